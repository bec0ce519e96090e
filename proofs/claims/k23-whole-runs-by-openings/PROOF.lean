import PyProof.Rows.All
import Wide.All
import OpenK.AllK
import Wide.FinOn
import HandS.ForMost
import HandS.Wide
import HandS.WideBits
import HandS.EndBits
import HandS.Deep
import HandS.Flow
import HandS.Conv
import HandS.TupAny
import HandS.TupMul
import HandS.IsInst
import HandS.Style
import HandS.Walk
import HandS.ForExc
import PyProof.Rows.ChunkLeaf
import HandS.Strs
import KE.GoesMore
import PyProof.DictMoreH
import HandS.Iter
import KE.KDictWalk
import HandS.Small
import HandS.TryOnly
import HandS.ExcIs
import HandS.ExcInit
import KE.KExcIs
import KE.KDictCopyH
import KE.BitLaws
import PySem.Challenge.RW_onestepcourt_k23_whole_runs_by_openings
set_option Elab.async false
set_option linter.all false
set_option maxRecDepth 100000
set_option maxHeartbeats 4000000
/-! The mirror layer, part A: values, the store, how they stand in a heap. -/
namespace Mi
open PySem L2

inductive W where
  | non | bl (b : Bool) | int (i : Int) | str (x : Str) | tup (xs : List W) | lst (xs : List W) | xst (xs : List W) | ref (i : Nat)
abbrev Fl := List (Str × W)
inductive Ob where
  | lst (xs : List W) | dK (kvs : List (Key × W)) | dT (kvs : List (List Key × W)) | ins (c : Nat) (fs : Fl) | dead
abbrev Sto := List Ob
abbrev Slo := List (Option W)
/-- where the store's objects stand; addresses that only a comprehension in progress may change -/
structure Bt where
  l : List (Option Addr)
  pr : List Addr

/-- what an evaluation comes to -/
inductive Out (α : Type) where
  | ok (a : α) (st : Sto) | exc (c : Nat) (fs : Fl) (st : Sto) | stuck
@[simp] def Out.bind {α β : Type} : Out α → (α → Sto → Out β) → Out β
  | .ok a st, f => f a st
  | .exc c fs st, _ => .exc c fs st
  | .stuck, _ => .stuck
/-- what a statement comes to -/
inductive SO where
  | nx (s : Slo) (st : Sto) | rt (w : W) (st : Sto) | bk (s : Slo) (st : Sto) | ct (s : Slo) (st : Sto) | exc (c : Nat) (fs : Fl) (st : Sto) | stuck
abbrev ME := Slo → Sto → Out W
abbrev MA := Slo → Sto → Out (List W)
abbrev MT := Slo → Sto → Out Bool
abbrev MS := Slo → Sto → SO
abbrev MF := List W → Sto → Out W

def NotIn (β : Bt) (p : Addr) : Prop := (∀ i : Nat, β.l[i]? ≠ some (some p)) ∧ p ∉ β.pr

/-- a list of the module's own top -/
def KL (K : PySem.W.Frag) (a : Addr) (xs : List V) : Prop :=
  ∃ (o : Obj) (its : Array Value) (n : Nat), K.lookup a = some o ∧ o.cls = .type "list" ∧ o.dict = none ∧ o.data = .seq its n ∧ its.size ≤ sizeLine ∧ Vals xs its.toList

mutual
inductive RV (K : PySem.W.Frag) (β : Bt) (H : Hp) : W → V → Prop
  | non : RV K β H .non .non
  | bl (b : Bool) : RV K β H (.bl b) (.bl b)
  | int (i : Int) : RV K β H (.int i) (.int i)
  | str (x : Str) : RV K β H (.str x) (.str x)
  | tup {p : Addr} {ws : List W} {vs : List V} : SqT K H p vs → RVs K β H ws vs → RV K β H (.tup ws) (.ref p)
  | lst {p : Addr} {ws : List W} {vs : List V} : H p = some (.lst vs) → NotIn β p → RVs K β H ws vs → RV K β H (.lst ws) (.ref p)
  | xst {p : Addr} {ws : List W} {vs : List V} : (KL K p vs ∨ ∃ o, H p = some (.frz o (.lst vs))) → RVs K β H ws vs → RV K β H (.xst ws) (.ref p)
  | ref {i : Nat} {a : Addr} : β.l[i]? = some (some a) → RV K β H (.ref i) (.ref a)
  | dead {i : Nat} {v : V} : β.l[i]? = some none → RV K β H (.ref i) v
inductive RVs (K : PySem.W.Frag) (β : Bt) (H : Hp) : List W → List V → Prop
  | nil : RVs K β H [] []
  | cons {w : W} {ws : List W} {v : V} {vs : List V} : RV K β H w v → RVs K β H ws vs → RVs K β H (w :: ws) (v :: vs)
end

structure Ext (K : PySem.W.Frag) (β : Bt) (H : Hp) (β' : Bt) (H' : Hp) : Prop where
  tup : ∀ p vs, SqT K H p vs → SqT K H' p vs
  lst : ∀ p vs, H p = some (.lst vs) → NotIn β p → H' p = some (.lst vs) ∧ NotIn β' p
  frz : ∀ p o u, H p = some (.frz o u) → H' p = some (.frz o u)
  live : ∀ (i : Nat) (o : Option Addr), β.l[i]? = some o → β'.l[i]? = some o ∨ β'.l[i]? = some none
  prot : ∀ p ∈ β.pr, ∀ o, H p = some o → p ∈ β'.pr ∧ H' p = some o
theorem Ext.refl (K : PySem.W.Frag) (β : Bt) (H : Hp) : Ext K β H β H := ⟨fun _ _ h => h, fun _ _ h n => ⟨h, n⟩, fun _ _ _ h => h, fun _ _ h => .inl h, fun _ hp _ h => ⟨hp, h⟩⟩
theorem Ext.trans {K : PySem.W.Frag} {β β1 β2 : Bt} {H H1 H2 : Hp} (a : Ext K β H β1 H1) (b : Ext K β1 H1 β2 H2) : Ext K β H β2 H2 where
  tup := fun p vs h => b.tup p vs (a.tup p vs h)
  lst := fun p vs h n => by
    obtain ⟨h1, n1⟩ := a.lst p vs h n
    exact b.lst p vs h1 n1
  frz := fun p o u h => b.frz p o u (a.frz p o u h)
  live := fun i o h => by
    rcases a.live i o h with h1 | h1
    · exact b.live i o h1
    · rcases b.live i _ h1 with h2 | h2
      · exact .inr h2
      · exact .inr h2
  prot := fun p hp o h => by
    obtain ⟨h1, h2⟩ := a.prot p hp o h
    exact b.prot p h1 o h2

section
variable {K : PySem.W.Frag} {β β' : Bt} {H H' : Hp}
mutual
theorem RV.ext (e : Ext K β H β' H') : ∀ {w : W} {v : V}, RV K β H w v → RV K β' H' w v
  | _, _, .non => .non
  | _, _, .bl b => .bl b
  | _, _, .int i => .int i
  | _, _, .str x => .str x
  | _, _, .tup h r => .tup (e.tup _ _ h) (RVs.ext e r)
  | _, _, .lst h n r => .lst (e.lst _ _ h n).1 (e.lst _ _ h n).2 (RVs.ext e r)
  | _, _, .xst h r => .xst (h.imp (fun x => x) fun ⟨o, x⟩ => ⟨o, e.frz _ _ _ x⟩) (RVs.ext e r)
  | _, _, .ref h => (e.live _ _ h).elim (fun x => .ref x) fun x => .dead x
  | _, _, .dead h => (e.live _ _ h).elim (fun x => .dead x) fun x => .dead x
theorem RVs.ext (e : Ext K β H β' H') : ∀ {ws : List W} {vs : List V}, RVs K β H ws vs → RVs K β' H' ws vs
  | _, _, .nil => .nil
  | _, _, .cons h r => .cons (RV.ext e h) (RVs.ext e r)
end
mutual
/-- an address less is protected -/
theorem RV.drop (hl : β'.l = β.l) (hp : ∀ p, p ∈ β'.pr → p ∈ β.pr) : ∀ {w : W} {v : V}, RV K β H w v → RV K β' H w v
  | _, _, .non => .non
  | _, _, .bl b => .bl b
  | _, _, .int i => .int i
  | _, _, .str x => .str x
  | _, _, .tup h r => .tup h (RVs.drop' hl hp r)
  | _, _, .lst h n r => .lst h ⟨fun i => by rw [hl]; exact n.1 i, fun z => n.2 (hp _ z)⟩ (RVs.drop' hl hp r)
  | _, _, .xst h r => .xst h (RVs.drop' hl hp r)
  | _, _, .ref h => .ref (by rw [hl]; exact h)
  | _, _, .dead h => .dead (by rw [hl]; exact h)
theorem RVs.drop' (hl : β'.l = β.l) (hp : ∀ p, p ∈ β'.pr → p ∈ β.pr) : ∀ {ws : List W} {vs : List V}, RVs K β H ws vs → RVs K β' H ws vs
  | _, _, .nil => .nil
  | _, _, .cons h r => .cons (RV.drop hl hp h) (RVs.drop' hl hp r)
end
theorem RVs.length : ∀ {ws : List W} {vs : List V}, RVs K β H ws vs → ws.length = vs.length
  | _, _, .nil => rfl
  | _, _, .cons _ r => by rw [List.length_cons, List.length_cons, RVs.length r]
theorem RVs.get : ∀ {ws : List W} {vs : List V} {i : Nat} {w : W}, RVs K β H ws vs → ws[i]? = some w → ∃ v, vs[i]? = some v ∧ RV K β H w v
  | _, _, _, _, .nil, e => by simp at e
  | _, _, 0, _, .cons h r, e => by simp at e; subst e; exact ⟨_, rfl, h⟩
  | _, _, i + 1, w, .cons h r, e => by
    obtain ⟨v, h1, h2⟩ := RVs.get (i := i) (w := w) r (by simpa using e)
    exact ⟨v, by simpa using h1, h2⟩
theorem RVs.getv : ∀ {ws : List W} {vs : List V} {i : Nat} {v : V}, RVs K β H ws vs → vs[i]? = some v → ∃ w, ws[i]? = some w ∧ RV K β H w v
  | _, _, _, _, .nil, e => by simp at e
  | _, _, 0, _, .cons h r, e => by simp at e; subst e; exact ⟨_, rfl, h⟩
  | _, _, i + 1, v, .cons h r, e => by
    obtain ⟨w, h1, h2⟩ := RVs.getv (i := i) (v := v) r (by simpa using e)
    exact ⟨w, by simpa using h1, h2⟩
theorem RVs.append : ∀ {ws ws' : List W} {vs vs' : List V}, RVs K β H ws vs → RVs K β H ws' vs' → RVs K β H (ws ++ ws') (vs ++ vs')
  | _, _, _, _, .nil, s => s
  | _, _, _, _, .cons h r, s => .cons h (RVs.append r s)
theorem RVs.take : ∀ {ws : List W} {vs : List V} (n : Nat), RVs K β H ws vs → RVs K β H (ws.take n) (vs.take n)
  | _, _, 0, _ => by simp; exact .nil
  | _, _, _ + 1, .nil => by simp; exact .nil
  | _, _, n + 1, .cons h r => .cons h (RVs.take n r)
theorem RVs.drop : ∀ {ws : List W} {vs : List V} (n : Nat), RVs K β H ws vs → RVs K β H (ws.drop n) (vs.drop n)
  | _, _, 0, r => r
  | _, _, _ + 1, .nil => by simp; exact .nil
  | _, _, n + 1, .cons _ r => RVs.drop n r
theorem RVs.set {w : W} {v : V} (h : RV K β H w v) : ∀ {ws : List W} {vs : List V} (i : Nat), RVs K β H ws vs → RVs K β H (ws.set i w) (vs.set i v)
  | _, _, _, .nil => .nil
  | _, _, 0, .cons _ r => .cons h r
  | _, _, i + 1, .cons q r => .cons q (RVs.set h i r)
theorem RVs.rep {ws : List W} {vs : List V} (h : RVs K β H ws vs) : ∀ k : Nat, RVs K β H (List.replicate k ws).flatten (List.replicate k vs).flatten
  | 0 => .nil
  | k + 1 => by
    rw [List.replicate_succ, List.replicate_succ, List.flatten_cons, List.flatten_cons]
    exact RVs.append h (RVs.rep h k)
theorem RVs.dropLast {ws : List W} {vs : List V} (h : RVs K β H ws vs) : RVs K β H ws.dropLast vs.dropLast := by
  rw [List.dropLast_eq_take, List.dropLast_eq_take, h.length]
  exact h.take _
theorem RVs.reverse : ∀ {ws : List W} {vs : List V}, RVs K β H ws vs → RVs K β H ws.reverse vs.reverse
  | _, _, .nil => .nil
  | _, _, .cons h r => by
    rw [List.reverse_cons, List.reverse_cons]
    exact (RVs.reverse r).append (.cons h .nil)
theorem RVs.eraseIdx : ∀ {ws : List W} {vs : List V} (i : Nat), RVs K β H ws vs → RVs K β H (ws.eraseIdx i) (vs.eraseIdx i)
  | _, _, _, .nil => .nil
  | _, _, 0, .cons _ r => r
  | _, _, i + 1, .cons q r => .cons q (RVs.eraseIdx i r)
end

/-- fields, a dict's pairs -/
inductive RF (K : PySem.W.Frag) (β : Bt) (H : Hp) {κ : Type} : List (κ × W) → List (κ × V) → Prop
  | nil : RF K β H [] []
  | cons {k : κ} {w : W} {v : V} {fs : List (κ × W)} {gs : List (κ × V)} : RV K β H w v → RF K β H fs gs → RF K β H ((k, w) :: fs) ((k, v) :: gs)
section
variable {K : PySem.W.Frag} {β β' : Bt} {H H' : Hp} {κ : Type}
theorem RF.ext (e : Ext K β H β' H') : ∀ {fs : List (κ × W)} {gs : List (κ × V)}, RF K β H fs gs → RF K β' H' fs gs
  | _, _, .nil => .nil
  | _, _, .cons h r => .cons (h.ext e) (RF.ext e r)
theorem RF.drop' (hl : β'.l = β.l) (hp : ∀ p, p ∈ β'.pr → p ∈ β.pr) : ∀ {fs : List (κ × W)} {gs : List (κ × V)}, RF K β H fs gs → RF K β' H fs gs
  | _, _, .nil => .nil
  | _, _, .cons h r => .cons (h.drop hl hp) (RF.drop' hl hp r)
theorem RF.length : ∀ {fs : List (κ × W)} {gs : List (κ × V)}, RF K β H fs gs → fs.length = gs.length
  | _, _, .nil => rfl
  | _, _, .cons _ r => by rw [List.length_cons, List.length_cons, RF.length r]
theorem RF.look [BEq κ] [LawfulBEq κ] {k : κ} : ∀ {fs : List (κ × W)} {gs : List (κ × V)} {w : W}, RF K β H fs gs → fs.lookup k = some w → ∃ v, gs.lookup k = some v ∧ RV K β H w v
  | _, _, _, .nil, e => by cases e
  | _, _, w, .cons (k := j) (w := u) (v := v) (fs := fs) (gs := gs) h r, e => by
    rw [List.lookup_cons] at e ⊢
    cases hk : (k == j) with
    | true =>
      rw [hk] at e
      cases e
      exact ⟨v, rfl, h⟩
    | false =>
      rw [hk] at e
      exact RF.look r e
theorem RF.lookN [BEq κ] [LawfulBEq κ] {k : κ} : ∀ {fs : List (κ × W)} {gs : List (κ × V)}, RF K β H fs gs → fs.lookup k = none → gs.lookup k = none
  | _, _, .nil, _ => rfl
  | _, _, .cons (k := j) h r, e => by
    rw [List.lookup_cons] at e ⊢
    cases hk : (k == j) with
    | true => rw [hk] at e; cases e
    | false =>
      rw [hk] at e
      exact RF.lookN r e
end
/-- a field stored -/
def putW (f : Str) (v : W) : Fl → Fl
  | [] => [(f, v)]
  | (g, u) :: r => if g = f then (f, v) :: r else (g, u) :: putW f v r
end Mi
/-! The mirror layer, part B: the store in a heap; what is wanted of an outcome. -/
namespace Mi
open PySem L2

abbrev Bt.push (β : Bt) (p : Addr) : Bt := ⟨β.l ++ [some p], β.pr⟩
abbrev Bt.letgo (β : Bt) (i : Nat) : Bt := ⟨β.l.set i none, β.pr⟩
abbrev Bt.guard (β : Bt) (p : Addr) : Bt := ⟨β.l, p :: β.pr⟩

section
variable (K : PySem.W.Frag) (Cl : Nat → Addr)
def RO (β : Bt) (H : Hp) (a : Addr) : Ob → Prop
  | .lst ws => ∃ vs, H a = some (.lst vs) ∧ RVs K β H ws vs
  | .dK kvs => ∃ gs, H a = some (.dK gs) ∧ RF K β H kvs gs
  | .dT kvs => ∃ gs, H a = some (.dT gs) ∧ RF K β H kvs gs
  | .ins c fs => ∃ dx gs, H a = some (.ins (Cl c) dx gs) ∧ RF K β H fs gs
  | .dead => False
structure HR (β : Bt) (H : Hp) (st : Sto) : Prop where
  len : β.l.length = st.length
  inj : ∀ (i j : Nat) (a : Addr), β.l[i]? = some (some a) → β.l[j]? = some (some a) → i = j
  ob : ∀ (i : Nat) (a : Addr) (o : Ob), β.l[i]? = some (some a) → st[i]? = some o → RO K Cl β H a o
  dead : ∀ i : Nat, β.l[i]? = some none → st[i]? = some .dead
  prot : ∀ p ∈ β.pr, (∃ o, H p = some o) ∧ ∀ i : Nat, β.l[i]? ≠ some (some p)
def SR (β : Bt) (H : Hp) (s : Slo) (σ : L2.St) : Prop := s.length = σ.length ∧ ∀ (i : Nat) (w : W), s[i]? = some (some w) → ∃ v, σ[i]? = some (some v) ∧ RV K β H w v
/-- an exception's own dict -/
def RX (β : Bt) (H : Hp) (fs : Fl) (d : Option Addr) : Prop := (fs = [] ∧ d = none) ∨ ∃ dd gs, d = some dd ∧ H dd = some (.xd gs) ∧ RF K β H fs gs

def PoG {α ω : Type} (R : Bt → Hp → α → ω → Prop) (E : XK) (β : Bt) (H : Hp) (Q : ω → Hp → Prop) : Out α → Prop
  | .ok a st => ∀ β' H' v, Ext K β H β' H' → HR K Cl β' H' st → R β' H' a v → Q v H'
  | .exc c fs st => ∀ β' H' d, Ext K β H β' H' → HR K Cl β' H' st → RX K β' H' fs d → E (.ref (Cl c)) d H'
  | .stuck => False
abbrev Po (E : XK) := PoG K Cl (RV K) E
abbrev PoL (E : XK) := PoG K Cl (RVs K) E
abbrev PoB (E : XK) := PoG K Cl (fun _ _ (a b : Bool) => a = b) E
def PoS (E : XK) (D : Ends) (β : Bt) (H : Hp) : SO → Prop
  | .nx s st => ∀ β' H' σ', Ext K β H β' H' → HR K Cl β' H' st → SR K β' H' s σ' → D.nx σ' H'
  | .rt w st => ∀ β' H' v, Ext K β H β' H' → HR K Cl β' H' st → RV K β' H' w v → D.rt v H'
  | .bk s st => ∀ β' H' σ', Ext K β H β' H' → HR K Cl β' H' st → SR K β' H' s σ' → D.bk σ' H'
  | .ct s st => ∀ β' H' σ', Ext K β H β' H' → HR K Cl β' H' st → SR K β' H' s σ' → D.ct σ' H'
  | .exc c fs st => ∀ β' H' d, Ext K β H β' H' → HR K Cl β' H' st → RX K β' H' fs d → E (.ref (Cl c)) d H'
  | .stuck => False
def SE (E : XK) (t : TE) (m : ME) : Prop := ∀ β H σ s st Q, HR K Cl β H st → SR K β H s σ → Po K Cl E β H Q (m s st) → t σ H Q
def SA (E : XK) (t : TA) (m : MA) : Prop := ∀ β H σ s st Q, HR K Cl β H st → SR K β H s σ → PoL K Cl E β H Q (m s st) → t σ H Q
def ST (E : XK) (t : TT) (m : MT) : Prop := ∀ β H σ s st Q, HR K Cl β H st → SR K β H s σ → PoB K Cl E β H Q (m s st) → t σ H Q
def SS (E : XK) (t : TS) (m : MS) : Prop := ∀ β H σ s st D, HR K Cl β H st → SR K β H s σ → PoS K Cl E D β H (m s st) → t D σ H
end

section
variable {K : PySem.W.Frag} {Cl : Nat → Addr} {E : XK} {β β' : Bt} {H H' : Hp} {α ω : Type} {R : Bt → Hp → α → ω → Prop} {Q Q' : ω → Hp → Prop} {st : Sto} {s : Slo} {σ : L2.St} {o : Out α}
theorem PoG.ext (e : Ext K β H β' H') (h : PoG K Cl R E β H Q o) : PoG K Cl R E β' H' Q o := by
  cases o with
  | ok a st => exact fun β2 H2 v e2 hr r => h β2 H2 v (e.trans e2) hr r
  | exc c fs st => exact fun β2 H2 d e2 hr r => h β2 H2 d (e.trans e2) hr r
  | stuck => exact h
theorem PoS.ext {D : Ends} {o : SO} (e : Ext K β H β' H') (h : PoS K Cl E D β H o) : PoS K Cl E D β' H' o := by
  cases o with
  | nx s st => exact fun β2 H2 v e2 hr r => h β2 H2 v (e.trans e2) hr r
  | rt s st => exact fun β2 H2 v e2 hr r => h β2 H2 v (e.trans e2) hr r
  | bk s st => exact fun β2 H2 v e2 hr r => h β2 H2 v (e.trans e2) hr r
  | ct s st => exact fun β2 H2 v e2 hr r => h β2 H2 v (e.trans e2) hr r
  | exc c fs st => exact fun β2 H2 d e2 hr r => h β2 H2 d (e.trans e2) hr r
  | stuck => exact h
theorem SR.ext (e : Ext K β H β' H') (h : SR K β H s σ) : SR K β' H' s σ := ⟨h.1, fun i w hw => by
  obtain ⟨v, h1, h2⟩ := h.2 i w hw
  exact ⟨v, h1, h2.ext e⟩⟩
theorem SR.set (h : SR K β H s σ) {i : Nat} {w : W} {v : V} (r : RV K β H w v) : SR K β H (s.set i (some w)) (σ.set i (some v)) := by
  refine ⟨by rw [List.length_set, List.length_set, h.1], fun j u hj => ?_⟩
  by_cases e : i = j
  · subst e
    by_cases hl : i < s.length
    · rw [List.getElem?_set_self hl] at hj
      cases hj
      exact ⟨v, by rw [List.getElem?_set_self (by rw [← h.1]; exact hl)], r⟩
    · rw [List.getElem?_eq_none (by rw [List.length_set]; omega)] at hj
      cases hj
  · rw [List.getElem?_set_ne e] at hj ⊢
    exact h.2 j u hj
theorem HR.len' (h : HR K Cl β H st) {i : Nat} {o : Option Addr} (e : β.l[i]? = some o) : i < st.length := by
  rw [← h.len]
  exact (List.getElem?_eq_some_iff.mp e).1
/-- what a live place of the store holds -/
theorem HR.at (h : HR K Cl β H st) {i : Nat} {ob : Ob} (e : st[i]? = some ob) (hd : ob ≠ .dead) : ∃ a, β.l[i]? = some (some a) ∧ RO K Cl β H a ob := by
  have hi : i < β.l.length := by
    rw [h.len]
    exact (List.getElem?_eq_some_iff.mp e).1
  cases hb : β.l[i]? with
  | none => rw [List.getElem?_eq_none_iff] at hb; omega
  | some o =>
    cases o with
    | none =>
      rw [h.dead i hb] at e
      exact absurd (Option.some.inj e).symm hd
    | some a => exact ⟨a, rfl, h.ob i a ob hb e⟩
/-- a ref with a live object -/
theorem RV.atRef {i : Nat} {v : V} {ob : Ob} (r : RV K β H (.ref i) v) (h : HR K Cl β H st) (e : st[i]? = some ob) (hd : ob ≠ .dead) : ∃ a, v = .ref a ∧ β.l[i]? = some (some a) ∧ RO K Cl β H a ob := by
  obtain ⟨a, hb, ro⟩ := h.at e hd
  cases r with
  | ref h1 =>
    rw [hb] at h1
    cases h1
    exact ⟨a, rfl, hb, ro⟩
  | dead h1 =>
    rw [hb] at h1
    cases h1
theorem RO.some {a : Addr} {ob : Ob} (r : RO K Cl β H a ob) : ∃ u, H a = some u ∧ Mut (some u) := by
  cases ob with
  | lst ws => obtain ⟨_, h, _⟩ := r; exact ⟨_, h, trivial⟩
  | dK ws => obtain ⟨_, h, _⟩ := r; exact ⟨_, h, trivial⟩
  | dT ws => obtain ⟨_, h, _⟩ := r; exact ⟨_, h, trivial⟩
  | ins c fs => obtain ⟨_, _, h, _⟩ := r; exact ⟨_, h, trivial⟩
  | dead => exact r.elim
theorem RO.ext {a : Addr} {ob : Ob} (e : Ext K β H β' H') (ha : H' a = H a) (r : RO K Cl β H a ob) : RO K Cl β' H' a ob := by
  cases ob with
  | lst ws => obtain ⟨vs, h, r⟩ := r; exact ⟨vs, ha.trans h, r.ext e⟩
  | dK ws => obtain ⟨vs, h, r⟩ := r; exact ⟨vs, ha.trans h, r.ext e⟩
  | dT ws => obtain ⟨vs, h, r⟩ := r; exact ⟨vs, ha.trans h, r.ext e⟩
  | ins c fs => obtain ⟨dx, vs, h, r⟩ := r; exact ⟨dx, vs, ha.trans h, r.ext e⟩
  | dead => exact r.elim

/-! ### a new object that the store does not know -/
theorem sqT_ne {p q : Addr} {o : HO} {vs : List V} (h : H p = none) (hq : SqT K H q vs) : SqT K (upd H p o) q vs := by
  rcases hq with (hq | ⟨u, hq⟩) | hq
  · exact .inl (.inl (by rw [upd_ne (ne_of_none hq h)]; exact hq))
  · exact .inl (.inr ⟨u, by rw [upd_ne (ne_of_none hq h)]; exact hq⟩)
  · exact .inr hq
theorem Ext.new {p : Addr} {o : HO} (h : H p = none) : Ext K β H β (upd H p o) where
  tup := fun q vs hq => sqT_ne h hq
  lst := fun q vs hq n => ⟨by rw [upd_ne (ne_of_none hq h)]; exact hq, n⟩
  frz := fun q u x hq => by rw [upd_ne (ne_of_none hq h)]; exact hq
  live := fun _ _ h => .inl h
  prot := fun q hp u hq => ⟨hp, by rw [upd_ne (ne_of_none hq h)]; exact hq⟩
theorem HR.fresh (h : HR K Cl β H st) {p : Addr} (hp : H p = none) : NotIn β p := by
  refine ⟨fun i hi => ?_, fun hi => ?_⟩
  · have hl := h.len' hi
    obtain ⟨ob, ho⟩ : ∃ ob, st[i]? = some ob := ⟨st[i], List.getElem?_eq_getElem hl⟩
    obtain ⟨u, hu, _⟩ := (h.ob i p ob hi ho).some
    rw [hp] at hu
    cases hu
  · obtain ⟨⟨o, ho⟩, _⟩ := h.prot p hi
    rw [hp] at ho
    cases ho
theorem HR.new (h : HR K Cl β H st) {p : Addr} {o : HO} (hp : H p = none) : HR K Cl β (upd H p o) st where
  len := h.len
  inj := h.inj
  ob := fun i a ob hi ho => by
    have r := h.ob i a ob hi ho
    obtain ⟨u, hu, _⟩ := r.some
    exact r.ext (Ext.new hp) (upd_ne (ne_of_none hu hp))
  dead := h.dead
  prot := fun q hq => by
    obtain ⟨⟨u, hu⟩, n⟩ := h.prot q hq
    exact ⟨⟨u, by rw [upd_ne (ne_of_none hu hp)]; exact hu⟩, n⟩
/-- any heap that keeps all that is tracked -/
theorem Ext.same (e : Same H H') : Ext K β H β H' where
  tup := fun q vs hq => by
    rcases hq with (hq | ⟨u, hq⟩) | hq
    · exact .inl (.inl (e _ _ hq))
    · exact .inl (.inr ⟨u, e _ _ hq⟩)
    · exact .inr hq
  lst := fun q vs hq n => ⟨e _ _ hq, n⟩
  frz := fun q u x hq => e _ _ hq
  live := fun _ _ h => .inl h
  prot := fun q hp u hq => ⟨hp, e _ _ hq⟩
theorem HR.same (h : HR K Cl β H st) (e : Same H H') : HR K Cl β H' st where
  len := h.len
  inj := h.inj
  ob := fun i a ob hi ho => by
    have r := h.ob i a ob hi ho
    obtain ⟨u, hu, _⟩ := r.some
    exact r.ext (Ext.same e) (by rw [e _ _ hu, hu])
  dead := h.dead
  prot := fun q hq => by
    obtain ⟨⟨u, hu⟩, n⟩ := h.prot q hq
    exact ⟨⟨u, e _ _ hu⟩, n⟩

/-! ### a new object of the store -/
theorem push_at {p : Addr} {i : Nat} {o : Option Addr} (h : (β.push p).l[i]? = some o) : β.l[i]? = some o ∨ (i = β.l.length ∧ o = some p) := by
  by_cases hl : i < β.l.length
  · rw [List.getElem?_append_left hl] at h
    exact .inl h
  · rw [List.getElem?_append_right (by omega)] at h
    cases hk : i - β.l.length with
    | zero =>
      rw [hk] at h
      exact .inr ⟨by omega, (Option.some.inj h).symm⟩
    | succ k => rw [hk] at h; simp at h
theorem Ext.push {p : Addr} {o : HO} (h : H p = none) : Ext K β H (β.push p) (upd H p o) where
  tup := fun q vs hq => sqT_ne h hq
  lst := fun q vs hq n => ⟨by rw [upd_ne (ne_of_none hq h)]; exact hq, fun i hi => by
    have hne := ne_of_none hq h
    rcases push_at hi with hi | ⟨_, hi⟩
    · exact n.1 i hi
    · exact hne (Option.some.inj hi), n.2⟩
  frz := fun q u x hq => by rw [upd_ne (ne_of_none hq h)]; exact hq
  live := fun i o hi => .inl (by rw [List.getElem?_append_left (List.getElem?_eq_some_iff.mp hi).1]; exact hi)
  prot := fun q hp u hq => ⟨hp, by rw [upd_ne (ne_of_none hq h)]; exact hq⟩
theorem HR.push (h : HR K Cl β H st) {p : Addr} {o : HO} {ob : Ob} (hp : H p = none) (r : RO K Cl (β.push p) (upd H p o) p ob) : HR K Cl (β.push p) (upd H p o) (st ++ [ob]) where
  len := by
    show (β.l ++ [some p]).length = _
    rw [List.length_append, List.length_append, h.len] <;> rfl
  inj := fun i j a hi hj => by
    have nf := (h.fresh hp).1
    rcases push_at hi with hi | ⟨hi, ei⟩
    · rcases push_at hj with hj | ⟨hj, ej⟩
      · exact h.inj i j a hi hj
      · cases ej
        exact absurd hi (nf i)
    · rcases push_at hj with hj | ⟨hj, ej⟩
      · cases ei
        exact absurd hj (nf j)
      · rw [hi, hj]
  ob := fun i a ob' hi ho => by
    rcases push_at hi with hi | ⟨hi, ei⟩
    · have hl := h.len' hi
      rw [List.getElem?_append_left hl] at ho
      have r' := h.ob i a ob' hi ho
      obtain ⟨u, hu, _⟩ := r'.some
      exact r'.ext (Ext.push hp) (upd_ne (ne_of_none hu hp))
    · cases ei
      rename_i hi2
      have hi3 : i = st.length := by rw [← h.len]; exact hi2
      rw [hi3, List.getElem?_append_right (Nat.le_refl _), Nat.sub_self] at ho
      cases ho
      exact r
  dead := fun i hi => by
    rcases push_at hi with hi | ⟨_, ei⟩
    · have hl := h.len' hi
      rw [List.getElem?_append_left hl]
      exact h.dead i hi
    · cases ei
  prot := fun q hq => by
    obtain ⟨⟨u, hu⟩, n⟩ := h.prot q hq
    have hne := ne_of_none hu hp
    refine ⟨⟨u, by rw [upd_ne hne]; exact hu⟩, fun i hi => ?_⟩
    rcases push_at hi with hi | ⟨_, hi⟩
    · exact n i hi
    · exact hne (Option.some.inj hi)
theorem push_last {p : Addr} : (β.push p).l[β.l.length]? = some (some p) := by
  show (β.l ++ [some p])[β.l.length]? = _
  simp

/-! ### an object of the store changes -/
theorem Ext.mut (hr : HR K Cl β H st) {i : Nat} {a : Addr} {o u : HO} (hb : β.l[i]? = some (some a)) (hu : H a = some u) (hm : Mut (some u)) : Ext K β H β (upd H a o) where
  tup := fun q vs hq => by
    rcases hq with (hq | ⟨x, hq⟩) | hq
    · exact .inl (.inl (by rw [upd_ne (fun e => by subst e; rw [hu] at hq; cases hq; exact hm)]; exact hq))
    · exact .inl (.inr ⟨x, by rw [upd_ne (fun e => by subst e; rw [hu] at hq; cases hq; exact hm)]; exact hq⟩)
    · exact .inr hq
  lst := fun q vs hq n => ⟨by rw [upd_ne (fun e => by subst e; exact n.1 i hb)]; exact hq, n⟩
  frz := fun q x y hq => by rw [upd_ne (fun e => by subst e; rw [hu] at hq; cases hq; exact hm)]; exact hq
  live := fun _ _ h => .inl h
  prot := fun q hp u hq => ⟨hp, by rw [upd_ne (fun e => by subst e; exact (hr.prot _ hp).2 i hb)]; exact hq⟩
theorem HR.mut (h : HR K Cl β H st) {i : Nat} {a : Addr} {o u : HO} {ob : Ob} (hb : β.l[i]? = some (some a)) (hu : H a = some u) (hm : Mut (some u)) (r : RO K Cl β (upd H a o) a ob) : HR K Cl β (upd H a o) (st.set i ob) where
  len := by rw [List.length_set]; exact h.len
  inj := h.inj
  ob := fun j b ob' hj ho => by
    by_cases e : i = j
    · subst e
      rw [hb] at hj
      cases hj
      rw [List.getElem?_set_self (h.len' hb)] at ho
      cases ho
      exact r
    · rw [List.getElem?_set_ne e] at ho
      have hne : b ≠ a := fun z => by
        subst z
        exact e (h.inj i j b hb hj)
      exact (h.ob j b ob' hj ho).ext (Ext.mut h hb hu hm) (upd_ne hne)
  dead := fun j hj => by
    have e : i ≠ j := fun z => by
      subst z
      rw [hb] at hj
      cases hj
    rw [List.getElem?_set_ne e]
    exact h.dead j hj
  prot := fun q hq => by
    obtain ⟨⟨u, hu'⟩, n⟩ := h.prot q hq
    refine ⟨?_, n⟩
    by_cases e : q = a
    · subst e
      exact absurd hb (n i)
    · exact ⟨u, by rw [upd_ne e]; exact hu'⟩

/-! ### an object of the store is let go: its list becomes a value -/
theorem let_at {i j : Nat} {o : Option Addr} (h : (β.letgo i).l[j]? = some o) : (j = i ∧ o = none) ∨ (j ≠ i ∧ β.l[j]? = some o) := by
  by_cases e : i = j
  · subst e
    by_cases hl : i < β.l.length
    · rw [List.getElem?_set_self hl] at h
      exact .inl ⟨rfl, (Option.some.inj h).symm⟩
    · rw [List.getElem?_eq_none (by rw [List.length_set]; omega)] at h
      cases h
  · rw [List.getElem?_set_ne e] at h
    exact .inr ⟨fun z => e z.symm, h⟩
theorem Ext.letgo {i : Nat} : Ext K β H (β.letgo i) H where
  tup := fun q vs hq => hq
  lst := fun q vs hq n => ⟨hq, fun j hj => by
    rcases let_at hj with ⟨_, e⟩ | ⟨_, e⟩
    · cases e
    · exact n.1 j e, n.2⟩
  frz := fun q x y hq => hq
  live := fun j o hj => by
    by_cases e : i = j
    · subst e
      exact .inr (by rw [List.getElem?_set_self (List.getElem?_eq_some_iff.mp hj).1])
    · exact .inl (by rw [List.getElem?_set_ne e]; exact hj)
  prot := fun q hp u hq => ⟨hp, hq⟩
theorem HR.letgo (h : HR K Cl β H st) {i : Nat} {a : Addr} (hb : β.l[i]? = some (some a)) : HR K Cl (β.letgo i) H (st.set i .dead) where
  len := by
    show (β.l.set i none).length = _
    rw [List.length_set, List.length_set]
    exact h.len
  inj := fun j k b hj hk => by
    rcases let_at hj with ⟨_, e⟩ | ⟨_, e⟩
    · cases e
    · rcases let_at hk with ⟨_, e'⟩ | ⟨_, e'⟩
      · cases e'
      · exact h.inj j k b e e'
  ob := fun j b ob hj ho => by
    rcases let_at hj with ⟨_, e⟩ | ⟨ne, e⟩
    · cases e
    · rw [List.getElem?_set_ne (fun z => ne z.symm)] at ho
      exact (h.ob j b ob e ho).ext Ext.letgo rfl
  dead := fun j hj => by
    rcases let_at hj with ⟨e, _⟩ | ⟨ne, e⟩
    · subst e
      rw [List.getElem?_set_self (h.len' hb)]
    · rw [List.getElem?_set_ne (fun z => ne z.symm)]
      exact h.dead j e
  prot := fun q hq => by
    obtain ⟨hu, n⟩ := h.prot q hq
    refine ⟨hu, fun j hj => ?_⟩
    rcases let_at hj with ⟨_, e⟩ | ⟨_, e⟩
    · cases e
    · exact n j e

/-! ### a list that a comprehension makes: guarded, outside of the store -/
theorem Ext.guard {p : Addr} {o : HO} (h : H p = none) : Ext K β H (β.guard p) (upd H p o) where
  tup := fun q vs hq => sqT_ne h hq
  lst := fun q vs hq n => ⟨by rw [upd_ne (ne_of_none hq h)]; exact hq, n.1, fun z => by
    rcases List.mem_cons.mp z with z | z
    · exact ne_of_none hq h z
    · exact n.2 z⟩
  frz := fun q u x hq => by rw [upd_ne (ne_of_none hq h)]; exact hq
  live := fun _ _ h => .inl h
  prot := fun q hp u hq => ⟨List.mem_cons_of_mem _ hp, by rw [upd_ne (ne_of_none hq h)]; exact hq⟩
theorem HR.guard (h : HR K Cl β H st) {p : Addr} {o : HO} (hp : H p = none) : HR K Cl (β.guard p) (upd H p o) st where
  len := h.len
  inj := h.inj
  ob := fun i a ob hi ho => by
    have r := h.ob i a ob hi ho
    obtain ⟨u, hu, _⟩ := r.some
    exact r.ext (Ext.guard hp) (upd_ne (ne_of_none hu hp))
  dead := h.dead
  prot := fun q hq => by
    rcases List.mem_cons.mp hq with e | hq
    · subst e
      exact ⟨⟨o, upd_same⟩, (h.fresh hp).1⟩
    · obtain ⟨⟨u, hu⟩, n⟩ := h.prot q hq
      exact ⟨⟨u, by rw [upd_ne (ne_of_none hu hp)]; exact hu⟩, n⟩
/-- the guarded list at p has changed: what was known is known again -/
theorem Ext.gset {p : Addr} {vs : List V} {o : HO} (hu : H p = some (.lst vs)) (hp : p ∈ β.pr) (β0 : Bt) (H0 : Hp) (e : Ext K β0 H0 β H) (h0 : H0 p = none) : Ext K β0 H0 β (upd H p o) where
  tup := fun q us hq => by
    have hq' := e.tup q us hq
    rcases hq with (hq | ⟨x, hq⟩) | hq
    · rcases hq' with (hq' | ⟨x, hq'⟩) | hq'
      · exact .inl (.inl (by rw [upd_ne (ne_of_none hq h0)]; exact hq'))
      · exact .inl (.inr ⟨x, by rw [upd_ne (ne_of_none hq h0)]; exact hq'⟩)
      · exact .inr hq'
    · rcases hq' with (hq' | ⟨x, hq'⟩) | hq'
      · exact .inl (.inl (by rw [upd_ne (ne_of_none hq h0)]; exact hq'))
      · exact .inl (.inr ⟨x, by rw [upd_ne (ne_of_none hq h0)]; exact hq'⟩)
      · exact .inr hq'
    · exact .inr hq
  lst := fun q us hq n => ⟨by rw [upd_ne (ne_of_none hq h0)]; exact (e.lst q us hq n).1, (e.lst q us hq n).2⟩
  frz := fun q u x hq => by rw [upd_ne (ne_of_none hq h0)]; exact e.frz q u x hq
  live := e.live
  prot := fun q hq u hu => ⟨(e.prot q hq u hu).1, by rw [upd_ne (ne_of_none hu h0)]; exact (e.prot q hq u hu).2⟩
/-- the same for what was reckoned while the list was guarded -/
structure Keep (K : PySem.W.Frag) (β : Bt) (H H' : Hp) : Prop where
  tup : ∀ p vs, SqT K H p vs → SqT K H' p vs
  lst : ∀ p vs, H p = some (.lst vs) → NotIn β p → H' p = some (.lst vs)
  frz : ∀ p o u, H p = some (.frz o u) → H' p = some (.frz o u)
mutual
theorem RV.keep (e : Keep K β H H') : ∀ {w : W} {v : V}, RV K β H w v → RV K β H' w v
  | _, _, .non => .non
  | _, _, .bl b => .bl b
  | _, _, .int i => .int i
  | _, _, .str x => .str x
  | _, _, .tup h r => .tup (e.tup _ _ h) (RVs.keep e r)
  | _, _, .lst h n r => .lst (e.lst _ _ h n) n (RVs.keep e r)
  | _, _, .xst h r => .xst (h.imp (fun x => x) fun ⟨o, x⟩ => ⟨o, e.frz _ _ _ x⟩) (RVs.keep e r)
  | _, _, .ref h => .ref h
  | _, _, .dead h => .dead h
theorem RVs.keep (e : Keep K β H H') : ∀ {ws : List W} {vs : List V}, RVs K β H ws vs → RVs K β H' ws vs
  | _, _, .nil => .nil
  | _, _, .cons h r => .cons (RV.keep e h) (RVs.keep e r)
end
theorem RF.keep {κ : Type} (e : Keep K β H H') : ∀ {fs : List (κ × W)} {gs : List (κ × V)}, RF K β H fs gs → RF K β H' fs gs
  | _, _, .nil => .nil
  | _, _, .cons h r => .cons (h.keep e) (RF.keep e r)
theorem Keep.gset {p : Addr} {vs : List V} {o : HO} (hu : H p = some (.lst vs)) (hp : p ∈ β.pr) : Keep K β H (upd H p o) where
  tup := fun q us hq => by
    rcases hq with (hq | ⟨x, hq⟩) | hq
    · exact .inl (.inl (by rw [upd_ne (fun e => by subst e; rw [hu] at hq; cases hq)]; exact hq))
    · exact .inl (.inr ⟨x, by rw [upd_ne (fun e => by subst e; rw [hu] at hq; cases hq)]; exact hq⟩)
    · exact .inr hq
  lst := fun q us hq n => by rw [upd_ne (fun e => by subst e; exact n.2 hp)]; exact hq
  frz := fun q x y hq => by rw [upd_ne (fun e => by subst e; rw [hu] at hq; cases hq)]; exact hq
theorem RO.keep {a : Addr} {ob : Ob} (e : Keep K β H H') (ha : H' a = H a) (r : RO K Cl β H a ob) : RO K Cl β H' a ob := by
  cases ob with
  | lst ws => obtain ⟨vs, h, r⟩ := r; exact ⟨vs, ha.trans h, r.keep e⟩
  | dK ws => obtain ⟨vs, h, r⟩ := r; exact ⟨vs, ha.trans h, r.keep e⟩
  | dT ws => obtain ⟨vs, h, r⟩ := r; exact ⟨vs, ha.trans h, r.keep e⟩
  | ins c fs => obtain ⟨dx, vs, h, r⟩ := r; exact ⟨dx, vs, ha.trans h, r.keep e⟩
  | dead => exact r.elim
theorem HR.gset (h : HR K Cl β H st) {p : Addr} {vs : List V} {o : HO} (hu : H p = some (.lst vs)) (hp : p ∈ β.pr) : HR K Cl β (upd H p o) st where
  len := h.len
  inj := h.inj
  ob := fun i a ob hi ho => (h.ob i a ob hi ho).keep (Keep.gset hu hp) (upd_ne fun e => by subst e; exact (h.prot _ hp).2 i hi)
  dead := h.dead
  prot := fun q hq => by
    obtain ⟨⟨u, hu'⟩, n⟩ := h.prot q hq
    refine ⟨?_, n⟩
    by_cases e : q = p
    · subst e
      exact ⟨o, upd_same⟩
    · exact ⟨u, by rw [upd_ne e]; exact hu'⟩
/-- the guard is taken away -/
theorem RO.drop {a : Addr} {ob : Ob} (hl : β'.l = β.l) (hp : ∀ p, p ∈ β'.pr → p ∈ β.pr) (r : RO K Cl β H a ob) : RO K Cl β' H a ob := by
  cases ob with
  | lst ws => obtain ⟨vs, h, r⟩ := r; exact ⟨vs, h, r.drop' hl hp⟩
  | dK ws => obtain ⟨vs, h, r⟩ := r; exact ⟨vs, h, r.drop' hl hp⟩
  | dT ws => obtain ⟨vs, h, r⟩ := r; exact ⟨vs, h, r.drop' hl hp⟩
  | ins c fs => obtain ⟨dx, vs, h, r⟩ := r; exact ⟨dx, vs, h, r.drop' hl hp⟩
  | dead => exact r.elim
theorem HR.drop (h : HR K Cl β H st) (hl : β'.l = β.l) (hp : ∀ p, p ∈ β'.pr → p ∈ β.pr) : HR K Cl β' H st where
  len := by rw [hl]; exact h.len
  inj := by rw [hl]; exact h.inj
  ob := fun i a ob hi ho => by
    rw [hl] at hi
    exact (h.ob i a ob hi ho).drop hl hp
  dead := by rw [hl]; exact h.dead
  prot := fun q hq => by
    rw [hl]
    exact h.prot q (hp q hq)
/-- from ahead of the guard to behind it -/
theorem Ext.drop {p : Addr} (e : Ext K β H β' H') (h0 : ∀ q, q ∈ β.pr → ∃ o, H q = some o) (hp : H p = none) : Ext K β H ⟨β'.l, β'.pr.filter fun q => decide (q ≠ p)⟩ H' where
  tup := e.tup
  lst := fun q us hq n => ⟨(e.lst q us hq n).1, (e.lst q us hq n).2.1, fun z => (e.lst q us hq n).2.2 (List.mem_filter.mp z).1⟩
  frz := e.frz
  live := e.live
  prot := fun q hq u hu => ⟨List.mem_filter.mpr ⟨(e.prot q hq u hu).1, decide_eq_true (ne_of_none hu hp)⟩, (e.prot q hq u hu).2⟩
end
end Mi
/-! The mirror layer, part C: expressions. -/
namespace Mi
open PySem L2

/-! ### judgements: the hand layer's term exists, and its reading follows from the mirror -/
structure JE (X : Cx) (Cl : Nat → Addr) (E : XK) (e : Expr) (m : ME) : Prop where
  ex : ∃ t, PE X e t ∧ SE X.K Cl E t m
structure JA (X : Cx) (Cl : Nat → Addr) (E : XK) (es : List Expr) (m : MA) : Prop where
  ex : ∃ t, PA X es t ∧ SA X.K Cl E t m
structure JT (X : Cx) (Cl : Nat → Addr) (E : XK) (e : Expr) (m : MT) : Prop where
  ex : ∃ t, PT X e t ∧ ST X.K Cl E t m
structure JW (X : Cx) (Cl : Nat → Addr) (E : XK) (e : Expr) (m : MT) : Prop where
  ex : ∃ t, PW X e t ∧ ST X.K Cl E t m

section
variable {K : PySem.W.Frag} {Cl : Nat → Addr} {E : XK} {β : Bt} {H : Hp} {α α' ω ω' : Type} {R1 : Bt → Hp → α → ω → Prop} {R2 : Bt → Hp → α' → ω' → Prop}
theorem PoG.bind {Q : ω' → Hp → Prop} {Q1 : ω → Hp → Prop} {o : Out α} {f : α → Sto → Out α'} (h : PoG K Cl R2 E β H Q (o.bind f))
    (k : ∀ a st1 β1 H1 v, o = .ok a st1 → Ext K β H β1 H1 → HR K Cl β1 H1 st1 → R1 β1 H1 a v → PoG K Cl R2 E β1 H1 Q (f a st1) → Q1 v H1) : PoG K Cl R1 E β H Q1 o := by
  cases o with
  | ok a st => exact fun β1 H1 v e hr r => k a st β1 H1 v rfl e hr r (PoG.ext e h)
  | exc c fs st => exact h
  | stuck => exact h
theorem PoG.val {Q : ω' → Hp → Prop} {a : α'} {st : Sto} {v : ω'} (h : PoG K Cl R2 E β H Q (.ok a st)) (hr : HR K Cl β H st) (r : R2 β H a v) : Q v H := h β H v (Ext.refl K β H) hr r
end

/-! ### values as data -/
mutual
@[simp] def toPy : W → Option PyData
  | .non => some .none
  | .bl b => some (.bool b)
  | .int i => some (.int i)
  | .str x => some (.str x)
  | .tup xs => (toPys xs).map .tuple
  | .lst xs => (toPys xs).map .list
  | .xst xs => (toPys xs).map .list
  | .ref _ => none
@[simp] def toPys : List W → Option (List PyData)
  | [] => some []
  | w :: ws => match toPy w, toPys ws with
    | some d, some ds => some (d :: ds)
    | _, _ => none
end
/-- a list's items -/
@[simp] def asL (w : W) (st : Sto) : Option (List W) := match w with
  | .lst ws => some ws
  | .xst ws => some ws
  | .ref i => match st[i]? with
    | some (.lst ws) => some ws
    | _ => none
  | _ => none
/-- .. of one of the call's own -/
@[simp] def asLM (w : W) (st : Sto) : Option (List W) := match w with
  | .lst ws => some ws
  | .ref i => match st[i]? with
    | some (.lst ws) => some ws
    | _ => none
  | _ => none
@[simp] def toPyS (w : W) (st : Sto) : Option PyData := match w with
  | .ref i => match st[i]? with
    | some (.lst ws) => (toPys ws).map .list
    | _ => none
  | w => toPy w
@[simp] def truth (w : W) (st : Sto) : Option Bool := match w with
  | .non => some false
  | .bl b => some b
  | .int i => some (i != 0)
  | .str x => if x.length ≤ sizeLine then some ((x.length : Int) != 0) else none
  | .tup xs => some (!xs.isEmpty)
  | .lst xs => some (!xs.isEmpty)
  | .xst xs => some (!xs.isEmpty)
  | .ref i => match st[i]? with
    | some (.lst xs) => some (!xs.isEmpty)
    | some (.dK xs) => some (!xs.isEmpty)
    | _ => none
@[simp] def flatW : W → Bool
  | .non => true | .bl _ => true | .int _ => true | .str _ => true | _ => false
@[simp] def toV : W → V
  | .non => .non | .bl b => .bl b | .int i => .int i | .str x => .str x | _ => .non

section
variable {K : PySem.W.Frag} {Cl : Nat → Addr} {E : XK} {β : Bt} {H : Hp} {st : Sto}
theorem KL.sq {a : Addr} {vs : List V} (h : KL K a vs ∨ ∃ o, H a = some (.frz o (.lst vs))) : SqL K H a vs := h.elim (fun x => .inr x) fun ⟨o, x⟩ => .inl (.inr ⟨o, x⟩)
mutual
theorem toPy_dp : ∀ {w : W} {v : V} {d : PyData}, RV K β H w v → toPy w = some d → Dp K H v d
  | _, _, _, .non, h => by cases h; exact .non
  | _, _, _, .bl b, h => by cases h; exact .bl b
  | _, _, _, .int i, h => by cases h; exact .int i
  | _, _, _, .str x, h => by cases h; exact .str x
  | _, _, _, .tup (ws := ws) hs r, h => by
    simp only [toPy, Option.map_eq_some_iff] at h
    obtain ⟨ds, h1, h2⟩ := h
    subst h2
    exact .tup hs (toPys_dp r h1)
  | _, _, _, .lst hs n r, h => by
    simp only [toPy, Option.map_eq_some_iff] at h
    obtain ⟨ds, h1, h2⟩ := h
    subst h2
    exact .lst (SqL.of hs) (toPys_dp r h1)
  | _, _, _, .xst hs r, h => by
    simp only [toPy, Option.map_eq_some_iff] at h
    obtain ⟨ds, h1, h2⟩ := h
    subst h2
    exact .lst (KL.sq hs) (toPys_dp r h1)
  | _, _, _, .ref _, h => by cases h
  | _, _, _, .dead _, h => by cases h
theorem toPys_dp : ∀ {ws : List W} {vs : List V} {ds : List PyData}, RVs K β H ws vs → toPys ws = some ds → DpAll K H vs ds
  | _, _, _, .nil, h => by cases h; exact .nil
  | _, _, _, .cons (w := w) (ws := ws) r rr, h => by
    simp only [toPys] at h
    cases h1 : toPy w with
    | none => rw [h1] at h; cases h
    | some d =>
      cases h2 : toPys ws with
      | none => rw [h1, h2] at h; cases h
      | some ds =>
        rw [h1, h2] at h
        cases h
        exact .cons (toPy_dp r h1) (toPys_dp rr h2)
end
theorem asL_ok {w : W} {v : V} {ws : List W} (hr : HR K Cl β H st) (r : RV K β H w v) (h : asL w st = some ws) : ∃ p vs, v = .ref p ∧ SqL K H p vs ∧ RVs K β H ws vs := by
  cases w with
  | lst xs => cases h; cases r with | lst h1 _ h3 => exact ⟨_, _, rfl, SqL.of h1, h3⟩
  | xst xs => cases h; cases r with | xst h1 h3 => exact ⟨_, _, rfl, KL.sq h1, h3⟩
  | ref i =>
    simp only [asL] at h
    split at h
    · rename_i e
      cases h
      obtain ⟨a, rfl, _, vs, h1, h2⟩ := r.atRef hr e (by intro z; cases z)
      exact ⟨a, vs, rfl, SqL.of h1, h2⟩
    · cases h
  | _ => cases h
theorem asLM_ok {w : W} {v : V} {ws : List W} (hr : HR K Cl β H st) (r : RV K β H w v) (h : asLM w st = some ws) : ∃ p vs, v = .ref p ∧ H p = some (.lst vs) ∧ RVs K β H ws vs := by
  cases w with
  | lst xs => cases h; cases r with | lst h1 _ h3 => exact ⟨_, _, rfl, h1, h3⟩
  | ref i =>
    simp only [asLM] at h
    split at h
    · rename_i e
      cases h
      obtain ⟨a, rfl, _, vs, h1, h2⟩ := r.atRef hr e (by intro z; cases z)
      exact ⟨a, vs, rfl, h1, h2⟩
    · cases h
  | _ => cases h
theorem toPyS_dp {w : W} {v : V} {d : PyData} (hr : HR K Cl β H st) (r : RV K β H w v) (h : toPyS w st = some d) : Dp K H v d := by
  cases w with
  | ref i =>
    simp only [toPyS] at h
    split at h
    · rename_i e
      obtain ⟨a, rfl, _, vs, h1, h2⟩ := r.atRef hr e (by intro z; cases z)
      simp only [Option.map_eq_some_iff] at h
      obtain ⟨ds, h3, h4⟩ := h
      subst h4
      exact .lst (SqL.of h1) (toPys_dp h2 h3)
    · cases h
  | _ => exact toPy_dp r h
theorem RVs.emp {ws : List W} {vs : List V} (r : RVs K β H ws vs) : ws.isEmpty = vs.isEmpty := by cases r <;> rfl
theorem truth_ok {w : W} {v : V} {k : Bool} (hr : HR K Cl β H st) (r : RV K β H w v) (h : truth w st = some k) : TruV K v H k := by
  cases w with
  | non => cases h; cases r; rfl
  | bl b => cases h; cases r; rfl
  | int i => cases h; cases r; rfl
  | str x =>
    simp only [truth] at h
    split at h
    · cases h
      cases r
      exact ⟨by assumption, rfl⟩
    · cases h
  | tup xs => cases h; cases r with | tup h1 h2 => exact .inr (.inl ⟨_, h1, by rw [h2.emp]⟩)
  | lst xs => cases h; cases r with | lst h1 _ h2 => exact .inl ⟨_, SqL.of h1, by rw [h2.emp]⟩
  | xst xs => cases h; cases r with | xst h1 h2 => exact .inl ⟨_, KL.sq h1, by rw [h2.emp]⟩
  | ref i =>
    simp only [truth] at h
    split at h
    · rename_i e
      cases h
      obtain ⟨a, rfl, _, vs, h1, h2⟩ := r.atRef hr e (by intro z; cases z)
      exact .inl ⟨_, SqL.of h1, by rw [h2.emp]⟩
    · rename_i e
      cases h
      obtain ⟨a, rfl, _, vs, h1, h2⟩ := r.atRef hr e (by intro z; cases z)
      exact .inr (.inr ⟨_, h1, by cases h2 <;> rfl⟩)
    · cases h
theorem flat_v {w : W} {v : V} (r : RV K β H w v) (h : flatW w = true) : v = toV w ∧ flatV v = true := by
  cases r <;> first | exact ⟨rfl, rfl⟩ | cases h
theorem flat_vs : ∀ {ws : List W} {vs : List V}, RVs K β H ws vs → ws.all flatW = true → vs = ws.map toV ∧ vs.all flatV = true
  | _, _, .nil, _ => ⟨rfl, rfl⟩
  | _, _, .cons r rr, h => by
    simp only [List.all_cons, Bool.and_eq_true] at h
    obtain ⟨e, f⟩ := flat_v r h.1
    obtain ⟨e', f'⟩ := flat_vs rr h.2
    subst e e'
    exact ⟨rfl, by simp only [List.all_cons, Bool.and_eq_true]; exact ⟨f, f'⟩⟩
end

/-! ### names and constants -/
@[simp] def mVar (i : Nat) : ME := fun s st => match s[i]? with
  | some (some w) => .ok w st
  | _ => .stuck
@[simp] def mC (w : W) : ME := fun _ st => .ok w st
section
variable {X : Cx} {Cl : Nat → Addr} {E : XK} {pos : Pos}
theorem se_var {K : PySem.W.Frag} {i : Nat} : SE K Cl E (tVar i) (mVar i) := fun β H σ s st Q hr hs h => by
  unfold mVar at h
  split at h
  · rename_i w e
    obtain ⟨v, h1, h2⟩ := hs.2 i w e
    exact ⟨v, h1, PoG.val h hr h2⟩
  · exact h.elim
theorem je_var (i : Nat) {x : Str} (hN : X.N[i]? = some x := by rfl) (hv : Vis X.env.scope x := by first | exact Or.inl rfl | exact Or.inr (Or.inl rfl) | exact Or.inr (Or.inr rfl)) (hd : (x == ("__debug__" : Str)) = false := by decide)
    (hcd : (x == ("__classdict__" : Str)) = false := by decide) : JE X Cl E (.Name x pos) (mVar i) := ⟨_, pe_var hN hv hd hcd, se_var⟩
theorem se_c {K : PySem.W.Frag} {w : W} {v : V} (r : ∀ β H, RV K β H w v) : SE K Cl E (tC v) (mC w) := fun β H σ s st Q hr hs h => PoG.val h hr (r β H)
theorem je_int {i j} : JE X Cl E (.Constant (.int i) j pos) (mC (.int i)) := ⟨_, pe_int, se_c fun _ _ => .int i⟩
theorem je_bl {b j} : JE X Cl E (.Constant (.bool b) j pos) (mC (.bl b)) := ⟨_, pe_bl, se_c fun _ _ => .bl b⟩
theorem je_non {j} : JE X Cl E (.Constant .none j pos) (mC .non) := ⟨_, pe_non, se_c fun _ _ => .non⟩
theorem je_str {x j} : JE X Cl E (.Constant (.str x) j pos) (mC (.str x)) := ⟨_, pe_str, se_c fun _ _ => .str x⟩
/-- a constant of the module: what its name holds -/
structure GC (K : PySem.W.Frag) (mg : Str → Option Value) (x : Str) (w : W) : Prop where
  ex : ∃ u v, mg x = some u ∧ RelV v u ∧ ∀ β H, RV K β H w v
theorem je_glob {x : Str} {w : W} (g : GC X.K X.mg x w) (hg : Gl X x := by rfl) (hd : (x == ("__debug__" : Str)) = false := by decide) : JE X Cl E (.Name x pos) (mC w) := by
  obtain ⟨u, v, hm, r, hv⟩ := g.ex
  exact ⟨_, pe_glob hg hm r hd, se_c hv⟩
end

/-! ### operators -/
abbrev M2 := W → W → Sto → Out W
@[simp] def mOp (r : M2) (a b : ME) : ME := fun s st => (a s st).bind fun x st1 => (b s st1).bind fun y st2 => r x y st2
@[simp] def mUn (r : W → Sto → Out W) (a : ME) : ME := fun s st => (a s st).bind fun x st1 => r x st1
def SOp (K : PySem.W.Frag) (Cl : Nat → Addr) (E : XK) (r : R2) (m : M2) : Prop :=
  ∀ β H st x y v u Q, HR K Cl β H st → RV K β H x v → RV K β H y u → Po K Cl E β H Q (m x y st) → r v u H Q
def SUn (K : PySem.W.Frag) (Cl : Nat → Addr) (E : XK) (r : V → Hp → VK → Prop) (m : W → Sto → Out W) : Prop :=
  ∀ β H st x v Q, HR K Cl β H st → RV K β H x v → Po K Cl E β H Q (m x st) → r v H Q
section
variable {X : Cx} {Cl : Nat → Addr} {E : XK} {pos : Pos} {K : PySem.W.Frag} {ta tb : TE} {ma mb : ME} {a b : Expr}
theorem se_op {r : R2} {m : M2} (hm : SOp K Cl E r m) (ha : SE K Cl E ta ma) (hb : SE K Cl E tb mb) : SE K Cl E (tOp r ta tb) (mOp m ma mb) := fun β H σ s st Q hr hs h =>
  ha β H σ s st _ hr hs (h.bind fun x st1 β1 H1 v _ e1 hr1 rx h1 => hb β1 H1 σ s st1 _ hr1 (hs.ext e1) (h1.bind fun y st2 β2 H2 u _ e2 hr2 ry h2 => hm β2 H2 st2 x y v u Q hr2 (rx.ext e2) ry h2))
theorem se_un {r : V → Hp → VK → Prop} {m : W → Sto → Out W} (hm : SUn K Cl E r m) (ha : SE K Cl E ta ma) : SE K Cl E (tUn r ta) (mUn m ma) := fun β H σ s st Q hr hs h =>
  ha β H σ s st _ hr hs (h.bind fun x st1 β1 H1 v _ e1 hr1 rx h1 => hm β1 H1 st1 x v Q hr1 rx h1)
theorem je_op {op : Operator} {r : R2} {m : M2} (ho : OpR X (binaryOp op) r ∧ SOp X.K Cl E r m) (ha : JE X Cl E a ma) (hb : JE X Cl E b mb) : JE X Cl E (.BinOp a op b pos) (mOp m ma mb) := by
  obtain ⟨_, p1, q1⟩ := ha.ex
  obtain ⟨_, p2, q2⟩ := hb.ex
  exact ⟨_, pe_op ho.1 p1 p2, se_op ho.2 q1 q2⟩
theorem je_un {op : UnaryOp} {r : V → Hp → VK → Prop} {m : W → Sto → Out W} (ho : UnR X (unaryOp op) r ∧ SUn X.K Cl E r m) (ha : JE X Cl E a ma) : JE X Cl E (.UnaryOp op a pos) (mUn m ma) := by
  obtain ⟨_, p1, q1⟩ := ha.ex
  exact ⟨_, pe_un ho.1 p1, se_un ho.2 q1⟩
theorem je_cmp {op : CmpOp} {r : R2} {m : M2} (ho : OpR X (compareOp op) r ∧ SOp X.K Cl E r m) (ha : JE X Cl E a ma) (hb : JE X Cl E b mb) (hm : behindInMarks op b = false) : JE X Cl E (.Compare a [op] [b] pos) (mOp m ma mb) := by
  obtain ⟨_, p1, q1⟩ := ha.ex
  obtain ⟨_, p2, q2⟩ := hb.ex
  exact ⟨_, pe_cmpR ho.1 p1 p2 hm, se_op ho.2 q1 q2⟩
/-- a bool as a test -/
@[simp] def mTest (m : ME) : MT := fun s st => (m s st).bind fun x st1 => match x with
  | .bl k => .ok k st1
  | _ => .stuck
theorem st_test {t : TE} {m : ME} (h : SE K Cl E t m) : ST K Cl E (tTest t) (mTest m) := fun β H σ s st Q hr hs hp => h β H σ s st _ hr hs (hp.bind fun x st1 β1 H1 v _ e1 hr1 rx h1 => by
  cases x with
  | bl k => cases rx; exact ⟨k, rfl, PoG.val h1 hr1 rfl⟩
  | _ => exact h1.elim)
theorem jt_cmp {op : CmpOp} {r : R2} {m : M2} (ho : OpR X (compareOp op) r ∧ SOp X.K Cl E r m) (ha : JE X Cl E a ma) (hb : JE X Cl E b mb) (hm : behindInMarks op b = false) : JT X Cl E (.Compare a [op] [b] pos) (mTest (mOp m ma mb)) := by
  obtain ⟨_, p1, q1⟩ := ha.ex
  obtain ⟨_, p2, q2⟩ := hb.ex
  exact ⟨_, pt_cmpR ho.1 p1 p2 hm, st_test (se_op ho.2 q1 q2)⟩
/-- a value's truth as a test -/
@[simp] def mTru (m : ME) : MT := fun s st => (m s st).bind fun x st1 => match truth x st1 with
  | some k => .ok k st1
  | none => .stuck
theorem jt_tru (ha : JE X Cl E a ma) (he : ∀ whole, isTrue a X.env whole = (do let v ← whole; standAt a.pos; holding [v] (truthy v)) := by intro _; rfl) : JT X Cl E a (mTru ma) := by
  obtain ⟨t, p1, q1⟩ := ha.ex
  refine ⟨_, pt_truth p1 he, fun β H σ s st Q hr hs hp => q1 β H σ s st _ hr hs (hp.bind fun x st1 β1 H1 v _ e1 hr1 rx h1 => ?_)⟩
  split at h1
  · rename_i k e
    exact ⟨k, truth_ok hr1 rx e, PoG.val h1 hr1 rfl⟩
  · exact h1.elim
/-- a < b < c -/
@[simp] def mChain (r r' : M2) (a b c : ME) : ME := fun s st => (a s st).bind fun x st1 => (b s st1).bind fun y st2 => (r x y st2).bind fun z st3 => match z with
  | .bl true => (c s st3).bind fun w st4 => r' y w st4
  | .bl false => .ok (.bl false) st3
  | _ => .stuck
theorem se_chain {r r' : R2} {m m' : M2} {tc : TE} {mc : ME} (hm : SOp K Cl E r m) (hm' : SOp K Cl E r' m') (ha : SE K Cl E ta ma) (hb : SE K Cl E tb mb) (hc : SE K Cl E tc mc) : SE K Cl E (tChain r r' ta tb tc) (mChain m m' ma mb mc) := fun β H σ s st Q hr hs h =>
  ha β H σ s st _ hr hs (h.bind fun x st1 β1 H1 v _ e1 hr1 rx h1 => hb β1 H1 σ s st1 _ hr1 (hs.ext e1) (h1.bind fun y st2 β2 H2 u _ e2 hr2 ry h2 => hm β2 H2 st2 x y v u _ hr2 (rx.ext e2) ry (h2.bind fun z st3 β3 H3 zv _ e3 hr3 rz h3 => by
    cases z with
    | bl k =>
      cases rz
      refine ⟨k, rfl, ?_⟩
      cases k with
      | true => exact hc β3 H3 σ s st3 _ hr3 ((hs.ext e1).ext (e2.trans e3)) (h3.bind fun w st4 β4 H4 wv _ e4 hr4 rw h4 => hm' β4 H4 st4 y w u wv Q hr4 (ry.ext (e3.trans e4)) rw h4)
      | false => exact PoG.val h3 hr3 (.bl false)
    | _ => exact h3.elim)))
theorem je_chain {op op' : CmpOp} {r r' : R2} {m m' : M2} {c : Expr} {mc : ME} (ho : OpR X (compareOp op) r ∧ SOp X.K Cl E r m) (ho' : OpR X (compareOp op') r' ∧ SOp X.K Cl E r' m') (ha : JE X Cl E a ma) (hb : JE X Cl E b mb) (hc : JE X Cl E c mc) (hl : lastMarks [op, op'] [b, c] = false := by rfl) : JE X Cl E (.Compare a [op, op'] [b, c] pos) (mChain m m' ma mb mc) := by
  obtain ⟨_, p1, q1⟩ := ha.ex
  obtain ⟨_, p2, q2⟩ := hb.ex
  obtain ⟨_, p3, q3⟩ := hc.ex
  exact ⟨_, pe_chain ho.1 ho'.1 p1 p2 p3 (hm := hl), se_chain ho.2 ho'.2 q1 q2 q3⟩
end

/-! ### the operations by values -/
@[simp] def mAdd : M2 := fun x y st => match x, y with
  | .int i, .int j => .ok (.int (i + j)) st
  | .str a, .str b => if a.length + b.length ≤ sizeLine then .ok (.str (a ++ b)) st else .stuck
  | .tup a, .tup b => if a.length + b.length ≤ sizeLine then .ok (.tup (a ++ b)) st else .stuck
  | x, y => match asLM x st, asLM y st with
    | some a, some b => if a.length + b.length ≤ sizeLine then .ok (.lst (a ++ b)) st else .stuck
    | _, _ => .stuck
@[simp] def mSub : M2 := fun x y st => match x, y with
  | .int i, .int j => .ok (.int (i - j)) st
  | _, _ => .stuck
@[simp] def mulOk (i j : Int) : Bool := decide (i.natAbs < 2 ^ 64) || decide (j.natAbs < 2 ^ 64) || decide (i.natAbs.log2 + j.natAbs.log2 < 1000000)
@[simp] def mMul : M2 := fun x y st => match x, y with
  | .int i, .int j => if mulOk i j = true then .ok (.int (i * j)) st else .stuck
  | x, .int k => match asLM x st with
    | some a => if -(2 ^ 63) ≤ k ∧ k < 2 ^ 63 ∧ a.length * k.toNat ≤ sizeLine then .ok (.lst (List.replicate k.toNat a).flatten) st else .stuck
    | none => .stuck
  | _, _ => .stuck
@[simp] def mFdiv : M2 := fun x y st => match x, y with
  | .int i, .int j => if 0 < j ∧ j.natAbs.log2 < 9000 then .ok (.int (i / j)) st else .stuck
  | _, _ => .stuck
@[simp] def mMod : M2 := fun x y st => match x, y with
  | .int i, .int j => if 0 < j then .ok (.int (i % j)) st else .stuck
  | _, _ => .stuck
@[simp] def mPow : M2 := fun x y st => match x, y with
  | .int i, .int j => if 0 ≤ j ∧ j ≤ 1000000 ∧ i.natAbs < 2 ^ 64 then .ok (.int (i ^ j.toNat)) st else .stuck
  | _, _ => .stuck
@[simp] def mShl : M2 := fun x y st => match x, y with
  | .int i, .int j => if 0 ≤ j ∧ j ≤ 1000000 ∧ i.natAbs < 2 ^ 64 then .ok (.int (i * 2 ^ j.toNat)) st else .stuck
  | _, _ => .stuck
@[simp] def mShr : M2 := fun x y st => match x, y with
  | .int i, .int j => if 0 ≤ j then .ok (.int (i / 2 ^ j.toNat)) st else .stuck
  | _, _ => .stuck
@[simp] def mXor : M2 := fun x y st => match x, y with
  | .int i, .int j => .ok (.int (Builtin.bitXor i j)) st
  | _, _ => .stuck
@[simp] def mLt : M2 := fun x y st => match x, y with
  | .int i, .int j => .ok (.bl (decide (i < j))) st
  | _, _ => .stuck
@[simp] def mLe : M2 := fun x y st => match x, y with
  | .int i, .int j => .ok (.bl (decide (i ≤ j))) st
  | _, _ => .stuck
@[simp] def mGt : M2 := fun x y st => match x, y with
  | .int i, .int j => .ok (.bl (decide (j < i))) st
  | _, _ => .stuck
@[simp] def mGe : M2 := fun x y st => match x, y with
  | .int i, .int j => .ok (.bl (decide (j ≤ i))) st
  | _, _ => .stuck
@[simp] def mEq : M2 := fun x y st => match toPyS x st, toPyS y st with
  | some d, some e => if SeqAt.shaped d = true ∧ SeqAt.shaped e = true then .ok (.bl (PyData.eqv d e)) st else .stuck
  | _, _ => .stuck
@[simp] def mNe : M2 := fun x y st => match toPyS x st, toPyS y st with
  | some d, some e => if SeqAt.shaped d = true ∧ SeqAt.shaped e = true then .ok (.bl (!PyData.eqv d e)) st else .stuck
  | _, _ => .stuck
/-- is x in y -/
@[simp] def isIn (x y : W) (st : Sto) : Option Bool := match x, y with
  | x, .tup ws => if flatW x = true ∧ ws.all flatW = true then some (inV (toV x) (ws.map toV)) else none
  | .str a, .str b => some (!(Builtin.Str.occurrences b a 0 b.length 1).isEmpty)
  | x, y => match toPyS x st, toPyS y st with
    | some d, some (.list ds) => if SeqAt.shaped d = true ∧ SeqAt.shaped (.list ds) = true then some (ds.any fun z => PyData.eqv z d) else none
    | _, _ => none
@[simp] def mIn : M2 := fun x y st => match isIn x y st with
  | some b => .ok (.bl b) st
  | none => .stuck
@[simp] def mNotIn : M2 := fun x y st => match isIn x y st with
  | some b => .ok (.bl (!b)) st
  | none => .stuck
@[simp] def nonW (w : W) (st : Sto) : Option Bool := match w with
  | .non => some true
  | .ref i => match st[i]? with
    | some .dead => none
    | some _ => some false
    | none => none
  | _ => some false
@[simp] def mIsN : M2 := fun x y st => match y, nonW x st with
  | .non, some b => .ok (.bl b) st
  | _, _ => .stuck
@[simp] def mNotN : M2 := fun x y st => match y, nonW x st with
  | .non, some b => .ok (.bl (!b)) st
  | _, _ => .stuck
@[simp] def mIsB : M2 := fun x y st => match x, y with
  | .bl a, .bl b => .ok (.bl (decide (a = b))) st
  | _, _ => .stuck
@[simp] def mNotB : M2 := fun x y st => match x, y with
  | .bl a, .bl b => .ok (.bl (!decide (a = b))) st
  | _, _ => .stuck

theorem SOp.or1 {K : PySem.W.Frag} {Cl : Nat → Addr} {E : XK} {r r' : R2} {m : M2} (h : ∀ β H st x y v u Q, HR K Cl β H st → RV K β H x v → RV K β H y u → Po K Cl E β H Q (m x y st) → r v u H Q ∨ r' v u H Q) : SOp K Cl E (fun x y H Q => r x y H Q ∨ r' x y H Q) m := h

section
variable {X : Cx} {Cl : Nat → Addr} {E : XK}
theorem RV.new {K : PySem.W.Frag} {β : Bt} {H : Hp} {p : Addr} {ws : List W} {vs : List V} {st : Sto} (hr : HR K Cl β H st) (hp : H p = none) (r : RVs K β H ws vs) : RV K β (upd H p (.lst vs)) (.lst ws) (.ref p) :=
  .lst upd_same (hr.fresh hp) (r.ext (Ext.new hp))
theorem RV.newT {K : PySem.W.Frag} {β : Bt} {H : Hp} {p : Addr} {ws : List W} {vs : List V} (hp : H p = none) (r : RVs K β H ws vs) : RV K β (upd H p (.tup vs)) (.tup ws) (.ref p) :=
  .tup (SqT.of upd_same) (r.ext (Ext.new hp))
theorem Po.lst {K : PySem.W.Frag} {β : Bt} {H : Hp} {p : Addr} {ws : List W} {vs : List V} {st : Sto} {Q : VK} (h : Po K Cl E β H Q (.ok (.lst ws) st)) (hr : HR K Cl β H st) (hp : H p = none) (r : RVs K β H ws vs) : Q (.ref p) (upd H p (.lst vs)) :=
  h β _ _ (Ext.new hp) (hr.new hp) (RV.new hr hp r)
theorem Po.tup {K : PySem.W.Frag} {β : Bt} {H : Hp} {p : Addr} {ws : List W} {vs : List V} {st : Sto} {Q : VK} (h : Po K Cl E β H Q (.ok (.tup ws) st)) (hr : HR K Cl β H st) (hp : H p = none) (r : RVs K β H ws vs) : Q (.ref p) (upd H p (.tup vs)) :=
  h β _ _ (Ext.new hp) (hr.new hp) (RV.newT hp r)

theorem o_add : OpR X (binaryOp .Add) (fun x y H Q => rI0 (fun i j => .int (i + j)) x y H Q ∨ (∃ i j, x = .str i ∧ y = .str j ∧ i.length + j.length ≤ sizeLine ∧ Q (.str (i ++ j)) H) ∨ rCatA X.K x y H Q ∨ rCat x y H Q) ∧
    SOp X.K Cl E (fun x y H Q => rI0 (fun i j => .int (i + j)) x y H Q ∨ (∃ i j, x = .str i ∧ y = .str j ∧ i.length + j.length ≤ sizeLine ∧ Q (.str (i ++ j)) H) ∨ rCatA X.K x y H Q ∨ rCat x y H Q) mAdd := by
  refine ⟨op_add.or (op_add_str.or (op_catA.or op_cat)), fun β H st x y v u Q hr rx ry h => ?_⟩
  unfold mAdd at h
  split at h
  · cases rx; cases ry
    exact .inl ⟨_, _, rfl, rfl, PoG.val h hr (.int _)⟩
  · split at h
    · cases rx; cases ry
      exact .inr (.inl ⟨_, _, rfl, rfl, by assumption, PoG.val h hr (.str _)⟩)
    · exact h.elim
  · split at h
    · rename_i hz
      cases rx with
      | tup h1 r1 =>
        cases ry with
        | tup h2 r2 =>
          rename_i p vs q us
          refine .inr (.inr (.inl ⟨p, q, vs, us, rfl, rfl, h1, h2, by rw [← r1.length, ← r2.length]; exact hz, fun e => ?_, fun _ e => ?_, fun _ _ l hl => Po.tup h hr hl (r1.append r2)⟩))
          · subst e
            cases r1
            exact PoG.val h hr (.tup h2 r2)
          · subst e
            cases r2
            rw [List.append_nil] at h
            exact PoG.val h hr (.tup h1 r1)
    · exact h.elim
  · split at h
    · split at h
      · rename_i e1 e2 hz
        obtain ⟨p, vs, rfl, h1, r1⟩ := asLM_ok hr rx e1
        obtain ⟨q, us, rfl, h2, r2⟩ := asLM_ok hr ry e2
        exact .inr (.inr (.inr ⟨p, q, vs, us, rfl, rfl, h1, h2, by rw [← r1.length, ← r2.length]; exact hz, fun l hl => Po.lst h hr hl (r1.append r2)⟩))
      · exact h.elim
    · exact h.elim
theorem o_sub : OpR X (binaryOp .Sub) (rI0 fun i j => .int (i - j)) ∧ SOp X.K Cl E (rI0 fun i j => .int (i - j)) mSub := by
  refine ⟨op_sub, fun β H st x y v u Q hr rx ry h => ?_⟩
  unfold mSub at h
  split at h
  · cases rx; cases ry
    exact ⟨_, _, rfl, rfl, PoG.val h hr (.int _)⟩
  · exact h.elim
theorem o_mul : OpR X (binaryOp .Mult) (fun x y H Q => rI CMul (fun i j => .int (i * j)) x y H Q ∨ rI CMulW (fun i j => .int (i * j)) x y H Q ∨ rRep x y H Q) ∧
    SOp X.K Cl E (fun x y H Q => rI CMul (fun i j => .int (i * j)) x y H Q ∨ rI CMulW (fun i j => .int (i * j)) x y H Q ∨ rRep x y H Q) mMul := by
  refine ⟨op_mul.or (op_mulW.or op_rep), fun β H st x y v u Q hr rx ry h => ?_⟩
  unfold mMul at h
  split at h
  · split at h
    · rename_i hz
      cases rx; cases ry
      simp only [mulOk, Bool.or_eq_true, decide_eq_true_eq] at hz
      rcases hz with (hz | hz) | hz
      · exact .inl ⟨_, _, rfl, rfl, .inl (by omega), PoG.val h hr (.int _)⟩
      · exact .inl ⟨_, _, rfl, rfl, .inr (by omega), PoG.val h hr (.int _)⟩
      · exact .inr (.inl ⟨_, _, rfl, rfl, hz, PoG.val h hr (.int _)⟩)
    · exact h.elim
  · split at h
    · split at h
      · rename_i e1 hz
        obtain ⟨p, vs, rfl, h1, r1⟩ := asLM_ok hr rx e1
        cases ry
        exact .inr (.inr ⟨p, _, vs, rfl, rfl, h1, hz.1, hz.2.1, by rw [← r1.length]; exact hz.2.2, fun l hl => Po.lst h hr hl (r1.rep _)⟩)
      · exact h.elim
    · exact h.elim
  · exact h.elim
theorem sop_int {C : Int → Int → Prop} {g : Int → Int → V} {m : M2} {K : PySem.W.Frag} (h : ∀ x y st, (∃ i j o w, x = .int i ∧ y = .int j ∧ C i j ∧ m x y st = .ok w o ∧ o = st ∧ ∀ β H, RV K β H w (g i j)) ∨ m x y st = .stuck) : SOp K Cl E (rI C g) m := fun β H st x y v u Q hr rx ry hp => by
  rcases h x y st with ⟨i, j, o, w, rfl, rfl, hc, e, rfl, rv⟩ | e
  · rw [e] at hp
    cases rx; cases ry
    exact ⟨i, j, rfl, rfl, hc, PoG.val hp hr (rv β H)⟩
  · rw [e] at hp
    exact hp.elim
theorem sop_int0 {g : Int → Int → V} {m : M2} {K : PySem.W.Frag} (h : ∀ x y st, (∃ i j o w, x = .int i ∧ y = .int j ∧ m x y st = .ok w o ∧ o = st ∧ ∀ β H, RV K β H w (g i j)) ∨ m x y st = .stuck) : SOp K Cl E (rI0 g) m := fun β H st x y v u Q hr rx ry hp => by
  rcases h x y st with ⟨i, j, o, w, rfl, rfl, e, rfl, rv⟩ | e
  · rw [e] at hp
    cases rx; cases ry
    exact ⟨i, j, rfl, rfl, PoG.val hp hr (rv β H)⟩
  · rw [e] at hp
    exact hp.elim
theorem o_fdiv : OpR X (binaryOp .FloorDiv) (rI CDivW fun i j => .int (i / j)) ∧ SOp X.K Cl E (rI CDivW fun i j => .int (i / j)) mFdiv := by
  refine ⟨op_fdivW, sop_int fun x y st => ?_⟩
  unfold mFdiv
  split
  · split
    · exact .inl ⟨_, _, _, _, rfl, rfl, by assumption, rfl, rfl, fun _ _ => .int _⟩
    · exact .inr rfl
  · exact .inr rfl
theorem o_mod : OpR X (binaryOp .Mod) (rI (fun _ j => 0 < j) fun i j => .int (i % j)) ∧ SOp X.K Cl E (rI (fun _ j => 0 < j) fun i j => .int (i % j)) mMod := by
  refine ⟨op_mod, sop_int fun x y st => ?_⟩
  unfold mMod
  split
  · split
    · exact .inl ⟨_, _, _, _, rfl, rfl, by assumption, rfl, rfl, fun _ _ => .int _⟩
    · exact .inr rfl
  · exact .inr rfl
theorem o_pow : OpR X (binaryOp .Pow) (rI CPow fun i j => .int (i ^ j.toNat)) ∧ SOp X.K Cl E (rI CPow fun i j => .int (i ^ j.toNat)) mPow := by
  refine ⟨op_pow, sop_int fun x y st => ?_⟩
  unfold mPow
  split
  · split
    · exact .inl ⟨_, _, _, _, rfl, rfl, by assumption, rfl, rfl, fun _ _ => .int _⟩
    · exact .inr rfl
  · exact .inr rfl
theorem o_shl : OpR X (binaryOp .LShift) (rI CPow fun i j => .int (i * 2 ^ j.toNat)) ∧ SOp X.K Cl E (rI CPow fun i j => .int (i * 2 ^ j.toNat)) mShl := by
  refine ⟨op_shl, sop_int fun x y st => ?_⟩
  unfold mShl
  split
  · split
    · exact .inl ⟨_, _, _, _, rfl, rfl, by assumption, rfl, rfl, fun _ _ => .int _⟩
    · exact .inr rfl
  · exact .inr rfl
theorem o_shr : OpR X (binaryOp .RShift) (rI (fun _ j => 0 ≤ j) fun i j => .int (i / 2 ^ j.toNat)) ∧ SOp X.K Cl E (rI (fun _ j => 0 ≤ j) fun i j => .int (i / 2 ^ j.toNat)) mShr := by
  refine ⟨op_shr, sop_int fun x y st => ?_⟩
  unfold mShr
  split
  · split
    · exact .inl ⟨_, _, _, _, rfl, rfl, by assumption, rfl, rfl, fun _ _ => .int _⟩
    · exact .inr rfl
  · exact .inr rfl
theorem o_xor : OpR X (binaryOp .BitXor) (rI0 fun i j => .int (Builtin.bitXor i j)) ∧ SOp X.K Cl E (rI0 fun i j => .int (Builtin.bitXor i j)) mXor := by
  refine ⟨op_xor, sop_int0 fun x y st => ?_⟩
  unfold mXor
  split
  · exact .inl ⟨_, _, _, _, rfl, rfl, rfl, rfl, fun _ _ => .int _⟩
  · exact .inr rfl
theorem o_lt : OpR X (compareOp .Lt) (rI0 fun i j => .bl (decide (i < j))) ∧ SOp X.K Cl E (rI0 fun i j => .bl (decide (i < j))) mLt := by
  refine ⟨op_lt, sop_int0 fun x y st => ?_⟩
  unfold mLt
  split
  · exact .inl ⟨_, _, _, _, rfl, rfl, rfl, rfl, fun _ _ => .bl _⟩
  · exact .inr rfl
theorem o_le : OpR X (compareOp .LtE) (rI0 fun i j => .bl (decide (i ≤ j))) ∧ SOp X.K Cl E (rI0 fun i j => .bl (decide (i ≤ j))) mLe := by
  refine ⟨op_le, sop_int0 fun x y st => ?_⟩
  unfold mLe
  split
  · exact .inl ⟨_, _, _, _, rfl, rfl, rfl, rfl, fun _ _ => .bl _⟩
  · exact .inr rfl
theorem o_gt : OpR X (compareOp .Gt) (rI0 fun i j => .bl (decide (j < i))) ∧ SOp X.K Cl E (rI0 fun i j => .bl (decide (j < i))) mGt := by
  refine ⟨op_gt, sop_int0 fun x y st => ?_⟩
  unfold mGt
  split
  · exact .inl ⟨_, _, _, _, rfl, rfl, rfl, rfl, fun _ _ => .bl _⟩
  · exact .inr rfl
theorem o_ge : OpR X (compareOp .GtE) (rI0 fun i j => .bl (decide (j ≤ i))) ∧ SOp X.K Cl E (rI0 fun i j => .bl (decide (j ≤ i))) mGe := by
  refine ⟨op_ge, sop_int0 fun x y st => ?_⟩
  unfold mGe
  split
  · exact .inl ⟨_, _, _, _, rfl, rfl, rfl, rfl, fun _ _ => .bl _⟩
  · exact .inr rfl
theorem o_eq (hu : X.A.units + 65 < cLine) : OpR X (compareOp .Eq) (rEqD X.K) ∧ SOp X.K Cl E (rEqD X.K) mEq := by
  refine ⟨op_eqD (by omega), fun β H st x y v u Q hr rx ry h => ?_⟩
  unfold mEq at h
  split at h
  · rename_i d e h1 h2
    split at h
    · rename_i hz
      exact ⟨d, e, toPyS_dp hr rx h1, toPyS_dp hr ry h2, hz.1, hz.2, PoG.val h hr (.bl _)⟩
    · exact h.elim
  · exact h.elim
theorem o_ne (hu : X.A.units + 65 < cLine) : OpR X (compareOp .NotEq) (rNeD X.K) ∧ SOp X.K Cl E (rNeD X.K) mNe := by
  refine ⟨op_neD (by omega), fun β H st x y v u Q hr rx ry h => ?_⟩
  unfold mNe at h
  split at h
  · rename_i d e h1 h2
    split at h
    · rename_i hz
      exact ⟨d, e, toPyS_dp hr rx h1, toPyS_dp hr ry h2, hz.1, hz.2, PoG.val h hr (.bl _)⟩
    · exact h.elim
  · exact h.elim
def rInA (K : PySem.W.Frag) : R2 := fun x y H Q => rIn K false x y H Q ∨ (∃ i j, x = .str i ∧ y = .str j ∧ Q (.bl (!(Builtin.Str.occurrences j i 0 j.length 1).isEmpty)) H) ∨ rInD K x y H Q
def rNotInA (K : PySem.W.Frag) : R2 := fun x y H Q => rIn K true x y H Q ∨ (∃ i j, x = .str i ∧ y = .str j ∧ Q (.bl (!(!(Builtin.Str.occurrences j i 0 j.length 1).isEmpty))) H) ∨ rNotInD K x y H Q
theorem isIn_ok {K : PySem.W.Frag} {β : Bt} {H : Hp} {st : Sto} {x y : W} {v u : V} {b : Bool} (hr : HR K Cl β H st) (rx : RV K β H x v) (ry : RV K β H y u) (h : isIn x y st = some b) :
    (∃ p xs, u = .ref p ∧ (SqL K H p xs ∨ SqT K H p xs) ∧ flatV v = true ∧ xs.all flatV = true ∧ inV v xs = b) ∨ (∃ i j, v = .str i ∧ u = .str j ∧ (!(Builtin.Str.occurrences j i 0 j.length 1).isEmpty) = b) ∨
      (∃ d ds, Dp K H v d ∧ Dp K H u (.list ds) ∧ SeqAt.shaped d = true ∧ SeqAt.shaped (.list ds) = true ∧ (ds.any fun z => PyData.eqv z d) = b) := by
  unfold isIn at h
  split at h
  · split at h
    · rename_i hz
      cases h
      cases ry with
      | tup h1 r1 =>
        obtain ⟨e, f⟩ := flat_v rx hz.1
        obtain ⟨e', f'⟩ := flat_vs r1 hz.2
        subst e e'
        exact .inl ⟨_, _, rfl, .inr h1, f, f', rfl⟩
    · cases h
  · cases h
    cases rx; cases ry
    exact .inr (.inl ⟨_, _, rfl, rfl, rfl⟩)
  · split at h
    · rename_i h1 h2
      split at h
      · rename_i hz
        cases h
        exact .inr (.inr ⟨_, _, toPyS_dp hr rx h1, toPyS_dp hr ry h2, hz.1, hz.2, rfl⟩)
      · cases h
    · cases h
theorem o_in (hu : X.A.units + 65 < cLine) : OpR X (compareOp .In) (rInA X.K) ∧ SOp X.K Cl E (rInA X.K) mIn := by
  refine ⟨op_in_seq.or (op_in_str.or (op_inD hu)), fun β H st x y v u Q hr rx ry h => ?_⟩
  unfold mIn at h
  split at h
  · rename_i b e
    rcases isIn_ok hr rx ry e with ⟨p, xs, e1, e2, e3, e4, e5⟩ | ⟨i, j, e1, e2, e3⟩ | ⟨d, ds, e1, e2, e3, e4, e5⟩
    · exact .inl ⟨p, xs, e1, e2, e3, e4, by rw [if_neg Bool.false_ne_true, e5]; exact PoG.val h hr (.bl b)⟩
    · exact .inr (.inl ⟨i, j, e1, e2, by rw [e3]; exact PoG.val h hr (.bl b)⟩)
    · exact .inr (.inr ⟨d, ds, e1, e2, e3, e4, by rw [e5]; exact PoG.val h hr (.bl b)⟩)
  · exact h.elim
theorem o_notIn (hu : X.A.units + 65 < cLine) : OpR X (compareOp .NotIn) (rNotInA X.K) ∧ SOp X.K Cl E (rNotInA X.K) mNotIn := by
  refine ⟨op_notIn_seq.or (op_notin_str.or (op_notInD hu)), fun β H st x y v u Q hr rx ry h => ?_⟩
  unfold mNotIn at h
  split at h
  · rename_i b e
    rcases isIn_ok hr rx ry e with ⟨p, xs, e1, e2, e3, e4, e5⟩ | ⟨i, j, e1, e2, e3⟩ | ⟨d, ds, e1, e2, e3, e4, e5⟩
    · exact .inl ⟨p, xs, e1, e2, e3, e4, by rw [if_pos rfl, e5]; exact PoG.val h hr (.bl _)⟩
    · exact .inr (.inl ⟨i, j, e1, e2, by rw [e3]; exact PoG.val h hr (.bl _)⟩)
    · exact .inr (.inr ⟨d, ds, e1, e2, e3, e4, by rw [e5]; exact PoG.val h hr (.bl _)⟩)
  · exact h.elim
theorem nonW_ok {K : PySem.W.Frag} {β : Bt} {H : Hp} {st : Sto} {x : W} {v : V} {b : Bool} (hr : HR K Cl β H st) (rx : RV K β H x v) (h : nonW x st = some b) : decide (v = .non) = b := by
  cases x with
  | ref i =>
    simp only [nonW] at h
    split at h
    · cases h
    · rename_i ob hd e
      cases h
      obtain ⟨a, rfl, _⟩ := rx.atRef hr e hd
      rfl
    · cases h
  | _ => cases h; cases rx; rfl
theorem o_isN : OpR X (compareOp .Is) (fun x y H Q => y = .non ∧ Q (.bl (decide (x = .non))) H) ∧ SOp X.K Cl E (fun x y H Q => y = .non ∧ Q (.bl (decide (x = .non))) H) mIsN := by
  refine ⟨op_isN, fun β H st x y v u Q hr rx ry h => ?_⟩
  unfold mIsN at h
  split at h
  · rename_i b e
    cases ry
    exact ⟨rfl, by rw [nonW_ok hr rx e]; exact PoG.val h hr (.bl b)⟩
  · exact h.elim
theorem o_notN : OpR X (compareOp .IsNot) (fun x y H Q => y = .non ∧ Q (.bl (!decide (x = .non))) H) ∧ SOp X.K Cl E (fun x y H Q => y = .non ∧ Q (.bl (!decide (x = .non))) H) mNotN := by
  refine ⟨op_notN, fun β H st x y v u Q hr rx ry h => ?_⟩
  unfold mNotN at h
  split at h
  · rename_i b e
    cases ry
    exact ⟨rfl, by rw [nonW_ok hr rx e]; exact PoG.val h hr (.bl _)⟩
  · exact h.elim
theorem o_isB : OpR X (compareOp .Is) rIsB ∧ SOp X.K Cl E rIsB mIsB := by
  refine ⟨op_isBl, fun β H st x y v u Q hr rx ry h => ?_⟩
  unfold mIsB at h
  split at h
  · cases rx; cases ry
    exact ⟨_, _, rfl, rfl, PoG.val h hr (.bl _)⟩
  · exact h.elim
theorem o_notB : OpR X (compareOp .IsNot) rNotB ∧ SOp X.K Cl E rNotB mNotB := by
  refine ⟨op_notBl, fun β H st x y v u Q hr rx ry h => ?_⟩
  unfold mNotB at h
  split at h
  · cases rx; cases ry
    exact ⟨_, _, rfl, rfl, PoG.val h hr (.bl _)⟩
  · exact h.elim
@[simp] def mNeg : W → Sto → Out W := fun x st => match x with
  | .int i => .ok (.int (-i)) st
  | _ => .stuck
theorem u_neg : UnR X (unaryOp .USub) (rU fun i => .int (-i)) ∧ SUn X.K Cl E (rU fun i => .int (-i)) mNeg := by
  refine ⟨un_neg, fun β H st x v Q hr rx h => ?_⟩
  unfold mNeg at h
  split at h
  · cases rx
    exact ⟨_, rfl, PoG.val h hr (.int _)⟩
  · exact h.elim
end
end Mi
/-! The mirror layer, part D: truth, displays, subscripts, fields, built-in calls, dicts. -/
namespace Mi
open PySem L2

/-! ### and, or, not; a if t else b -/
@[simp] def mAndV (a b : ME) : ME := fun s st => (a s st).bind fun x st1 => match truth x st1 with
  | some true => b s st1
  | some false => .ok x st1
  | none => .stuck
@[simp] def mOrV (a b : ME) : ME := fun s st => (a s st).bind fun x st1 => match truth x st1 with
  | some true => .ok x st1
  | some false => b s st1
  | none => .stuck
@[simp] def mNotV (a : ME) : ME := fun s st => (a s st).bind fun x st1 => match truth x st1 with
  | some k => .ok (.bl (!k)) st1
  | none => .stuck
@[simp] def mTAnd (t u : MT) : MT := fun s st => (t s st).bind fun k st1 => if k = true then u s st1 else .ok false st1
@[simp] def mTOr (t u : MT) : MT := fun s st => (t s st).bind fun k st1 => if k = true then .ok true st1 else u s st1
@[simp] def mTNot (t : MT) : MT := fun s st => (t s st).bind fun k st1 => .ok (!k) st1
@[simp] def mIf (t : MT) (a b : ME) : ME := fun s st => (t s st).bind fun k st1 => if k = true then a s st1 else b s st1
section
variable {X : Cx} {Cl : Nat → Addr} {E : XK} {pos : Pos} {ma mb : ME} {ta tb : MT} {a b c : Expr} {rest : List Expr}
theorem je_one {op} (h : JE X Cl E a ma) : JE X Cl E (.BoolOp op [a] pos) ma := by
  obtain ⟨t, p, q⟩ := h.ex
  exact ⟨t, pe_one p, q⟩
theorem je_and (ha : JE X Cl E a ma) (hb : JE X Cl E (.BoolOp .And (b :: rest) pos) mb) : JE X Cl E (.BoolOp .And (a :: b :: rest) pos) (mAndV ma mb) := by
  obtain ⟨t1, p1, q1⟩ := ha.ex
  obtain ⟨t2, p2, q2⟩ := hb.ex
  refine ⟨_, pe_andT p1 p2, fun β H σ s st Q hr hs h => q1 β H σ s st _ hr hs (h.bind fun x st1 β1 H1 v _ e1 hr1 rx h1 => ?_)⟩
  split at h1
  · rename_i e
    refine ⟨true, truth_ok hr1 rx e, ?_⟩
    rw [if_pos rfl]
    exact q2 β1 H1 σ s st1 Q hr1 (hs.ext e1) h1
  · rename_i e
    refine ⟨false, truth_ok hr1 rx e, ?_⟩
    rw [if_neg Bool.false_ne_true]
    exact PoG.val h1 hr1 rx
  · exact h1.elim
theorem je_or (ha : JE X Cl E a ma) (hb : JE X Cl E (.BoolOp .Or (b :: rest) pos) mb) : JE X Cl E (.BoolOp .Or (a :: b :: rest) pos) (mOrV ma mb) := by
  obtain ⟨t1, p1, q1⟩ := ha.ex
  obtain ⟨t2, p2, q2⟩ := hb.ex
  refine ⟨_, pe_orT p1 p2, fun β H σ s st Q hr hs h => q1 β H σ s st _ hr hs (h.bind fun x st1 β1 H1 v _ e1 hr1 rx h1 => ?_)⟩
  split at h1
  · rename_i e
    refine ⟨true, truth_ok hr1 rx e, ?_⟩
    rw [if_pos rfl]
    exact PoG.val h1 hr1 rx
  · rename_i e
    refine ⟨false, truth_ok hr1 rx e, ?_⟩
    rw [if_neg Bool.false_ne_true]
    exact q2 β1 H1 σ s st1 Q hr1 (hs.ext e1) h1
  · exact h1.elim
theorem je_not (ha : JE X Cl E a ma) : JE X Cl E (.UnaryOp .Not a pos) (mNotV ma) := by
  obtain ⟨t1, p1, q1⟩ := ha.ex
  refine ⟨_, pe_notT p1, fun β H σ s st Q hr hs h => q1 β H σ s st _ hr hs (h.bind fun x st1 β1 H1 v _ e1 hr1 rx h1 => ?_)⟩
  split at h1
  · rename_i k e
    exact ⟨k, truth_ok hr1 rx e, PoG.val h1 hr1 (.bl _)⟩
  · exact h1.elim
theorem jt_w (h : JW X Cl E a ta) : JT X Cl E a ta := by
  obtain ⟨t, p, q⟩ := h.ex
  exact ⟨t, p.pt, q⟩
theorem jw_and1 (h : JT X Cl E a ta) : JW X Cl E (.BoolOp .And [a] pos) ta := by
  obtain ⟨t, p, q⟩ := h.ex
  exact ⟨t, pw_and1 p, q⟩
theorem jw_or1 (h : JT X Cl E a ta) : JW X Cl E (.BoolOp .Or [a] pos) ta := by
  obtain ⟨t, p, q⟩ := h.ex
  exact ⟨t, pw_or1 p, q⟩
theorem jw_and (ha : JT X Cl E a ta) (hb : JW X Cl E (.BoolOp .And (b :: rest) pos) tb) : JW X Cl E (.BoolOp .And (a :: b :: rest) pos) (mTAnd ta tb) := by
  obtain ⟨t1, p1, q1⟩ := ha.ex
  obtain ⟨t2, p2, q2⟩ := hb.ex
  refine ⟨_, pw_and p1 p2, fun β H σ s st Q hr hs h => q1 β H σ s st _ hr hs (h.bind fun x st1 β1 H1 v _ e1 hr1 rx h1 => ?_)⟩
  cases rx
  cases x with
  | true => rw [if_pos rfl] at h1 ⊢; exact q2 β1 H1 σ s st1 Q hr1 (hs.ext e1) h1
  | false => rw [if_neg Bool.false_ne_true] at h1 ⊢; exact PoG.val h1 hr1 rfl
theorem jw_or (ha : JT X Cl E a ta) (hb : JW X Cl E (.BoolOp .Or (b :: rest) pos) tb) : JW X Cl E (.BoolOp .Or (a :: b :: rest) pos) (mTOr ta tb) := by
  obtain ⟨t1, p1, q1⟩ := ha.ex
  obtain ⟨t2, p2, q2⟩ := hb.ex
  refine ⟨_, pw_or p1 p2, fun β H σ s st Q hr hs h => q1 β H σ s st _ hr hs (h.bind fun x st1 β1 H1 v _ e1 hr1 rx h1 => ?_)⟩
  cases rx
  cases x with
  | true => rw [if_pos rfl] at h1 ⊢; exact PoG.val h1 hr1 rfl
  | false => rw [if_neg Bool.false_ne_true] at h1 ⊢; exact q2 β1 H1 σ s st1 Q hr1 (hs.ext e1) h1
theorem jt_not (ha : JT X Cl E a ta) : JT X Cl E (.UnaryOp .Not a pos) (mTNot ta) := by
  obtain ⟨t1, p1, q1⟩ := ha.ex
  refine ⟨_, pt_not p1, fun β H σ s st Q hr hs h => q1 β H σ s st _ hr hs (h.bind fun x st1 β1 H1 v _ e1 hr1 rx h1 => ?_)⟩
  cases rx
  exact PoG.val h1 hr1 rfl
theorem je_if (hc : JT X Cl E c ta) (ha : JE X Cl E a ma) (hb : JE X Cl E b mb) : JE X Cl E (.IfExp c a b pos) (mIf ta ma mb) := by
  obtain ⟨t1, p1, q1⟩ := hc.ex
  obtain ⟨t2, p2, q2⟩ := ha.ex
  obtain ⟨t3, p3, q3⟩ := hb.ex
  refine ⟨_, pe_ifExp p1 p2 p3, fun β H σ s st Q hr hs h => q1 β H σ s st _ hr hs (h.bind fun x st1 β1 H1 v _ e1 hr1 rx h1 => ?_)⟩
  cases rx
  cases x with
  | true => rw [if_pos rfl] at h1 ⊢; exact q2 β1 H1 σ s st1 Q hr1 (hs.ext e1) h1
  | false => rw [if_neg Bool.false_ne_true] at h1 ⊢; exact q3 β1 H1 σ s st1 Q hr1 (hs.ext e1) h1
end

/-! ### argument lists, displays -/
@[simp] def mNil : MA := fun _ st => .ok [] st
@[simp] def mCons (a : ME) (r : MA) : MA := fun s st => (a s st).bind fun x st1 => (r s st1).bind fun xs st2 => .ok (x :: xs) st2
@[simp] def mTup (a : MA) : ME := fun s st => (a s st).bind fun xs st1 => if xs.length ≤ sizeLine then .ok (.tup xs) st1 else .stuck
@[simp] def mLst (a : MA) : ME := fun s st => (a s st).bind fun xs st1 => if xs.length ≤ sizeLine then .ok (.lst xs) st1 else .stuck
/-- a list that will be changed -/
@[simp] def mLstS (a : MA) : ME := fun s st => (a s st).bind fun xs st1 => if xs.length ≤ sizeLine then .ok (.ref st1.length) (st1 ++ [.lst xs]) else .stuck
section
variable {X : Cx} {Cl : Nat → Addr} {E : XK} {pos : Pos} {ma : ME} {mr : MA} {e : Expr} {es : List Expr}
theorem ja_nil : JA X Cl E [] mNil := ⟨_, pa_nil, fun β H σ s st Q hr hs h => PoG.val h hr .nil⟩
theorem ja_cons (ha : JE X Cl E e ma) (hr : JA X Cl E es mr) (hs : starEach (e :: es) X.env = (false, eval e X.env) :: starEach es X.env := by rfl) : JA X Cl E (e :: es) (mCons ma mr) := by
  obtain ⟨t1, p1, q1⟩ := ha.ex
  obtain ⟨t2, p2, q2⟩ := hr.ex
  refine ⟨_, pa_cons p1 p2 hs, fun β H σ s st Q hr hs h => q1 β H σ s st _ hr hs (h.bind fun x st1 β1 H1 v _ e1 hr1 rx h1 => q2 β1 H1 σ s st1 _ hr1 (hs.ext e1) (h1.bind fun y st2 β2 H2 u _ e2 hr2 ry h2 => ?_))⟩
  exact PoG.val h2 hr2 (.cons (rx.ext e2) ry)
theorem je_tup {k} (h : JA X Cl E es mr) : JE X Cl E (.Tuple es k pos) (mTup mr) := by
  obtain ⟨t, p, q⟩ := h.ex
  refine ⟨_, pe_tup p, fun β H σ s st Q hr hs h => q β H σ s st _ hr hs (h.bind fun x st1 β1 H1 v _ e1 hr1 rx h1 => ?_)⟩
  split at h1
  · rename_i hz
    exact ⟨by rw [← rx.length]; exact hz, fun l hl => Po.tup h1 hr1 hl rx⟩
  · exact h1.elim
theorem je_lst (h : JA X Cl E es mr) : JE X Cl E (.List es pos) (mLst mr) := by
  obtain ⟨t, p, q⟩ := h.ex
  refine ⟨_, pe_lst p, fun β H σ s st Q hr hs h => q β H σ s st _ hr hs (h.bind fun x st1 β1 H1 v _ e1 hr1 rx h1 => ?_)⟩
  split at h1
  · rename_i hz
    exact ⟨by rw [← rx.length]; exact hz, fun l hl => Po.lst h1 hr1 hl rx⟩
  · exact h1.elim
theorem Po.lstS {K : PySem.W.Frag} {β : Bt} {H : Hp} {p : Addr} {ws : List W} {vs : List V} {st : Sto} {Q : VK} (h : Po K Cl E β H Q (.ok (.ref st.length) (st ++ [.lst ws]))) (hr : HR K Cl β H st) (hp : H p = none) (r : RVs K β H ws vs) : Q (.ref p) (upd H p (.lst vs)) :=
  h _ _ _ (Ext.push hp) (hr.push hp ⟨vs, upd_same, r.ext (Ext.push hp)⟩) (.ref (by rw [← hr.len]; exact push_last))
theorem je_lstS (h : JA X Cl E es mr) : JE X Cl E (.List es pos) (mLstS mr) := by
  obtain ⟨t, p, q⟩ := h.ex
  refine ⟨_, pe_lst p, fun β H σ s st Q hr hs h => q β H σ s st _ hr hs (h.bind fun x st1 β1 H1 v _ e1 hr1 rx h1 => ?_)⟩
  split at h1
  · rename_i hz
    exact ⟨by rw [← rx.length]; exact hz, fun l hl => Po.lstS h1 hr1 hl rx⟩
  · exact h1.elim
end
/-- a value list becomes an object of the store (it is new: nobody else holds it) -/
@[simp] def mThaw (a : ME) : ME := fun s st => (a s st).bind fun x st1 => match x with
  | .lst ws => .ok (.ref st1.length) (st1 ++ [.lst ws])
  | _ => .stuck
/-- the list of an object of the store becomes a value -/
@[simp] def mFrz (a : ME) : ME := fun s st => (a s st).bind fun x st1 => match x with
  | .ref i => match st1[i]? with
    | some (.lst ws) => .ok (.lst ws) (st1.set i .dead)
    | _ => .stuck
  | _ => .stuck
section
variable {X : Cx} {Cl : Nat → Addr} {E : XK} {ma : ME} {e : Expr}
theorem je_frz (h : JE X Cl E e ma) : JE X Cl E e (mFrz ma) := by
  obtain ⟨t, p, q⟩ := h.ex
  refine ⟨_, p, fun β H σ s st Q hr hs h => q β H σ s st _ hr hs (h.bind fun x st1 β1 H1 v _ e1 hr1 rx h1 => ?_)⟩
  cases x with
  | ref i =>
    simp only at h1
    split at h1
    · rename_i ws e
      obtain ⟨a, rfl, hb, vs, hv, hrs⟩ := rx.atRef hr1 e (by intro z; cases z)
      refine h1 _ _ _ Ext.letgo (hr1.letgo hb) (.lst hv ⟨fun j hj => ?_, fun z => (hr1.prot _ z).2 i hb⟩ (hrs.ext Ext.letgo))
      rcases let_at hj with ⟨_, z⟩ | ⟨ne, z⟩
      · cases z
      · exact ne (hr1.inj j i a z hb)
    · exact h1.elim
  | _ => exact h1.elim
end

/-! ### subscripts, slices -/
theorem atI_map {α γ : Type} {xs : List α} {ys : List γ} (h : xs.length = ys.length) {i : Int} {v : α} (e : atI xs i = some v) : ∃ j : Nat, xs[j]? = some v ∧ ∀ u : γ, ys[j]? = some u → atI ys i = some u := by
  unfold atI at e ⊢
  rw [← h]
  cases hx : ixN xs.length i with
  | none => rw [hx] at e; cases e
  | some j =>
    rw [hx] at e
    exact ⟨j, e, fun u hu => hu⟩
@[simp] def mIx : M2 := fun x y st => match y with
  | .int i => match x with
    | .tup ws => match atI ws i with
      | some w => .ok w st
      | none => .stuck
    | .str z => if z.length ≤ sizeLine then match atI z.cps.toList i with
        | some c => .ok (.str ⟨#[c]⟩) st
        | none => .stuck
      else .stuck
    | x => match asL x st with
      | some ws => match atI ws i with
        | some w => .ok w st
        | none => .stuck
      | none => .stuck
  | _ => .stuck
def cutW (xs : List W) (lo hi : Option Int) : List W := (xs.drop (HT.sIx xs.length 0 lo)).take (HT.sIx xs.length xs.length hi - HT.sIx xs.length 0 lo)
abbrev MO := Slo → Sto → Out (Option Int)
@[simp] def mNoPart : MO := fun _ st => .ok none st
@[simp] def mPart (a : ME) : MO := fun s st => (a s st).bind fun x st1 => match x with
  | .int i => .ok (some i) st1
  | _ => .stuck
@[simp] def cutOf (x : W) (lo hi : Option Int) (st : Sto) : Out W := match x with
  | .tup ws => .ok (.tup (cutW ws lo hi)) st
  | .str z => if z.length ≤ sizeLine then .ok (.str (cutS z lo hi)) st else .stuck
  | x => match asL x st with
    | some ws => .ok (.lst (cutW ws lo hi)) st
    | none => .stuck
@[simp] def mSl (a : ME) (lo hi : MO) : ME := fun s st => (a s st).bind fun x st1 => (lo s st1).bind fun l st2 => (hi s st2).bind fun u st3 => cutOf x l u st3
structure JO (X : Cx) (Cl : Nat → Addr) (E : XK) (e : Option Expr) (m : MO) : Prop where
  ex : ∃ t, PO X e t ∧ ∀ β H σ s st Q, HR X.K Cl β H st → SR X.K β H s σ → PoG X.K Cl (fun _ _ (a b : Option Int) => a = b) E β H Q (m s st) → t σ H Q
section
variable {X : Cx} {Cl : Nat → Addr} {E : XK} {pos p2 : Pos} {ma mb : ME} {a b e : Expr} {ml mh : MO} {lo hi : Option Expr}
theorem je_ix (ha : JE X Cl E a ma) (hb : JE X Cl E b mb) (hs : PlainIx b := by exact fun _ _ => rfl) : JE X Cl E (.Subscript a b pos) (mOp mIx ma mb) := by
  obtain ⟨_, p1, q1⟩ := ha.ex
  obtain ⟨_, p2, q2⟩ := hb.ex
  refine ⟨_, pe_ix ix_seq p1 p2 hs, se_op (fun β H st x y v u Q hr rx ry h => ?_) q1 q2⟩
  unfold mIx at h
  split at h
  · cases ry
    split at h
    · split at h
      · rename_i w e
        cases rx with
        | tup h1 r1 =>
          obtain ⟨j, hj, k⟩ := atI_map r1.length e
          obtain ⟨v, hv, rv⟩ := r1.get hj
          exact .inr (.inl ⟨_, _, _, v, rfl, rfl, h1, k v hv, PoG.val h hr rv⟩)
      · exact h.elim
    · split at h
      · rename_i hz
        split at h
        · rename_i c e
          cases rx
          exact .inr (.inr ⟨_, _, c, rfl, rfl, hz, e, PoG.val h hr (.str _)⟩)
        · exact h.elim
      · exact h.elim
    · split at h
      · rename_i ws el
        split at h
        · rename_i w e
          obtain ⟨p, vs, rfl, h1, r1⟩ := asL_ok hr rx el
          obtain ⟨j, hj, k⟩ := atI_map r1.length e
          obtain ⟨v, hv, rv⟩ := r1.get hj
          exact .inl ⟨p, vs, _, v, rfl, rfl, h1, k v hv, PoG.val h hr rv⟩
        · exact h.elim
      · exact h.elim
  · exact h.elim
theorem jo_none : JO X Cl E none mNoPart := ⟨_, po_none, fun β H σ s st Q hr hs h => PoG.val h hr rfl⟩
theorem jo_some (h : JE X Cl E e ma) : JO X Cl E (some e) (mPart ma) := by
  obtain ⟨t, p, q⟩ := h.ex
  refine ⟨_, po_some p, fun β H σ s st Q hr hs h => q β H σ s st _ hr hs (h.bind fun x st1 β1 H1 v _ e1 hr1 rx h1 => ?_)⟩
  cases x with
  | int i => cases rx; exact ⟨i, rfl, PoG.val h1 hr1 rfl⟩
  | _ => exact h1.elim
theorem RVs.cut {K : PySem.W.Frag} {β : Bt} {H : Hp} {ws : List W} {vs : List V} (r : RVs K β H ws vs) (lo hi : Option Int) : RVs K β H (cutW ws lo hi) (cutV vs lo hi) := by
  unfold cutW cutV
  rw [r.length]
  exact (r.drop _).take _
theorem je_sl (ha : JE X Cl E a ma) (hl : JO X Cl E lo ml) (hh : JO X Cl E hi mh) : JE X Cl E (.Subscript a (.Slice lo hi none p2) pos) (mSl ma ml mh) := by
  obtain ⟨_, p1, q1⟩ := ha.ex
  obtain ⟨_, pl, ql⟩ := hl.ex
  obtain ⟨_, ph, qh⟩ := hh.ex
  refine ⟨_, pe_slice (sl_list.or (sl_tupA.or sl_str)) p1 pl ph, fun β H σ s st Q hr hs h => q1 β H σ s st _ hr hs (h.bind fun x st1 β1 H1 v _ e1 hr1 rx1 h1 => ql β1 H1 σ s st1 _ hr1 (hs.ext e1) (h1.bind fun l st2 β2 H2 l' _ e2 hr2 rl h2 =>
    qh β2 H2 σ s st2 _ hr2 ((hs.ext e1).ext e2) (h2.bind fun u st3 β3 H3 u' _ e3 hr3 ru h3 => ?_)))⟩
  cases rl
  cases ru
  have rx := rx1.ext (e2.trans e3)
  unfold cutOf at h3
  split at h3
  · cases rx with
    | @tup p ws vs h1 r1 =>
      refine .inr (.inl ⟨p, vs, rfl, h1, fun ew => ?_, fun _ l hl => Po.tup h3 hr3 hl (r1.cut _ _)⟩)
      refine PoG.val h3 hr3 (.tup h1 ?_)
      have ec : ∀ us : List W, us.length = vs.length → cutW us l u = us := fun us q => by
        unfold cutW
        rw [q, ew.1, ew.2, List.drop_zero, Nat.sub_zero, ← q, List.take_length]
      rw [ec _ r1.length]
      exact r1
  · split at h3
    · rename_i hz
      cases rx
      exact .inr (.inr ⟨_, rfl, hz, PoG.val h3 hr3 (.str _)⟩)
    · exact h3.elim
  · split at h3
    · rename_i ws el
      obtain ⟨p, vs, rfl, h1, r1⟩ := asL_ok hr3 rx el
      exact .inl ⟨p, vs, rfl, h1, fun l hl => Po.lst h3 hr3 hl (r1.cut _ _)⟩
    · exact h3.elim
end

/-! ### fields -/
@[simp] def mFld (c : Nat) (f : Str) (a : ME) : ME := fun s st => (a s st).bind fun x st1 => match x with
  | .ref i => match st1[i]? with
    | some (.ins d fs) => if d = c then match fs.lookup f with
        | some w => .ok w st1
        | none => .stuck
      else .stuck
    | _ => .stuck
  | _ => .stuck
section
variable {X : Cx} {Cl : Nat → Addr} {E : XK} {pos : Pos} {ma : ME} {e : Expr}
theorem je_fld {c : Nat} {f : Str} (hc : Cls X.K (Cl c)) (hn : NoAttr X.K (Cl c) f) (ha : JE X Cl E e ma) (hb : attributeBase e f X.env (eval e X.env) = eval e X.env := by rfl) : JE X Cl E (.Attribute e f pos) (mFld c f ma) := by
  obtain ⟨t, p, q⟩ := ha.ex
  refine ⟨_, pe_fld p hb, fun β H σ s st Q hr hs h => q β H σ s st _ hr hs (h.bind fun x st1 β1 H1 v _ e1 hr1 rx h1 => ?_)⟩
  cases x with
  | ref i =>
    simp only at h1
    split at h1
    · rename_i d fs es
      split at h1
      · rename_i ed
        subst ed
        split at h1
        · rename_i w el
          obtain ⟨a, rfl, hb, dx, gs, hv, hrs⟩ := rx.atRef hr1 es (by intro z; cases z)
          obtain ⟨v, hl, rv⟩ := hrs.look el
          exact ⟨a, _, dx, gs, v, rfl, hv, hc, hn, hl, PoG.val h1 hr1 rv⟩
        · exact h1.elim
      · exact h1.elim
    · exact h1.elim
  | _ => exact h1.elim
end

/-! ### built-in calls -/
@[simp] def mCB (r : List W → Sto → Out W) (a : MA) : ME := fun s st => (a s st).bind fun xs st1 => r xs st1
def SCal (K : PySem.W.Frag) (Cl : Nat → Addr) (E : XK) (r : List V → Hp → VK → Prop) (m : List W → Sto → Out W) : Prop :=
  ∀ β H st xs vs Q, HR K Cl β H st → RVs K β H xs vs → Po K Cl E β H Q (m xs st) → r vs H Q
section
variable {X : Cx} {Cl : Nat → Addr} {E : XK} {pos p : Pos} {mr : MA} {e : Expr} {es : List Expr}
theorem je_callB {x : Str} {id : String} {r : List V → Hp → VK → Prop} {m : List W → Sto → Out W} (hc : CallR X (.builtin id) r ∧ SCal X.K Cl E r m) (hm : X.mg x = none) (hv : bootBuiltins x = some (.builtin id)) (ha : JA X Cl E (e :: es) mr) (hg : Gl X x := by rfl) (hn : x ≠ "__name__" := by decide) (hdb : (x == ("__debug__" : Str)) = false := by decide)
    (he : starEach (e :: es) X.env = (false, eval e X.env) :: starEach es X.env := by rfl) (hpl : (backTo pos (starEach es X.env)).any (·.1) = false := by rfl) : JE X Cl E (.Call (.Name x p) (e :: es) [] pos) (mCB m mr) := by
  obtain ⟨t, pr, q⟩ := ha.ex
  exact ⟨_, pe_callB hc.1 hg hm hv pr hn hdb he hpl, fun β H σ s st Q hr hs h => q β H σ s st _ hr hs (h.bind fun x st1 β1 H1 v _ e1 hr1 rx h1 => hc.2 β1 H1 st1 x v Q hr1 rx h1)⟩
theorem je_callTy {x : Str} {T : String} {r : List V → Hp → VK → Prop} {m : List W → Sto → Out W} (hc : CallR X (.type T) r ∧ SCal X.K Cl E r m) (hm : X.mg x = none) (hv : bootBuiltins x = some (.type T)) (ha : JA X Cl E (e :: es) mr) (hg : Gl X x := by rfl) (hn : x ≠ "__name__" := by decide) (hdb : (x == ("__debug__" : Str)) = false := by decide)
    (he : starEach (e :: es) X.env = (false, eval e X.env) :: starEach es X.env := by rfl) (hpl : (backTo pos (starEach es X.env)).any (·.1) = false := by rfl) : JE X Cl E (.Call (.Name x p) (e :: es) [] pos) (mCB m mr) := by
  obtain ⟨t, pr, q⟩ := ha.ex
  exact ⟨_, pe_callTy hc.1 hg hm hv pr hn hdb he hpl, fun β H σ s st Q hr hs h => q β H σ s st _ hr hs (h.bind fun x st1 β1 H1 v _ e1 hr1 rx h1 => hc.2 β1 H1 st1 x v Q hr1 rx h1)⟩
@[simp] def mLen : List W → Sto → Out W := fun xs st => match xs with
  | [.tup ws] => .ok (.int (ws.length : Nat)) st
  | [.str z] => if z.length ≤ sizeLine then .ok (.int (z.length : Nat)) st else .stuck
  | [x] => match asL x st with
    | some ws => .ok (.int (ws.length : Nat)) st
    | none => .stuck
  | _ => .stuck
@[simp] def mAbs : List W → Sto → Out W := fun xs st => match xs with
  | [.int i] => .ok (.int (if i < 0 then -i else i)) st
  | _ => .stuck
@[simp] def mMax2 : List W → Sto → Out W := fun xs st => match xs with
  | [.int i, .int j] => .ok (.int (max i j)) st
  | _ => .stuck
@[simp] def mMin2 : List W → Sto → Out W := fun xs st => match xs with
  | [.int i, .int j] => .ok (.int (min i j)) st
  | _ => .stuck
@[simp] def mInt : List W → Sto → Out W := fun xs st => match xs with
  | [.int i] => .ok (.int i) st
  | [.bl k] => .ok (.int (if k then 1 else 0)) st
  | _ => .stuck
@[simp] def mListOf : List W → Sto → Out W := fun xs st => match xs with
  | [.tup ws] => .ok (.lst ws) st
  | [x] => match asL x st with
    | some ws => .ok (.lst ws) st
    | none => .stuck
  | _ => .stuck
@[simp] def mTupleOf : List W → Sto → Out W := fun xs st => match xs with
  | [.tup ws] => .ok (.tup ws) st
  | [x] => match asL x st with
    | some ws => .ok (.tup ws) st
    | none => .stuck
  | _ => .stuck
theorem RVs.one {K : PySem.W.Frag} {β : Bt} {H : Hp} {w : W} {vs : List V} (r : RVs K β H [w] vs) : ∃ v, vs = [v] ∧ RV K β H w v := by
  cases r with
  | cons h t => cases t; exact ⟨_, rfl, h⟩
theorem RVs.two {K : PySem.W.Frag} {β : Bt} {H : Hp} {w u : W} {vs : List V} (r : RVs K β H [w, u] vs) : ∃ v x, vs = [v, x] ∧ RV K β H w v ∧ RV K β H u x := by
  cases r with
  | cons h t =>
    obtain ⟨x, rfl, h2⟩ := RVs.one t
    exact ⟨_, _, rfl, h, h2⟩
theorem c_len : CallR X (.builtin "len") (fun xs H Q => ∃ x n, xs = [x] ∧ LenV X.K x H n ∧ Q (.int n) H) ∧ SCal X.K Cl E (fun xs H Q => ∃ x n, xs = [x] ∧ LenV X.K x H n ∧ Q (.int n) H) mLen := by
  refine ⟨call_len, fun β H st xs vs Q hr r h => ?_⟩
  unfold mLen at h
  split at h
  · obtain ⟨v, rfl, rv⟩ := r.one
    cases rv with
    | tup h1 r1 => exact ⟨_, _, rfl, .inr ⟨_, h1, r1.length⟩, PoG.val h hr (.int _)⟩
  · split at h
    · obtain ⟨v, rfl, rv⟩ := r.one
      cases rv
      exact ⟨_, _, rfl, ⟨by assumption, rfl⟩, PoG.val h hr (.int _)⟩
    · exact h.elim
  · split at h
    · rename_i ws el
      obtain ⟨v, rfl, rv⟩ := r.one
      obtain ⟨p, vs, rfl, h1, r1⟩ := asL_ok hr rv el
      exact ⟨_, _, rfl, .inl ⟨_, h1, r1.length⟩, PoG.val h hr (.int _)⟩
    · exact h.elim
  · exact h.elim
theorem c_abs : CallR X (.builtin "abs") (fun xs H Q => ∃ i, xs = [.int i] ∧ Q (.int (if i < 0 then -i else i)) H) ∧ SCal X.K Cl E (fun xs H Q => ∃ i, xs = [.int i] ∧ Q (.int (if i < 0 then -i else i)) H) mAbs := by
  refine ⟨call_abs, fun β H st xs vs Q hr r h => ?_⟩
  unfold mAbs at h
  split at h
  · obtain ⟨v, rfl, rv⟩ := r.one
    cases rv
    exact ⟨_, rfl, PoG.val h hr (.int _)⟩
  · exact h.elim
theorem c_max2 (hc : X.calm = true) : CallR X (.builtin "max") (fun xs H Q => ∃ i j, xs = [.int i, .int j] ∧ Q (.int (if j > i then j else i)) H) ∧ SCal X.K Cl E (fun xs H Q => ∃ i j, xs = [.int i, .int j] ∧ Q (.int (if j > i then j else i)) H) mMax2 := by
  refine ⟨call_max2 hc, fun β H st xs vs Q hr r h => ?_⟩
  unfold mMax2 at h
  split at h
  · rename_i i j
    obtain ⟨v, u, rfl, rv, ru⟩ := r.two
    cases rv; cases ru
    have e : (if j > i then j else i) = max i j := by split <;> omega
    exact ⟨_, _, rfl, by rw [e]; exact PoG.val h hr (.int _)⟩
  · exact h.elim
theorem c_min2 (hc : X.calm = true) : CallR X (.builtin "min") (fun xs H Q => ∃ i j, xs = [.int i, .int j] ∧ Q (.int (if j < i then j else i)) H) ∧ SCal X.K Cl E (fun xs H Q => ∃ i j, xs = [.int i, .int j] ∧ Q (.int (if j < i then j else i)) H) mMin2 := by
  refine ⟨call_min2 hc, fun β H st xs vs Q hr r h => ?_⟩
  unfold mMin2 at h
  split at h
  · rename_i i j
    obtain ⟨v, u, rfl, rv, ru⟩ := r.two
    cases rv; cases ru
    have e : (if j < i then j else i) = min i j := by split <;> omega
    exact ⟨_, _, rfl, by rw [e]; exact PoG.val h hr (.int _)⟩
  · exact h.elim
theorem c_int : CallR X (.type "int") (fun xs H Q => (∃ i, xs = [.int i] ∧ Q (.int i) H) ∨ ∃ k, xs = [.bl k] ∧ Q (.int (if k then 1 else 0)) H) ∧ SCal X.K Cl E (fun xs H Q => (∃ i, xs = [.int i] ∧ Q (.int i) H) ∨ ∃ k, xs = [.bl k] ∧ Q (.int (if k then 1 else 0)) H) mInt := by
  refine ⟨call_int1, fun β H st xs vs Q hr r h => ?_⟩
  unfold mInt at h
  split at h
  · obtain ⟨v, rfl, rv⟩ := r.one
    cases rv
    exact .inl ⟨_, rfl, PoG.val h hr (.int _)⟩
  · obtain ⟨v, rfl, rv⟩ := r.one
    cases rv
    exact .inr ⟨_, rfl, PoG.val h hr (.int _)⟩
  · exact h.elim
theorem c_list : CallR X (.type "list") (fun xs H Q => ∃ p ys, xs = [.ref p] ∧ (SqL X.K H p ys ∨ SqT X.K H p ys) ∧ ∀ l, H l = none → Q (.ref l) (upd H l (.lst ys))) ∧
    SCal X.K Cl E (fun xs H Q => ∃ p ys, xs = [.ref p] ∧ (SqL X.K H p ys ∨ SqT X.K H p ys) ∧ ∀ l, H l = none → Q (.ref l) (upd H l (.lst ys))) mListOf := by
  refine ⟨call_list_of, fun β H st xs vs Q hr r h => ?_⟩
  unfold mListOf at h
  split at h
  · obtain ⟨v, rfl, rv⟩ := r.one
    cases rv with
    | tup h1 r1 => exact ⟨_, _, rfl, .inr h1, fun l hl => Po.lst h hr hl r1⟩
  · split at h
    · rename_i ws el
      obtain ⟨v, rfl, rv⟩ := r.one
      obtain ⟨p, vs, rfl, h1, r1⟩ := asL_ok hr rv el
      exact ⟨_, _, rfl, .inl h1, fun l hl => Po.lst h hr hl r1⟩
    · exact h.elim
  · exact h.elim
theorem c_tuple : CallR X (.type "tuple") (fun xs H Q => ∃ p ys, xs = [.ref p] ∧ ((SqL X.K H p ys ∧ ∀ l, H l = none → Q (.ref l) (upd H l (.tup ys))) ∨ (SqT X.K H p ys ∧ Q (.ref p) H))) ∧
    SCal X.K Cl E (fun xs H Q => ∃ p ys, xs = [.ref p] ∧ ((SqL X.K H p ys ∧ ∀ l, H l = none → Q (.ref l) (upd H l (.tup ys))) ∨ (SqT X.K H p ys ∧ Q (.ref p) H))) mTupleOf := by
  refine ⟨call_tuple_of, fun β H st xs vs Q hr r h => ?_⟩
  unfold mTupleOf at h
  split at h
  · obtain ⟨v, rfl, rv⟩ := r.one
    cases rv with
    | tup h1 r1 => exact ⟨_, _, rfl, .inr ⟨h1, PoG.val h hr (.tup h1 r1)⟩⟩
  · split at h
    · rename_i ws el
      obtain ⟨v, rfl, rv⟩ := r.one
      obtain ⟨p, vs, rfl, h1, r1⟩ := asL_ok hr rv el
      exact ⟨_, _, rfl, .inl ⟨h1, fun l hl => Po.tup h hr hl r1⟩⟩
    · exact h.elim
  · exact h.elim

/-! ### isinstance of a built-in class -/
@[simp] def tyOf (w : W) (st : Sto) : Option String := match w with
  | .non => some "NoneType" | .bl _ => some "bool" | .int _ => some "int" | .str _ => some "str" | .tup _ => some "tuple" | .lst _ => some "list" | .xst _ => some "list"
  | .ref i => match st[i]? with
    | some (.lst _) => some "list"
    | some (.dK _) => some "dict"
    | some (.dT _) => some "dict"
    | _ => none
@[simp] def mIsi (T : String) (a : ME) : ME := fun s st => (a s st).bind fun x st1 => match tyOf x st1 with
  | some t => match kitB t T with
    | some b => .ok (.bl b) st1
    | none => .stuck
  | none => .stuck
theorem tyOf_ok {K : PySem.W.Frag} {β : Bt} {H : Hp} {st : Sto} {x : W} {v : V} {t : String} (hr : HR K Cl β H st) (rx : RV K β H x v) (h : tyOf x st = some t) : TyX K H v (.type t) := by
  cases x with
  | non => cases h; cases rx; exact .base .non
  | bl b => cases h; cases rx; exact .base (.bl _)
  | int i => cases h; cases rx; exact .base (.int _)
  | str i => cases h; cases rx; exact .base (.str _)
  | tup ws =>
    cases h
    cases rx with
    | tup h1 r1 =>
      rcases h1 with (h1 | ⟨o, h1⟩) | ⟨o, its, n, hk, hc, _⟩
      · exact .base (.tup h1)
      · exact .fTuple h1
      · exact .kTuple hk hc
  | lst ws => cases h; cases rx with | lst h1 _ r1 => exact .base (.lst h1)
  | xst ws =>
    cases h
    cases rx with
    | xst h1 r1 =>
      rcases h1 with ⟨o, its, n, hk, hc, _⟩ | ⟨o, h1⟩
      · exact .kList hk hc
      · exact .base (.frz h1)
  | ref i =>
    simp only [tyOf] at h
    split at h
    · rename_i e
      cases h
      obtain ⟨a, rfl, _, vs, h1, _⟩ := rx.atRef hr e (by intro z; cases z)
      exact .base (.lst h1)
    · rename_i e
      cases h
      obtain ⟨a, rfl, _, vs, h1, _⟩ := rx.atRef hr e (by intro z; cases z)
      exact .base (.dK h1)
    · rename_i e
      cases h
      obtain ⟨a, rfl, _, vs, h1, _⟩ := rx.atRef hr e (by intro z; cases z)
      exact .base (.dT h1)
    · cases h
theorem je_isi {ma : ME} {x : Str} {T : String} {p2 : Pos} (hm : X.mg "isinstance" = none) (hmx : X.mg x = none) (hv : bootBuiltins x = some (.type T)) (ha : JE X Cl E e ma) (hgx : Gl X x := by rfl) (hnx : x ≠ "__name__" := by decide) (hdx : (x == ("__debug__" : Str)) = false := by decide)
    (hg : Gl X "isinstance" := by rfl)
    (he : starEach [e, .Name x p2] X.env = (false, eval e X.env) :: starEach [.Name x p2] X.env := by rfl) (hpl : (backTo pos (starEach [.Name x p2] X.env)).any (·.1) = false := by rfl) : JE X Cl E (.Call (.Name "isinstance" p) [e, .Name x p2] [] pos) (mIsi T ma) := by
  obtain ⟨t, pr, q⟩ := ha.ex
  refine ⟨_, pe_callB call_isi hg hm PyProof.Rows.boot_isinstance (pa_cons (hs := he) pr (pa_cons (pe_bltn (v := .ty T) hgx hmx hv rfl hnx hdx) pa_nil)) (he := he) (hpl := hpl), fun β H σ s st Q hr hs h => q β H σ s st _ hr hs (h.bind fun y st1 β1 H1 v _ e1 hr1 rx h1 => ?_)⟩
  split at h1
  · rename_i t et
    split at h1
    · rename_i b eb
      exact ⟨v, .ty T, .type t, .type T, b, rfl, .ty T, tyOf_ok hr1 rx et, kit_ty eb, PoG.val h1 hr1 (.bl b)⟩
    · exact h1.elim
  · exact h1.elim
end

/-! ### dicts with ints and texts as keys -/
@[simp] def toKey : W → Option Key
  | .int i => some (.inl i) | .str x => some (.inr x) | _ => none
def valW {κ : Type} [DecidableEq κ] (kvs : List (κ × W)) (k : κ) : Option W := (kvs.find? fun kv => decide (kv.1 = k)).map (·.2)
def putKW {κ : Type} [DecidableEq κ] (kvs : List (κ × W)) (k : κ) (v : W) : List (κ × W) :=
  if kvs.any fun kv => decide (kv.1 = k) then kvs.map fun kv => if kv.1 = k then (kv.1, v) else kv else kvs ++ [(k, v)]
@[simp] def mDGet (d k : ME) : ME := fun s st => (d s st).bind fun x st1 => (k s st1).bind fun y st2 => match x with
  | .ref i => match st2[i]?, toKey y with
    | some (.dK kvs), some k => match valW kvs k with
      | some w => .ok w st2
      | none => .stuck
    | _, _ => .stuck
  | _ => .stuck
section
variable {X : Cx} {Cl : Nat → Addr} {E : XK} {pos p : Pos} {md mk : ME} {o i : Expr}
theorem toKey_ok {K : PySem.W.Frag} {β : Bt} {H : Hp} {w : W} {v : V} {k : Key} (r : RV K β H w v) (h : toKey w = some k) : v = kV k := by
  cases w <;> first | (cases h; cases r; rfl) | cases h
theorem RF.val {K : PySem.W.Frag} {β : Bt} {H : Hp} {κ : Type} [DecidableEq κ] {k : κ} : ∀ {kvs : List (κ × W)} {gs : List (κ × V)} {w : W}, RF K β H kvs gs → valW kvs k = some w → ∃ v, valV gs k = some v ∧ RV K β H w v
  | _, _, _, .nil, e => by cases e
  | _, _, w, .cons (k := j) (w := u) (v := v) (fs := fs) (gs := gs) h r, e => by
    unfold valW at e
    unfold valV
    rw [List.find?_cons] at e ⊢
    by_cases hk : j = k
    · rw [decide_eq_true (show (j, u).1 = k from hk)] at e
      rw [decide_eq_true (show (j, v).1 = k from hk)]
      cases e
      exact ⟨v, rfl, h⟩
    · rw [decide_eq_false (show ¬ (j, u).1 = k from hk)] at e
      rw [decide_eq_false (show ¬ (j, v).1 = k from hk)]
      exact RF.val r e
theorem RF.valN {K : PySem.W.Frag} {β : Bt} {H : Hp} {κ : Type} [DecidableEq κ] {k : κ} : ∀ {kvs : List (κ × W)} {gs : List (κ × V)}, RF K β H kvs gs → valW kvs k = none → valV gs k = none
  | _, _, .nil, e => rfl
  | _, _, .cons (k := j) (w := u) (v := v) (fs := fs) (gs := gs) h r, e => by
    unfold valW at e
    unfold valV
    rw [List.find?_cons] at e ⊢
    by_cases hk : j = k
    · rw [decide_eq_true (show (j, u).1 = k from hk)] at e
      cases e
    · rw [decide_eq_false (show ¬ (j, u).1 = k from hk)] at e
      rw [decide_eq_false (show ¬ (j, v).1 = k from hk)]
      exact RF.valN r e
theorem je_dget (hu : X.A.units + 1 < cLine) (ho : JE X Cl E o md) (hi : JE X Cl E i mk) (hs : NoSl i := by exact fun _ _ => rfl) : JE X Cl E (.Subscript o i pos) (mDGet md mk) := by
  obtain ⟨_, p1, q1⟩ := ho.ex
  obtain ⟨_, p2, q2⟩ := hi.ex
  refine ⟨_, pe_dget hu p1 p2 hs, fun β H σ s st Q hr hs h => q1 β H σ s st _ hr hs (h.bind fun x st1 β1 H1 v _ e1 hr1 rx1 h1 => q2 β1 H1 σ s st1 _ hr1 (hs.ext e1) (h1.bind fun y st2 β2 H2 u _ e2 hr2 ry h2 => ?_))⟩
  have rx := rx1.ext e2
  cases x with
  | ref j =>
    simp only at h2
    split at h2
    · rename_i kvs k es ek
      split at h2
      · rename_i w ew
        obtain ⟨a, rfl, _, gs, hg, hrs⟩ := rx.atRef hr2 es (by intro z; cases z)
        obtain ⟨v, hv, rv⟩ := hrs.val ew
        exact ⟨a, v, rfl, .inl ⟨gs, k, .inl hg, toKey_ok ry ek, hv.symm⟩, PoG.val h2 hr2 rv⟩
      · exact h2.elim
    · exact h2.elim
  | _ => exact h2.elim
end

/-! ### a written dict -/
@[simp] def mPairs : List (ME × ME) → Slo → Sto → Out (List (W × W))
  | [], _, st => .ok [] st
  | (k, v) :: r, s, st => (k s st).bind fun x st1 => (v s st1).bind fun y st2 => (mPairs r s st2).bind fun ps st3 => .ok ((x, y) :: ps) st3
@[simp] def keyed : List (W × W) → Option (List (Key × W))
  | [] => some []
  | (x, y) :: r => match toKey x, keyed r with
    | some k, some ks => some ((k, y) :: ks)
    | _, _ => none
def mergeW (kvs more : List (Key × W)) : List (Key × W) := more.foldl (fun acc kv => putKW acc kv.1 kv.2) kvs
@[simp] def mDisp (ps : List (ME × ME)) : ME := fun s st => (mPairs ps s (st ++ [.dK []])).bind fun rs st2 => match st2[st.length]?, keyed rs with
  | some (.dK []), some kvs => if kvs.length ≤ 15 then .ok (.ref st.length) (st2.set st.length (.dK (mergeW [] kvs))) else .stuck
  | _, _ => .stuck
inductive RPs (K : PySem.W.Frag) (β : Bt) (H : Hp) : List (W × W) → List (V × V) → Prop
  | nil : RPs K β H [] []
  | cons {x y : W} {a b : V} {ws : List (W × W)} {vs : List (V × V)} : RV K β H x a → RV K β H y b → RPs K β H ws vs → RPs K β H ((x, y) :: ws) ((a, b) :: vs)
inductive JPs (X : Cx) (Cl : Nat → Addr) (E : XK) (pos : Pos) : List (Option Expr) → List Expr → List (TE × TE) → List (ME × ME) → Prop
  | nil : JPs X Cl E pos [] [] [] []
  | cons {k v : Expr} {ks : List (Option Expr)} {vs : List Expr} {tk tv : TE} {mk mv : ME} {ts : List (TE × TE)} {ms : List (ME × ME)} : PE X k tk → SE X.K Cl E tk mk → PE X v tv → SE X.K Cl E tv mv → JPs X Cl E pos ks vs ts ms → JPs X Cl E pos (some k :: ks) (v :: vs) ((tk, tv) :: ts) ((mk, mv) :: ms)
structure JP (X : Cx) (Cl : Nat → Addr) (E : XK) (pos : Pos) (ks : List (Option Expr)) (vs : List Expr) (ms : List (ME × ME)) : Prop where
  ex : ∃ ts, JPs X Cl E pos ks vs ts ms
section
variable {X : Cx} {Cl : Nat → Addr} {E : XK} {pos : Pos}
theorem jp_nil : JP X Cl E pos [] [] [] := ⟨[], .nil⟩
theorem jp_cons {k v : Expr} {ks : List (Option Expr)} {vs : List Expr} {mk mv : ME} {ms : List (ME × ME)} (hk : JE X Cl E k mk) (hv : JE X Cl E v mv) (h : JP X Cl E pos ks vs ms) : JP X Cl E pos (some k :: ks) (v :: vs) ((mk, mv) :: ms) := by
  obtain ⟨_, p1, q1⟩ := hk.ex
  obtain ⟨_, p2, q2⟩ := hv.ex
  obtain ⟨ts, h⟩ := h.ex
  exact ⟨_, .cons p1 q1 p2 q2 h⟩
theorem JPs.pps {ks : List (Option Expr)} {vs : List Expr} {ts : List (TE × TE)} {ms : List (ME × ME)} (h : JPs X Cl E pos ks vs ts ms) : PPs X pos ks vs ts := by
  induction h with
  | nil => exact pps_nil
  | cons p1 _ p2 _ _ ih => exact pps_cons p1 p2 ih
theorem JPs.sim {ks : List (Option Expr)} {vs : List Expr} {ts : List (TE × TE)} {ms : List (ME × ME)} (h : JPs X Cl E pos ks vs ts ms) : ∀ β H σ s st Q, HR X.K Cl β H st → SR X.K β H s σ → PoG X.K Cl (RPs X.K) E β H Q (mPairs ms s st) → tPairs ts σ H Q := by
  induction h with
  | nil => exact fun β H σ s st Q hr hs h => PoG.val h hr .nil
  | cons p1 q1 p2 q2 _ ih =>
    exact fun β H σ s st Q hr hs h => q1 β H σ s st _ hr hs (h.bind fun x st1 β1 H1 v _ e1 hr1 rx h1 => q2 β1 H1 σ s st1 _ hr1 (hs.ext e1) (h1.bind fun y st2 β2 H2 u _ e2 hr2 ry h2 => ih β2 H2 σ s st2 _ hr2 ((hs.ext e1).ext e2) (h2.bind fun ps st3 β3 H3 us _ e3 hr3 rp h3 =>
      PoG.val h3 hr3 (.cons (rx.ext (e2.trans e3)) (ry.ext e3) rp))))
theorem RF.any {K : PySem.W.Frag} {β : Bt} {H : Hp} {κ : Type} [DecidableEq κ] {k : κ} : ∀ {kvs : List (κ × W)} {gs : List (κ × V)}, RF K β H kvs gs → (kvs.any fun kv => decide (kv.1 = k)) = (gs.any fun kv => decide (kv.1 = k))
  | _, _, .nil => rfl
  | _, _, .cons h r => by
    rw [List.any_cons, List.any_cons, RF.any r] <;> rfl
theorem RF.repl {K : PySem.W.Frag} {β : Bt} {H : Hp} {κ : Type} [DecidableEq κ] {k : κ} {y : W} {v : V} (ry : RV K β H y v) : ∀ {kvs : List (κ × W)} {gs : List (κ × V)}, RF K β H kvs gs → RF K β H (kvs.map fun kv => if kv.1 = k then (kv.1, y) else kv) (gs.map fun kv => if kv.1 = k then (kv.1, v) else kv)
  | _, _, .nil => .nil
  | _, _, .cons (k := j) h r => by
    rw [List.map_cons, List.map_cons]
    by_cases e : j = k
    · rw [if_pos (show (j, _).1 = k from e), if_pos (show (j, _).1 = k from e)]
      exact .cons ry (RF.repl ry r)
    · rw [if_neg (show ¬ (j, _).1 = k from e), if_neg (show ¬ (j, _).1 = k from e)]
      exact .cons h (RF.repl ry r)
theorem RF.append {K : PySem.W.Frag} {β : Bt} {H : Hp} {κ : Type} : ∀ {kvs more : List (κ × W)} {gs hs : List (κ × V)}, RF K β H kvs gs → RF K β H more hs → RF K β H (kvs ++ more) (gs ++ hs)
  | _, _, _, _, .nil, s => s
  | _, _, _, _, .cons h r, s => .cons h (RF.append r s)
theorem RF.put {K : PySem.W.Frag} {β : Bt} {H : Hp} {κ : Type} [DecidableEq κ] {kvs : List (κ × W)} {gs : List (κ × V)} (r : RF K β H kvs gs) (k : κ) {y : W} {v : V} (ry : RV K β H y v) : RF K β H (putKW kvs k y) (putK gs k v) := by
  unfold putKW putK
  rw [r.any (k := k)]
  split
  · exact r.repl ry
  · exact r.append (.cons ry .nil)
theorem RF.merge {K : PySem.W.Frag} {β : Bt} {H : Hp} : ∀ {more : List (Key × W)} {hs : List (Key × V)} {kvs : List (Key × W)} {gs : List (Key × V)}, RF K β H more hs → RF K β H kvs gs → RF K β H (mergeW kvs more) (mergeK gs hs)
  | _, _, _, _, .nil, r => r
  | _, _, kvs, gs, .cons (k := k) (w := w) (v := v) (fs := fs) (gs := hs) h t, r => by
    show RF K β H (mergeW (putKW kvs k w) fs) (mergeK (putK gs k v) hs)
    exact RF.merge t (r.put k h)
theorem keyed_ok {K : PySem.W.Frag} {β : Bt} {H : Hp} : ∀ {ws : List (W × W)} {vs : List (V × V)} {kvs : List (Key × W)}, RPs K β H ws vs → keyed ws = some kvs → ∃ gs : List (Key × V), vs = gs.map (fun kv => (kV kv.1, kv.2)) ∧ RF K β H kvs gs
  | _, _, _, .nil, h => by cases h; exact ⟨[], rfl, .nil⟩
  | _, _, _, .cons (x := x) (ws := ws) (b := b) rx ry r, h => by
    unfold keyed at h
    split at h
    · rename_i k ks e1 e2
      cases h
      obtain ⟨gs, e, rf⟩ := keyed_ok r e2
      have ek := toKey_ok rx e1
      subst e ek
      exact ⟨(k, b) :: gs, rfl, .cons ry rf⟩
    · cases h
theorem je_disp {ks : List (Option Expr)} {vs : List Expr} {ms : List (ME × ME)} (h : JP X Cl E pos ks vs ms) (hall : ks.all (·.isSome) = true := by rfl) (hl : ks.length = vs.length := by rfl) (h0 : ks ≠ [] := by exact List.cons_ne_nil _ _) (h15 : ks.length ≤ 15 := by decide) : JE X Cl E (.Dict ks vs pos) (mDisp ms) := by
  obtain ⟨ts, h⟩ := h.ex
  refine ⟨_, pe_disp h.pps hall hl h0 h15, fun β H σ s st Q hr hs hp p hn => ?_⟩
  have ep : Ext X.K β H (β.push p) (upd H p (.dK [])) := Ext.push hn
  have hr' : HR X.K Cl (β.push p) (upd H p (.dK [])) (st ++ [.dK []]) := hr.push hn ⟨[], upd_same, .nil⟩
  refine h.sim _ _ σ s _ _ hr' (hs.ext ep) ((PoG.ext ep hp).bind fun rs st2 β2 H2 us _ e2 hr2 rp h2 => ?_)
  split at h2
  · rename_i kvs e1 e3
    split at h2
    · rename_i hz
      have hb : (β.push p).l[st.length]? = some (some p) := by rw [← hr.len]; exact push_last
      obtain ⟨a, hb2, gs0, hg, r0⟩ := hr2.at e1 (by intro z; cases z)
      cases r0
      have ha : a = p := by
        rcases e2.live _ _ hb with q | q
        · rw [hb2] at q
          exact Option.some.inj (Option.some.inj q)
        · rw [hb2] at q
          cases q
      subst ha
      obtain ⟨gs, eg, rf⟩ := keyed_ok rp e3
      have hlen : gs.length ≤ 15 := by rw [← rf.length]; exact hz
      have em : Ext X.K β2 H2 β2 (upd H2 a (.dK (mergeK [] gs))) := Ext.mut hr2 hb2 hg trivial
      exact ⟨hg, gs, eg, hlen, h2 β2 _ _ em (hr2.mut hb2 hg trivial ⟨_, upd_same, (rf.merge .nil).ext em⟩) (.ref hb2)⟩
    · exact h2.elim
  · exact h2.elim
end
end Mi
/-! The mirror layer, part E: statements, loops, comprehensions. -/
namespace Mi
open PySem L2

structure JS (X : Cx) (Cl : Nat → Addr) (E : XK) (x : Stmt) (m : MS) : Prop where
  ex : ∃ t, PS X x t ∧ SS X.K Cl E t m
structure JSs (X : Cx) (Cl : Nat → Addr) (E : XK) (x : List Stmt) (m : MS) : Prop where
  ex : ∃ t, PSs X x t ∧ SS X.K Cl E t m

@[simp] def SO.then : SO → MS → SO
  | .nx s st, k => k s st
  | .rt w st, _ => .rt w st
  | .bk s st, _ => .bk s st
  | .ct s st, _ => .ct s st
  | .exc c fs st, _ => .exc c fs st
  | .stuck, _ => .stuck
/-- an evaluation's outcome, then a statement's -/
@[simp] def Out.run {α : Type} : Out α → (α → Sto → SO) → SO
  | .ok a st, k => k a st
  | .exc c fs st, _ => .exc c fs st
  | .stuck, _ => .stuck
@[simp] def mSkip : MS := fun s st => .nx s st
@[simp] def mSeq (a b : MS) : MS := fun s st => (a s st).then b
@[simp] def mBrk : MS := fun s st => .bk s st
@[simp] def mCont : MS := fun s st => .ct s st
@[simp] def mDrop (e : ME) : MS := fun s st => (e s st).run fun _ st1 => .nx s st1
@[simp] def mRet (e : ME) : MS := fun s st => (e s st).run fun w st1 => .rt w st1
@[simp] def mRetN : MS := fun _ st => .rt .non st
@[simp] def mIfS (t : MT) (a b : MS) : MS := fun s st => (t s st).run fun k st1 => if k = true then a s st1 else b s st1
abbrev MG := W → Slo → Sto → Option (Slo × Sto)
abbrev MGs := List W → Slo → Sto → Option (Slo × Sto)
@[simp] def mGN (i : Nat) : MG := fun w s st => some (s.set i (some w), st)
@[simp] def mGNil : MGs := fun ws s st => match ws with
  | [] => some (s, st)
  | _ => none
@[simp] def mGCons (g : MG) (r : MGs) : MGs := fun ws s st => match ws with
  | w :: ws => match g w s st with
    | some (s1, st1) => r ws s1 st1
    | none => none
  | [] => none
@[simp] def mGTup (n : Nat) (g : MGs) : MG := fun w s st => match w with
  | .tup ws => if ws.length = n then g ws s st else none
  | _ => none
@[simp] def mGSub (o i : ME) : MG := fun w s st => match o s st with
  | .ok x st1 => match i s st1 with
    | .ok y st2 => match x, y with
      | .ref r, .int k => match st2[r]? with
        | some (.lst ws) => match ixN ws.length k with
          | some j => some (s, st2.set r (.lst (ws.set j w)))
          | none => none
        | _ => none
      | _, _ => none
    | _ => none
  | _ => none
@[simp] def mGFld (c : Nat) (f : Str) (o : ME) : MG := fun w s st => match o s st with
  | .ok x st1 => match x with
    | .ref r => match st1[r]? with
      | some (.ins d fs) => if d = c ∧ fs.length < 1000 then some (s, st1.set r (.ins c (putW f w fs))) else none
      | _ => none
    | _ => none
  | _ => none
@[simp] def mAsg (e : ME) (g : MG) : MS := fun s st => (e s st).run fun w st1 => match g w s st1 with
  | some (s1, st2) => .nx s1 st2
  | none => .stuck
@[simp] def mSetF (c : Nat) (f : Str) (o e : ME) : MS := fun s st => (e s st).run fun w st1 => (o s st1).run fun x st2 => match x with
  | .ref r => match st2[r]? with
    | some (.ins d fs) => if d = c ∧ fs.length < 1000 then .nx s (st2.set r (.ins c (putW f w fs))) else .stuck
    | _ => .stuck
  | _ => .stuck
@[simp] def mDPut (d k e : ME) : MS := fun s st => (e s st).run fun w st1 => (d s st1).run fun x st2 => (k s st2).run fun y st3 => match x with
  | .ref r => match st3[r]?, toKey y with
    | some (.dK kvs), some k => if kvs.length < sizeLine then .nx s (st3.set r (.dK (putKW kvs k w))) else .stuck
    | _, _ => .stuck
  | _ => .stuck
/-- name op= e -/
@[simp] def mAug (i : Nat) (e : ME) (f : Int → Int → Int) : MS := fun s st => match s[i]? with
  | some (some (.int a)) => (e s st).run fun y st1 => match y with
    | .int b => .nx (s.set i (some (.int (f a b)))) st1
    | _ => .stuck
  | _ => .stuck
@[simp] def mPar (i j : Nat) (a : MA) : MS := fun s st => (a s st).run fun ws st1 => match ws with
  | [v, w] => .nx ((s.set i (some v)).set j (some w)) st1
  | _ => .stuck

section
variable {K : PySem.W.Frag} {Cl : Nat → Addr} {E : XK} {β : Bt} {H : Hp} {α ω : Type} {R1 : Bt → Hp → α → ω → Prop} {D : Ends}
theorem PoS.run {Q1 : ω → Hp → Prop} {o : Out α} {f : α → Sto → SO} (h : PoS K Cl E D β H (o.run f))
    (k : ∀ a st1 β1 H1 v, o = .ok a st1 → Ext K β H β1 H1 → HR K Cl β1 H1 st1 → R1 β1 H1 a v → PoS K Cl E D β1 H1 (f a st1) → Q1 v H1) : PoG K Cl R1 E β H Q1 o := by
  cases o with
  | ok a st => exact fun β1 H1 v e hr r => k a st β1 H1 v rfl e hr r (PoS.ext e h)
  | exc c fs st => exact h
  | stuck => exact h
theorem PoS.val {s : Slo} {st : Sto} {σ : L2.St} (h : PoS K Cl E D β H (.nx s st)) (hr : HR K Cl β H st) (hs : SR K β H s σ) : D.nx σ H := h β H σ (Ext.refl K β H) hr hs
/-- a target's end -/
def PoT (K : PySem.W.Frag) (Cl : Nat → Addr) (Q : L2.St → Hp → Prop) (β : Bt) (H : Hp) : Option (Slo × Sto) → Prop
  | some (s, st) => ∀ β' H' σ', Ext K β H β' H' → HR K Cl β' H' st → SR K β' H' s σ' → Q σ' H'
  | none => False
theorem PoT.ext {Q : L2.St → Hp → Prop} {β' : Bt} {H' : Hp} {o : Option (Slo × Sto)} (e : Ext K β H β' H') (h : PoT K Cl Q β H o) : PoT K Cl Q β' H' o := by
  cases o with
  | some p => exact fun β2 H2 σ2 e2 hr hs => h β2 H2 σ2 (e.trans e2) hr hs
  | none => exact h
def SG (K : PySem.W.Frag) (Cl : Nat → Addr) (g : TG) (m : MG) : Prop := ∀ β H σ s st w v Q, HR K Cl β H st → SR K β H s σ → RV K β H w v → PoT K Cl Q β H (m w s st) → g v σ H Q
def SGs (K : PySem.W.Frag) (Cl : Nat → Addr) (g : TGs) (m : MGs) : Prop := ∀ β H σ s st ws vs Q, HR K Cl β H st → SR K β H s σ → RVs K β H ws vs → PoT K Cl Q β H (m ws s st) → g vs σ H Q
theorem ss_seq {t u : TS} {a b : MS} (ha : SS K Cl E t a) (hb : SS K Cl E u b) : SS K Cl E (tSeq t u) (mSeq a b) := fun β H σ s st D hr hs h => by
  refine ha β H σ s st _ hr hs ?_
  unfold mSeq at h
  cases e : a s st with
  | nx s1 st1 => rw [e] at h; exact fun β1 H1 σ1 e1 hr1 hs1 => hb β1 H1 σ1 s1 st1 D hr1 hs1 (PoS.ext e1 h)
  | rt w st1 => rw [e] at h; exact h
  | bk s1 st1 => rw [e] at h; exact h
  | ct s1 st1 => rw [e] at h; exact h
  | exc c fs st1 => rw [e] at h; exact h
  | stuck => rw [e] at h; exact h
end

section
variable {X : Cx} {Cl : Nat → Addr} {E : XK} {pos : Pos} {ma mb md mk : ME} {ta : MT} {m1 m2 : MS} {a b c e o : Expr} {st : Stmt} {rest as bs : List Stmt}
theorem jss_nil : JSs X Cl E [] mSkip := ⟨_, pss_nil, fun β H σ s st D hr hs h => PoS.val h hr hs⟩
theorem jss_cons (h1 : JS X Cl E st m1) (h2 : JSs X Cl E rest m2) : JSs X Cl E (st :: rest) (mSeq m1 m2) := by
  obtain ⟨_, p1, q1⟩ := h1.ex
  obtain ⟨_, p2, q2⟩ := h2.ex
  exact ⟨_, pss_cons p1 p2, ss_seq q1 q2⟩
theorem jss_one (h1 : JS X Cl E st m1) : JSs X Cl E [st] m1 := by
  obtain ⟨_, p1, q1⟩ := h1.ex
  exact ⟨_, pss_one p1, q1⟩
theorem js_pass : JS X Cl E (.Pass pos) mSkip := ⟨_, ps_pass, fun β H σ s st D hr hs h => PoS.val h hr hs⟩
theorem js_doc {x j pos'} : JS X Cl E (.Expr (.Constant (.str x) j pos) pos') mSkip := ⟨_, ps_doc, fun β H σ s st D hr hs h => PoS.val h hr hs⟩
theorem js_brk : JS X Cl E (.Break pos) mBrk := ⟨_, ps_break, fun β H σ s st D hr hs h => h β H σ (Ext.refl _ β H) hr hs⟩
theorem js_cont : JS X Cl E (.Continue pos) mCont := ⟨_, ps_continue, fun β H σ s st D hr hs h => h β H σ (Ext.refl _ β H) hr hs⟩
theorem js_expr (h : JE X Cl E e ma) (hs : swapsWith e none pos.line X.env = pure false := by rfl) : JS X Cl E (.Expr e pos) (mDrop ma) := by
  obtain ⟨_, p, q⟩ := h.ex
  exact ⟨_, ps_expr p hs, fun β H σ s st D hr hs h => q β H σ s st _ hr hs (h.run fun x st1 β1 H1 v _ e1 hr1 rx h1 => PoS.val h1 hr1 (hs.ext e1))⟩
theorem js_ret (h : JE X Cl E e ma) : JS X Cl E (.Return (some e) pos) (mRet ma) := by
  obtain ⟨_, p, q⟩ := h.ex
  exact ⟨_, ps_ret p, fun β H σ s st D hr hs h => q β H σ s st _ hr hs (h.run fun x st1 β1 H1 v _ e1 hr1 rx h1 => h1 β1 H1 v (Ext.refl _ β1 H1) hr1 rx)⟩
theorem js_retN : JS X Cl E (.Return none pos) mRetN := ⟨_, ps_retN, fun β H σ s st D hr hs h => h β H .non (Ext.refl _ β H) hr .non⟩
theorem js_if (hc : JT X Cl E c ta) (h1 : JSs X Cl E as m1) (h2 : JSs X Cl E bs m2) : JS X Cl E (.If c as bs pos) (mIfS ta m1 m2) := by
  obtain ⟨_, p, q⟩ := hc.ex
  obtain ⟨_, p1, q1⟩ := h1.ex
  obtain ⟨_, p2, q2⟩ := h2.ex
  refine ⟨_, ps_if p p1 p2, fun β H σ s st D hr hs h => q β H σ s st _ hr hs (h.run fun x st1 β1 H1 v _ e1 hr1 rx h1 => ?_)⟩
  cases rx
  cases x with
  | true => rw [if_pos rfl] at h1 ⊢; exact q1 β1 H1 σ s st1 D hr1 (hs.ext e1) h1
  | false => rw [if_neg Bool.false_ne_true] at h1 ⊢; exact q2 β1 H1 σ s st1 D hr1 (hs.ext e1) h1

/-! ### targets -/
structure JG (X : Cx) (Cl : Nat → Addr) (tg : Expr) (m : MG) : Prop where
  ex : ∃ g, PG X tg g ∧ SG X.K Cl g m
structure JGs (X : Cx) (Cl : Nat → Addr) (tgs : List Expr) (m : MGs) : Prop where
  ex : ∃ g, PGs X tgs g ∧ SGs X.K Cl g m
theorem jg_name (i : Nat) {x : Str} (hN : X.N.Nodup) (hi : X.N[i]? = some x := by rfl) (hx : Loc X.env.scope x := by first | exact .inl rfl | exact .inr rfl) (hf : X.fn x = true ∨ X.env.scope.names.lookup x = some .local := by first | exact .inl rfl | exact .inr rfl) : JG X Cl (.Name x pos) (mGN i) :=
  ⟨_, pg_name hN hi hx hf, fun β H σ s st w v Q hr hs rw h => h β H _ (Ext.refl _ β H) hr (hs.set rw)⟩
theorem jgs_nil : JGs X Cl [] mGNil := by
  refine ⟨_, pgs_nil, fun β H σ s st ws vs Q hr hs rw h => ?_⟩
  unfold mGNil at h
  split at h
  · cases rw
    exact ⟨rfl, h β H _ (Ext.refl _ β H) hr hs⟩
  · exact h.elim
theorem jgs_cons {g : MG} {r : MGs} {t : Expr} {ts : List Expr} (h1 : JG X Cl t g) (h2 : JGs X Cl ts r) (hs : (assignEach (t :: ts) X.env).map (·.2) = assign t X.env :: (assignEach ts X.env).map (·.2) := by rfl) : JGs X Cl (t :: ts) (mGCons g r) := by
  obtain ⟨_, p1, q1⟩ := h1.ex
  obtain ⟨_, p2, q2⟩ := h2.ex
  refine ⟨_, pgs_cons p1 p2 hs, fun β H σ s st ws vs Q hr hs rw h => ?_⟩
  unfold mGCons at h
  split at h
  · rename_i w ws
    cases rw with
    | cons r1 r2 =>
      refine ⟨_, _, rfl, q1 β H σ s st _ _ _ hr hs r1 ?_⟩
      cases e : g w s st with
      | none => rw [e] at h; exact h.elim
      | some p =>
        obtain ⟨s1, st1⟩ := p
        rw [e] at h
        exact fun β1 H1 σ1 e1 hr1 hs1 => q2 β1 H1 σ1 s1 st1 _ _ Q hr1 hs1 (r2.ext e1) (PoT.ext e1 h)
  · exact h.elim
theorem jg_tup {r : MGs} {ts : List Expr} {k : Nat} {n : Nat} (hc : X.calm = true) (h : JGs X Cl ts r) (hn : (assignEach ts X.env).length = n := by rfl) (hst : (assignEach ts X.env).findIdx? (·.1) = none := by rfl) : JG X Cl (.Tuple ts k pos) (mGTup n r) := by
  obtain ⟨_, p, q⟩ := h.ex
  refine ⟨_, pg_tup hc p hn hst, fun β H σ s st w v Q hr hs rw h => ?_⟩
  unfold mGTup at h
  split at h
  · split at h
    · rename_i hl
      cases rw with
      | tup h1 r1 => exact ⟨_, _, rfl, h1, by rw [← r1.length]; exact hl, q β H σ s st _ _ Q hr hs r1 h⟩
    · exact h.elim
  · exact h.elim
theorem jg_sub {i : Expr} (ho : JE X Cl E o ma) (hi : JE X Cl E i mb)
    (ha : ∀ v, assign (.Subscript o i pos) X.env v = (do
      let ov ← holding [v] (eval o X.env)
      let iv ← holding [v, ov] (eval i X.env)
      standAt pos
      holding [v, ov, iv] (setItem ov iv v)
      release [v, ov, iv] []) := by intro _; rfl) : JG X Cl (.Subscript o i pos) (mGSub ma mb) := by
  obtain ⟨_, p1, q1⟩ := ho.ex
  obtain ⟨_, p2, q2⟩ := hi.ex
  refine ⟨_, pg_sub p1 p2 set_list ha, fun β H σ s st w v Q hr hs rw h => q1 β H σ s st _ hr hs ?_⟩
  unfold mGSub at h
  cases e1 : ma s st with
  | exc c fs x => rw [e1] at h; exact h.elim
  | stuck => rw [e1] at h; exact h.elim
  | ok x st1 =>
    rw [e1] at h
    intro β1 H1 v1 x1 hr1 rx
    refine q2 β1 H1 σ s st1 _ hr1 (hs.ext x1) ?_
    simp only at h
    cases e2 : mb s st1 with
    | exc c fs x => rw [e2] at h; exact h.elim
    | stuck => rw [e2] at h; exact h.elim
    | ok y st2 =>
      rw [e2] at h
      intro β2 H2 v2 x2 hr2 ry
      simp only at h
      split at h
      · rename_i r k
        split at h
        · rename_i ws es
          split at h
          · rename_i j ej
            have rx2 := rx.ext x2
            obtain ⟨a, rfl, hb, vs, hv, hrs⟩ := rx2.atRef hr2 es (by intro z; cases z)
            cases ry
            have em : Ext X.K β2 H2 β2 (upd H2 a (.lst (vs.set j v))) := Ext.mut hr2 hb hv trivial
            refine ⟨a, vs, k, j, rfl, rfl, hv, by rw [← hrs.length]; exact ej, ?_⟩
            have hrw := hrs.set ((rw.ext x1).ext x2) j
            exact h β2 _ σ ((x1.trans x2).trans em) (hr2.mut hb hv trivial ⟨_, upd_same, hrw.ext em⟩) (((hs.ext x1).ext x2).ext em)
          · exact h.elim
        · exact h.elim
      · exact h.elim
theorem js_asg {tg : Expr} {g : MG} (he : JE X Cl E e ma) (hg : JG X Cl tg g) (hs : swapsWithSole [tg] e pos.line X.env = pure false := by rfl) (hw : swappedStores [tg] e X.env = pure none := by rfl)
    (h1 : (assignEach [tg] X.env).map (·.2) = [assign tg X.env] := by rfl) : JS X Cl E (.Assign [tg] e pos) (mAsg ma g) := by
  obtain ⟨_, p1, q1⟩ := he.ex
  obtain ⟨_, p2, q2⟩ := hg.ex
  refine ⟨_, ps_asg p1 p2 hs hw h1, fun β H σ s st D hr hs h => q1 β H σ s st _ hr hs (h.run fun x st1 β1 H1 v _ e1 hr1 rx h1 => q2 β1 H1 σ s st1 x v _ hr1 (hs.ext e1) rx ?_)⟩
  split at h1
  · rename_i s1 st2 eg
    rw [eg]
    exact h1
  · exact h1.elim
theorem js_set (i : Nat) {x : Str} {pos' : Pos} (hN : X.N.Nodup) (he : JE X Cl E e ma) (hi : X.N[i]? = some x := by rfl) (hx : Loc X.env.scope x := by first | exact .inl rfl | exact .inr rfl) (hs : swapsWith e (some (.Name x pos')) pos.line X.env = pure false := by rfl) (hf : X.fn x = true ∨ X.env.scope.names.lookup x = some .local := by first | exact .inl rfl | exact .inr rfl) :
    JS X Cl E (.Assign [.Name x pos'] e pos) (mAsg ma (mGN i)) := by
  obtain ⟨_, p1, q1⟩ := he.ex
  exact ⟨_, ps_set hN hi hx p1 hs hf, fun β H σ s st D hr hs h => q1 β H σ s st _ hr hs (h.run fun x st1 β1 H1 v _ e1 hr1 rx h1 => PoS.val h1 hr1 ((hs.ext e1).set rx))⟩
theorem js_par (i j : Nat) {x y : Str} {px py pt pt2 : Pos} {kt k2 : Nat} {mp : MA} (hN : X.N.Nodup) (hc : X.calm = true) (ha : JA X Cl E [a, b] mp) (hij : i ≠ j := by decide) (hi : X.N[i]? = some x := by rfl) (hj : X.N[j]? = some y := by rfl)
    (hx : X.env.scope.names.lookup x = some .local := by rfl) (hy : X.env.scope.names.lookup y = some .local := by rfl)
    (hw : swappedStores [.Tuple [.Name x px, .Name y py] kt pt] (.Tuple [a, b] k2 pt2) X.env = pure (some [x, y]) := by rfl)
    (hs : swapsWithSole [.Tuple [.Name x px, .Name y py] kt pt] (.Tuple [a, b] k2 pt2) pos.line X.env = pure false := by rfl) :
    JS X Cl E (.Assign [.Tuple [.Name x px, .Name y py] kt pt] (.Tuple [a, b] k2 pt2) pos) (mPar i j mp) := by
  obtain ⟨_, p1, q1⟩ := ha.ex
  refine ⟨_, ps_par hc hN hi hj hij hx hy p1 hw hs, fun β H σ s st D hr hs h => q1 β H σ s st _ hr hs (h.run fun x st1 β1 H1 v _ e1 hr1 rx h1 => ?_)⟩
  split at h1
  · obtain ⟨v1, v2, rfl, r1, r2⟩ := RVs.two rx
    exact ⟨v1, v2, rfl, PoS.val h1 hr1 (((hs.ext e1).set r1).set r2)⟩
  · exact h1.elim
theorem putW_ok {K : PySem.W.Frag} {β : Bt} {H : Hp} {f : Str} {w : W} {v : V} (r : RV K β H w v) : ∀ {fs : Fl} {gs : List (Str × V)}, RF K β H fs gs → RF K β H (putW f w fs) (putF f v gs)
  | _, _, .nil => .cons r .nil
  | _, _, .cons (k := g) h t => by
    show RF K β H (if g = f then _ else _) (if g = f then _ else _)
    by_cases e : g = f
    · rw [if_pos e, if_pos e]
      subst e
      exact .cons r t
    · rw [if_neg e, if_neg e]
      exact .cons h (putW_ok r t)
theorem js_fld {c : Nat} {f : Str} {pos' : Pos} (hc : Cls X.K (Cl c)) (hn : NoAttr X.K (Cl c) f) (ho : JE X Cl E o mb) (he : JE X Cl E e ma) (hs : swapsWith e (some (.Attribute o f pos')) pos.line X.env = pure false := by rfl) :
    JS X Cl E (.Assign [.Attribute o f pos'] e pos) (mSetF c f mb ma) := by
  obtain ⟨_, p1, q1⟩ := he.ex
  obtain ⟨_, p2, q2⟩ := ho.ex
  refine ⟨_, ps_fld p2 p1 hs, fun β H σ s st D hr hs h => q1 β H σ s st _ hr hs (h.run fun x st1 β1 H1 v _ e1 hr1 rx h1 => q2 β1 H1 σ s st1 _ hr1 (hs.ext e1) (h1.run fun y st2 β2 H2 u _ e2 hr2 ry h2 => ?_))⟩
  cases y with
  | ref r =>
    simp only at h2
    split at h2
    · rename_i d fs es
      split at h2
      · rename_i hd
        obtain ⟨rfl, hl⟩ := hd
        obtain ⟨a, rfl, hb, dx, gs, hv, hrs⟩ := ry.atRef hr2 es (by intro z; cases z)
        have em : Ext X.K β2 H2 β2 (upd H2 a (.ins (Cl d) dx (putF f v gs))) := Ext.mut hr2 hb hv trivial
        exact ⟨a, _, dx, gs, rfl, hv, hc, hn, by rw [← hrs.length]; exact hl, h2 β2 _ σ em (hr2.mut hb hv trivial ⟨dx, _, upd_same, (putW_ok (rx.ext e2) hrs).ext em⟩) (((hs.ext e1).ext e2).ext em)⟩
      · exact h2.elim
    · exact h2.elim
  | _ => exact h2.elim
theorem js_dput {i : Expr} {pos' : Pos} (hu : X.A.units + 1 < cLine) (ho : JE X Cl E o md) (hi : JE X Cl E i mk) (he : JE X Cl E e ma) (hs : swapsWith e (some (.Subscript o i pos')) pos.line X.env = pure false := by rfl) :
    JS X Cl E (.Assign [.Subscript o i pos'] e pos) (mDPut md mk ma) := by
  obtain ⟨_, p1, q1⟩ := he.ex
  obtain ⟨_, p2, q2⟩ := ho.ex
  obtain ⟨_, p3, q3⟩ := hi.ex
  refine ⟨_, ps_dput hu p2 p3 p1 hs, fun β H σ s st D hr hs h => q1 β H σ s st _ hr hs (h.run fun x st1 β1 H1 v _ e1 hr1 rx h1 => q2 β1 H1 σ s st1 _ hr1 (hs.ext e1) (h1.run fun y st2 β2 H2 u _ e2 hr2 ry0 h2 =>
    q3 β2 H2 σ s st2 _ hr2 ((hs.ext e1).ext e2) (h2.run fun z st3 β3 H3 t _ e3 hr3 rz h3 => ?_)))⟩
  have ry := ry0.ext e3
  cases y with
  | ref r =>
    simp only at h3
    split at h3
    · rename_i kvs k es ek
      split at h3
      · rename_i hl
        obtain ⟨a, rfl, hb, gs, hv, hrs⟩ := ry.atRef hr3 es (by intro z; cases z)
        have em : Ext X.K β3 H3 β3 (upd H3 a (.dK (putK gs k v))) := Ext.mut hr3 hb hv trivial
        exact ⟨a, _, rfl, .inl ⟨gs, k, hv, toKey_ok rz ek, by rw [← hrs.length]; exact hl, rfl⟩, h3 β3 _ σ em (hr3.mut hb hv trivial ⟨_, upd_same, (hrs.put k ((rx.ext e2).ext e3)).ext em⟩) ((((hs.ext e1).ext e2).ext e3).ext em)⟩
      · exact h3.elim
    · exact h3.elim
  | _ => exact h3.elim
theorem js_aug (i : Nat) {x : Str} {op : Operator} {f : Int → Int → Int} {pos' : Pos} (hN : X.N.Nodup) (ho : PIp X op (ipI f)) (he : JE X Cl E e ma) (hi : X.N[i]? = some x := by rfl) (hx : Loc X.env.scope x := by first | exact .inl rfl | exact .inr rfl) (hf : X.fn x = true ∨ X.env.scope.names.lookup x = some .local := by first | exact .inl rfl | exact .inr rfl) :
    JS X Cl E (.AugAssign (.Name x pos') op e pos) (mAug i ma f) := by
  obtain ⟨_, p1, q1⟩ := he.ex
  refine ⟨_, ps_aug hN hi hx p1 ho hf, fun β H σ s st D hr hs h => ?_⟩
  unfold mAug at h
  split at h
  · rename_i z ez
    obtain ⟨v, hv, rz⟩ := hs.2 i _ ez
    cases rz
    refine ⟨_, hv, q1 β H σ s st _ hr hs (h.run fun x st1 β1 H1 v _ e1 hr1 rx h1 => ?_)⟩
    cases x with
    | int b =>
      cases rx
      exact ⟨_, _, rfl, rfl, PoS.val h1 hr1 ((hs.ext e1).set (.int _))⟩
    | _ => exact h1.elim
  · exact h.elim
end

/-! ### while -/
/-- n: the turns at most -/
def mWhileN (c : MT) (body : MS) : Nat → MS
  | 0 => fun _ _ => .stuck
  | n + 1 => fun s st => (c s st).run fun k st1 => if k = true then
      match body s st1 with
      | .nx s2 st2 => mWhileN c body n s2 st2
      | .ct s2 st2 => mWhileN c body n s2 st2
      | .bk s2 st2 => .nx s2 st2
      | o => o
    else .nx s st1
section
variable {X : Cx} {Cl : Nat → Addr} {E : XK} {pos : Pos} {mc : MT} {mb : MS} {c : Expr} {body : List Stmt}
theorem ss_while {K : PySem.W.Frag} {tc : TT} {tb : TS} (hc : ST K Cl E tc mc) (hb : SS K Cl E tb mb) (n : Nat) : SS K Cl E (tWhile tc tb) (mWhileN mc mb n) := fun β H σ s st D hr hs h => by
  refine ⟨fun m σ' H' => ∃ β' s' st', HR K Cl β' H' st' ∧ SR K β' H' s' σ' ∧ PoS K Cl E D β' H' (mWhileN mc mb m s' st'), ⟨n, β, s, st, hr, hs, h⟩, ?_⟩
  rintro m σ1 H1 ⟨β1, s1, st1, hr1, hs1, h1⟩
  cases m with
  | zero => exact h1.elim
  | succ m =>
    unfold mWhileN at h1
    refine hc β1 H1 σ1 s1 st1 _ hr1 hs1 (h1.run fun k st2 β2 H2 kv _ e2 hr2 rk h2 => ?_)
    cases rk
    cases k with
    | false =>
      rw [if_neg Bool.false_ne_true] at h2 ⊢
      exact PoS.val h2 hr2 (hs1.ext e2)
    | true =>
      rw [if_pos rfl] at h2 ⊢
      refine ⟨fun σ' H' => ∃ β' s' st', HR K Cl β' H' st' ∧ SR K β' H' s' σ' ∧ PoS K Cl E D β' H' (mWhileN mc mb m s' st'), fun σ' H' q => ⟨m, Nat.lt_succ_self m, q⟩, hb β2 H2 σ1 s1 st2 _ hr2 (hs1.ext e2) ?_⟩
      cases eb : mb s1 st2 with
      | nx s3 st3 => rw [eb] at h2; exact fun β3 H3 σ3 e3 hr3 hs3 => ⟨β3, s3, st3, hr3, hs3, PoS.ext e3 h2⟩
      | ct s3 st3 => rw [eb] at h2; exact fun β3 H3 σ3 e3 hr3 hs3 => ⟨β3, s3, st3, hr3, hs3, PoS.ext e3 h2⟩
      | bk s3 st3 => rw [eb] at h2; exact h2
      | rt w st3 => rw [eb] at h2; exact h2
      | exc c fs st3 => rw [eb] at h2; exact h2
      | stuck => rw [eb] at h2; exact h2
theorem js_while (n : Nat) (hp : PassesOwn (model X.prog X.w) X.A X.env X.xe) (hc : JT X Cl E c mc) (hb : JSs X Cl E body mb) : JS X Cl E (.While c body [] pos) (mWhileN mc mb n) := by
  obtain ⟨_, p1, q1⟩ := hc.ex
  obtain ⟨_, p2, q2⟩ := hb.ex
  exact ⟨_, ps_while hp p1 p2, ss_while q1 q2 n⟩
end

/-! ### what is walked -/
/-- values that stand, or a list of the store of so many items -/
inductive Src where
  | vals (ws : List W) | cell (i n : Nat)
def Src.len : Src → Nat
  | .vals ws => ws.length
  | .cell _ n => n
def Src.at : Src → Nat → Sto → Option W
  | .vals ws, j, _ => ws[j]?
  | .cell i n, j, st => match st[i]? with
    | some (.lst ws) => if ws.length = n then ws[j]? else none
    | _ => none
def Src.fine : Src → Sto → Bool
  | .vals _, _ => true
  | .cell i n, st => match st[i]? with
    | some (.lst ws) => decide (ws.length = n)
    | _ => false
abbrev MI := Slo → Sto → Out Src
/-- the walk J goes over src, from (β0, H0) on -/
structure WalkS (K : PySem.W.Frag) (Cl : Nat → Addr) (β0 : Bt) (H0 : Hp) (J : It) (src : Src) : Prop where
  ex : ∃ G Y, Walk J src.len G Y ∧ (∀ β H st, Ext K β0 H0 β H → HR K Cl β H st → src.fine st = true → G H) ∧
    ∀ i H x H' β st w, Ext K β0 H0 β H → HR K Cl β H st → src.at i st = some w → Y i H x H' → Ext K β H β H' ∧ HR K Cl β H' st ∧ RV K β H' w x
def PoI (K : PySem.W.Frag) (Cl : Nat → Addr) (E : XK) (β : Bt) (H : Hp) (R : It → Hp → Prop) : Out Src → Prop
  | .ok src st => ∀ β' H' J, Ext K β H β' H' → HR K Cl β' H' st → WalkS K Cl β' H' J src → R J H'
  | .exc c fs st => ∀ β' H' d, Ext K β H β' H' → HR K Cl β' H' st → RX K β' H' fs d → E (.ref (Cl c)) d H'
  | .stuck => False
structure JI (X : Cx) (Cl : Nat → Addr) (E : XK) (tg iter : Expr) (m : MI) : Prop where
  ex : ∃ w, PI X tg iter w ∧ ∀ β H σ s st R, HR X.K Cl β H st → SR X.K β H s σ → PoI X.K Cl E β H R (m s st) → w σ H R
@[simp] def mILst (e : ME) : MI := fun s st => (e s st).bind fun x st1 => match x with
  | .lst ws => .ok (.vals ws) st1
  | .xst ws => .ok (.vals ws) st1
  | .ref i => match st1[i]? with
    | some (.lst ws) => .ok (.cell i ws.length) st1
    | _ => .stuck
  | _ => .stuck
@[simp] def mITup (e : ME) : MI := fun s st => (e s st).bind fun x st1 => match x with
  | .tup ws => .ok (.vals ws) st1
  | _ => .stuck
def rngW (lo : Int) (n : Nat) : List W := (List.range n).map fun i => .int (lo + (i : Nat))
/-- the bounds of a range's ends (by natAbs: the kernel does not count them) -/
def rngOk (j : Int) : Bool := decide (j.natAbs < 4611686018427387904)
theorem rngOk_iff {j : Int} (h : rngOk j = true) : -(2 ^ 62) ≤ j ∧ j < 2 ^ 62 := by
  have h2 : j.natAbs < 4611686018427387904 := of_decide_eq_true h
  have e : (2 : Int) ^ 62 = 4611686018427387904 := by decide
  rw [e]
  omega
@[simp] theorem rngOk_eq (j : Int) : (rngOk j = true) = (j.natAbs < 4611686018427387904) := by simp [rngOk]
@[simp] def mIRng1 (a : MA) : MI := fun s st => (a s st).bind fun xs st1 => match xs with
  | [.int j] => if rngOk j = true then .ok (.vals (rngW 0 j.toNat)) st1 else .stuck
  | _ => .stuck
@[simp] def mIRng2 (a : MA) : MI := fun s st => (a s st).bind fun xs st1 => match xs with
  | [.int i, .int j] => if rngOk i = true ∧ rngOk j = true then .ok (.vals (rngW i (j - i).toNat)) st1 else .stuck
  | _ => .stuck
/-- range(i, j, c), c positive -/
@[simp] def mIRng3 (a : MA) : MI := fun s st => (a s st).bind fun xs st1 => match xs with
  | [.int i, .int j, .int c] => if rngOk i = true ∧ rngOk j = true ∧ 0 < c ∧ c < 1073741824 then .ok (.vals ((List.range ((j - i + c - 1) / c).toNat).map fun k => .int (i + (k : Nat) * c))) st1 else .stuck
  | _ => .stuck
@[simp] def mIEnum (a : MA) : MI := fun s st => (a s st).bind fun xs st1 => match xs with
  | [.lst ws] => .ok (.vals ((List.range ws.length).map fun i => .tup [.int (i : Nat), ws.getD i .non])) st1
  | [.xst ws] => .ok (.vals ((List.range ws.length).map fun i => .tup [.int (i : Nat), ws.getD i .non])) st1
  | _ => .stuck
section
variable {X : Cx} {Cl : Nat → Addr} {E : XK} {pos p : Pos} {ma : ME} {mr : MA} {tg e a b c : Expr}
theorem Out.bindI {K : PySem.W.Frag} {β : Bt} {H : Hp} {α ω : Type} {R1 : Bt → Hp → α → ω → Prop} {R : It → Hp → Prop} {Q1 : ω → Hp → Prop} {o : Out α} {f : α → Sto → Out Src} (h : PoI K Cl E β H R (o.bind f))
    (k : ∀ a st1 β1 H1 v, o = .ok a st1 → Ext K β H β1 H1 → HR K Cl β1 H1 st1 → R1 β1 H1 a v → PoI K Cl E β1 H1 R (f a st1) → Q1 v H1) : PoG K Cl R1 E β H Q1 o := by
  cases o with
  | ok a st =>
    refine fun β1 H1 v e hr r => k a st β1 H1 v rfl e hr r ?_
    have h' : PoI K Cl E β H R (f a st) := h
    cases ef : f a st with
    | ok src st2 => rw [ef] at h'; exact fun β2 H2 J e2 hr2 w => h' β2 H2 J (e.trans e2) hr2 w
    | exc c fs st2 => rw [ef] at h'; exact fun β2 H2 d e2 hr2 w => h' β2 H2 d (e.trans e2) hr2 w
    | stuck => rw [ef] at h'; exact h'
  | exc c fs st => exact h
  | stuck => exact h
theorem walkS_list {K : PySem.W.Frag} {β : Bt} {H : Hp} {p : Addr} {ws : List W} {vs : List V} (hl : ∀ β' H', Ext K β H β' H' → SqL K H' p vs) (r : RVs K β H ws vs) : WalkS K Cl β H (Itl K p) (.vals ws) := by
  refine ⟨_, _, (show Walk (Itl K p) ws.length _ _ from by rw [r.length]; exact walk_list (xs := vs)), fun β' H' st e hr _ => hl β' H' e, fun i H1 x H2 β1 st w e hr hw y => ?_⟩
  obtain ⟨rfl, hx⟩ := y
  obtain ⟨v, hv, rv⟩ := r.get (show ws[i]? = some w from hw)
  rw [hx] at hv
  cases hv
  exact ⟨Ext.refl _ _ _, hr, rv.ext e⟩
theorem walkS_tup {K : PySem.W.Frag} {β : Bt} {H : Hp} {p : Addr} {ws : List W} {vs : List V} (hl : SqT K H p vs) (r : RVs K β H ws vs) : WalkS K Cl β H (Itt K p) (.vals ws) := by
  refine ⟨_, _, (show Walk (Itt K p) ws.length _ _ from by rw [r.length]; exact walk_tup (xs := vs)), fun β' H' st e hr _ => e.tup _ _ hl, fun i H1 x H2 β1 st w e hr hw y => ?_⟩
  obtain ⟨rfl, hx⟩ := y
  obtain ⟨v, hv, rv⟩ := r.get (show ws[i]? = some w from hw)
  rw [hx] at hv
  cases hv
  exact ⟨Ext.refl _ _ _, hr, rv.ext e⟩
theorem HR.stay {K : PySem.W.Frag} {β β' : Bt} {H H' : Hp} {st : Sto} {i : Nat} {a : Addr} {ob : Ob} (e : Ext K β H β' H') (hr : HR K Cl β' H' st) (hb : β.l[i]? = some (some a)) (hs : st[i]? = some ob) (hd : ob ≠ .dead) : β'.l[i]? = some (some a) := by
  rcases e.live _ _ hb with q | q
  · exact q
  · rw [hr.dead i q] at hs
    exact absurd (Option.some.inj hs).symm hd
theorem walkS_cell {K : PySem.W.Frag} {β : Bt} {H : Hp} {i n : Nat} {a : Addr} (hb : β.l[i]? = some (some a)) : WalkS K Cl β H (Itl K a) (.cell i n) := by
  refine ⟨fun H' => ∃ vs, SqL K H' a vs ∧ vs.length = n, fun j H1 x H2 => H2 = H1 ∧ ∀ xs, SqL K H1 a xs → xs[j]? = some x, ⟨fun j H1 hj ⟨vs, hq, hl⟩ => ⟨vs, vs[j]'(by rw [hl]; exact hj), hq, by simp [hl, show j < n from hj]⟩, fun H1 ⟨vs, hq, hl⟩ => ⟨vs, hq, by rw [hl]; exact Nat.le_refl _⟩, fun j H1 x H2 hj _ y => y⟩, fun β' H' st e hr hf => ?_, fun j H1 x H2 β1 st w e hr hw y => ?_⟩
  · unfold Src.fine at hf
    simp only at hf
    split at hf
    · rename_i ws es
      have hb' := hr.stay e hb es (by intro z; cases z)
      obtain ⟨vs, hv, hrs⟩ := hr.ob i a _ hb' es
      exact ⟨vs, SqL.of hv, by rw [← hrs.length]; exact of_decide_eq_true hf⟩
    · cases hf
  · obtain ⟨rfl, hx⟩ := y
    unfold Src.at at hw
    simp only at hw
    split at hw
    · rename_i ws es
      split at hw
      · have hb' := hr.stay e hb es (by intro z; cases z)
        obtain ⟨vs, hv, hrs⟩ := hr.ob i a _ hb' es
        obtain ⟨v, hv', rv⟩ := hrs.get hw
        rw [hx vs (SqL.of hv)] at hv'
        cases hv'
        exact ⟨Ext.refl _ _ _, hr, rv⟩
      · cases hw
    · cases hw
theorem ji_lst (h : JE X Cl E e ma) : JI X Cl E tg e (mILst ma) := by
  obtain ⟨t, p, q⟩ := h.ex
  refine ⟨_, pi_list p, fun β H σ s st R hr hs h => q β H σ s st _ hr hs (Out.bindI h fun x st1 β1 H1 v _ e1 hr1 rx h1 => ?_)⟩
  cases x with
  | lst ws =>
    cases rx with
    | lst hv hn r1 => exact ⟨_, rfl, ⟨_, SqL.of hv⟩, h1 β1 H1 _ (Ext.refl _ _ _) hr1 (walkS_list (fun β' H' e => SqL.of (e.lst _ _ hv hn).1) r1)⟩
  | xst ws =>
    cases rx with
    | xst hv r1 => exact ⟨_, rfl, ⟨_, KL.sq hv⟩, h1 β1 H1 _ (Ext.refl _ _ _) hr1 (walkS_list (fun β' H' e => KL.sq (hv.imp (fun x => x) fun ⟨o, x⟩ => ⟨o, e.frz _ _ _ x⟩)) r1)⟩
  | ref i =>
    simp only at h1
    split at h1
    · rename_i ws es
      obtain ⟨a, rfl, hb, vs, hv, hrs⟩ := rx.atRef hr1 es (by intro z; cases z)
      exact ⟨a, rfl, ⟨vs, SqL.of hv⟩, h1 β1 H1 _ (Ext.refl _ _ _) hr1 (walkS_cell hb)⟩
    · exact h1.elim
  | _ => exact h1.elim
theorem ji_tup (h : JE X Cl E e ma) : JI X Cl E tg e (mITup ma) := by
  obtain ⟨t, p, q⟩ := h.ex
  refine ⟨_, pi_tup p, fun β H σ s st R hr hs h => q β H σ s st _ hr hs (Out.bindI h fun x st1 β1 H1 v _ e1 hr1 rx h1 => ?_)⟩
  cases x with
  | tup ws =>
    cases rx with
    | tup hv r1 => exact ⟨_, rfl, ⟨_, hv⟩, h1 β1 H1 _ (Ext.refl _ _ _) hr1 (walkS_tup hv r1)⟩
  | _ => exact h1.elim
theorem walkS_rng {K : PySem.W.Frag} {β : Bt} {H : Hp} {lo : Int} {n : Nat} : WalkS K Cl β H (Itr lo n) (.vals (rngW lo n)) := by
  refine ⟨_, _, (show Walk (Itr lo n) (rngW lo n).length _ _ from by rw [show (rngW lo n).length = n by simp [rngW]]; exact walk_range), fun β' H' st e hr _ => trivial, fun i H1 x H2 β1 st w e hr hw y => ?_⟩
  obtain ⟨rfl, rfl⟩ := y
  have hw' : (rngW lo n)[i]? = some w := hw
  unfold rngW at hw'
  rw [List.getElem?_map] at hw'
  by_cases hi : i < n
  · rw [List.getElem?_range hi] at hw'
    cases hw'
    exact ⟨Ext.refl _ _ _, hr, .int _⟩
  · rw [List.getElem?_eq_none (by simp; omega)] at hw'
    cases hw'
theorem walkS_rngC {K : PySem.W.Frag} {β : Bt} {H : Hp} {lo c : Int} {n : Nat} : WalkS K Cl β H (Itc lo c n) (.vals ((List.range n).map fun k => .int (lo + (k : Nat) * c))) := by
  refine ⟨_, _, (show Walk (Itc lo c n) ((List.range n).map fun k => W.int (lo + (k : Nat) * c)).length _ _ from by rw [show ((List.range n).map fun k => W.int (lo + (k : Nat) * c)).length = n by simp]; exact walk_rangeC), fun β' H' st e hr _ => trivial, fun i H1 x H2 β1 st w e hr hw y => ?_⟩
  obtain ⟨rfl, rfl⟩ := y
  have hw' : ((List.range n).map fun k => W.int (lo + (k : Nat) * c))[i]? = some w := hw
  rw [List.getElem?_map] at hw'
  by_cases hi : i < n
  · rw [List.getElem?_range hi] at hw'
    cases hw'
    exact ⟨Ext.refl _ _ _, hr, .int _⟩
  · rw [List.getElem?_eq_none (by simp; omega)] at hw'
    cases hw'
theorem ji_rng1 (hm : X.mg "range" = none) (ha : JA X Cl E [a] mr) (hg : Gl X "range" := by rfl) (hs : starEach [a] X.env = [(false, eval a X.env)] := by rfl) : JI X Cl E tg (.Call (.Name "range" p) [a] [] pos) (mIRng1 mr) := by
  obtain ⟨t, pr, q⟩ := ha.ex
  refine ⟨_, pi_range1 hg hm pr hs, fun β H σ s st R hr hs h => q β H σ s st _ hr hs (Out.bindI h fun x st1 β1 H1 v _ e1 hr1 rx h1 => ?_)⟩
  split at h1
  · split at h1
    · rename_i hz
      obtain ⟨u, rfl, ru⟩ := rx.one
      cases ru
      exact ⟨_, rfl, (rngOk_iff hz).1, (rngOk_iff hz).2, h1 β1 H1 _ (Ext.refl _ _ _) hr1 walkS_rng⟩
    · exact h1.elim
  · exact h1.elim
theorem ji_rng2 (hm : X.mg "range" = none) (ha : JA X Cl E [a, b] mr) (hg : Gl X "range" := by rfl) (hs : starEach [a, b] X.env = [(false, eval a X.env), (false, eval b X.env)] := by rfl) (hs2 : starEach [b] X.env = [(false, eval b X.env)] := by rfl) : JI X Cl E tg (.Call (.Name "range" p) [a, b] [] pos) (mIRng2 mr) := by
  obtain ⟨t, pr, q⟩ := ha.ex
  refine ⟨_, pi_range2 hg hm pr hs hs2, fun β H σ s st R hr hs h => q β H σ s st _ hr hs (Out.bindI h fun x st1 β1 H1 v _ e1 hr1 rx h1 => ?_)⟩
  split at h1
  · split at h1
    · rename_i hz
      obtain ⟨u, w, rfl, ru, rw'⟩ := rx.two
      cases ru; cases rw'
      exact ⟨_, _, rfl, ⟨(rngOk_iff hz.1).1, (rngOk_iff hz.1).2, (rngOk_iff hz.2).1, (rngOk_iff hz.2).2⟩, h1 β1 H1 _ (Ext.refl _ _ _) hr1 walkS_rng⟩
    · exact h1.elim
  · exact h1.elim
end

/-! ### for -/
def mLoop (src : Src) (g : MG) (body : MS) : Nat → Nat → MS
  | 0, _ => fun s st => if src.fine st = true then .nx s st else .stuck
  | k + 1, i => fun s st => if src.fine st = true then match src.at i st with
      | some w => match g w s st with
        | some (s1, st1) => match body s1 st1 with
          | .nx s2 st2 => mLoop src g body k (i + 1) s2 st2
          | .ct s2 st2 => mLoop src g body k (i + 1) s2 st2
          | .bk s2 st2 => .nx s2 st2
          | o => o
        | none => .stuck
      | none => .stuck
    else .stuck
@[simp] def mFor (it : MI) (g : MG) (body : MS) : MS := fun s st => (it s st).run fun src st1 => mLoop src g body src.len 0 s st1
section
variable {X : Cx} {Cl : Nat → Addr} {E : XK} {pos : Pos} {mi : MI} {mg : MG} {mb : MS} {tg iter : Expr} {body : List Stmt}
theorem js_for (hp : PassesOwn (model X.prog X.w) X.A X.env X.xe) (hc : X.calm = true) (hi : JI X Cl E tg iter mi) (hg : JG X Cl tg mg) (hb : JSs X Cl E body mb) (hs : ∀ x, foldedSetIterable iter X.env x = pure x := by intro _; rfl) : JS X Cl E (.For tg iter body [] pos) (mFor mi mg mb) := by
  obtain ⟨_, p1, q1⟩ := hi.ex
  obtain ⟨_, p2, q2⟩ := hg.ex
  obtain ⟨_, p3, q3⟩ := hb.ex
  refine ⟨_, ps_for hp hc p1 p2 p3 hs, fun β H σ s st D hr hs h => q1 β H σ s st _ hr hs ?_⟩
  unfold mFor at h
  cases ei : mi s st with
  | stuck => rw [ei] at h; exact h
  | exc c fs st1 => rw [ei] at h; exact h
  | ok src st1 =>
    rw [ei] at h
    intro β1 H1 J e1 hr1 w
    have h1 : PoS X.K Cl E D β1 H1 (mLoop src mg mb src.len 0 s st1) := PoS.ext e1 h
    obtain ⟨G, Y, wk, hG, hY⟩ := w.ex
    have fine : ∀ k i s st, PoS X.K Cl E D β1 H1 (mLoop src mg mb k i s st) → src.fine st = true := fun k i s st hh => by
      cases k with
      | zero => unfold mLoop at hh; split at hh; assumption; exact hh.elim
      | succ k => unfold mLoop at hh; split at hh; assumption; exact hh.elim
    refine for_it wk (fun i σ' H' => ∃ β' s' st', Ext X.K β1 H1 β' H' ∧ HR X.K Cl β' H' st' ∧ SR X.K β' H' s' σ' ∧ src.fine st' = true ∧ PoS X.K Cl E D β' H' (mLoop src mg mb (src.len - i) i s' st')) ⟨β1, s, st1, Ext.refl _ _ _, hr1, hs.ext e1, fine _ _ _ _ h1, by rw [Nat.sub_zero]; exact h1⟩ (fun i σ' H' hi ⟨β', s', st', e', hr', hs', hf, h'⟩ => hG β' H' st' e' hr' hf) (fun i x σ' H' H2 hi ⟨β', s', st', e', hr', hs', hf, h'⟩ y => ?_) (fun σ' H' ⟨β', s', st', e', hr', hs', hf, h'⟩ => ?_)
    · obtain ⟨k, hk⟩ : ∃ k, src.len - i = k + 1 := ⟨src.len - i - 1, by omega⟩
      rw [hk] at h'
      unfold mLoop at h'
      rw [if_pos hf] at h'
      split at h'
      · rename_i w ew
        obtain ⟨e2, hr2, rw2⟩ := hY i H' x H2 β' st' w e' hr' ew y
        refine q2 β' H2 σ' s' st' w x _ hr2 (hs'.ext e2) rw2 ?_
        split at h'
        · rename_i s3 st3 eg
          rw [eg]
          intro β3 H3 σ3 e3 hr3 hs3
          refine q3 β3 H3 σ3 s3 st3 _ hr3 hs3 ?_
          have e23 := e2.trans e3
          have nxt : ∀ s4 st4, PoS X.K Cl E D β' H' (mLoop src mg mb k (i + 1) s4 st4) → ∀ β4 H4 σ4, Ext X.K β3 H3 β4 H4 → HR X.K Cl β4 H4 st4 → SR X.K β4 H4 s4 σ4 → ∃ β' s' st', Ext X.K β1 H1 β' H4 ∧ HR X.K Cl β' H4 st' ∧ SR X.K β' H4 s' σ4 ∧ src.fine st' = true ∧ PoS X.K Cl E D β' H4 (mLoop src mg mb (src.len - (i + 1)) (i + 1) s' st') := fun s4 st4 h4 β4 H4 σ4 e4 hr4 hs4 => by
            have hk' : src.len - (i + 1) = k := by omega
            refine ⟨β4, s4, st4, e'.trans (e23.trans e4), hr4, hs4, ?_, by rw [hk']; exact PoS.ext (e23.trans e4) h4⟩
            cases k with
            | zero => unfold mLoop at h4; split at h4; assumption; exact h4.elim
            | succ k => unfold mLoop at h4; split at h4; assumption; exact h4.elim
          cases eb : mb s3 st3 with
          | nx s4 st4 => rw [eb] at h'; exact nxt s4 st4 h'
          | ct s4 st4 => rw [eb] at h'; exact nxt s4 st4 h'
          | bk s4 st4 => rw [eb] at h'; exact PoS.ext e23 h'
          | rt w4 st4 => rw [eb] at h'; exact PoS.ext e23 h'
          | exc c4 fs4 st4 => rw [eb] at h'; exact PoS.ext e23 h'
          | stuck => rw [eb] at h'; exact h'
        · exact h'.elim
      · exact h'.elim
    · rw [Nat.sub_self] at h'
      unfold mLoop at h'
      rw [if_pos hf] at h'
      exact PoS.val h' hr' hs'
end
end Mi
/-! The mirror layer, part F: comprehensions, defs and their calls, methods, new instances, the law's end. -/
namespace Mi
open PySem L2 PyProof.Rows

/-! ### one reading for each mirror -/
def tM (K : PySem.W.Frag) (Cl : Nat → Addr) (E : XK) (m : ME) : TE := fun σ H Q => ∃ β s st, HR K Cl β H st ∧ SR K β H s σ ∧ Po K Cl E β H Q (m s st)
def tMT (K : PySem.W.Frag) (Cl : Nat → Addr) (E : XK) (m : MT) : TT := fun σ H Q => ∃ β s st, HR K Cl β H st ∧ SR K β H s σ ∧ PoB K Cl E β H Q (m s st)
section
variable {X : Cx} {Cl : Nat → Addr} {E : XK} {e : Expr} {m : ME} {mt : MT}
theorem JE.pe (h : JE X Cl E e m) : PE X e (tM X.K Cl E m) := by
  obtain ⟨t, p, q⟩ := h.ex
  exact ⟨fun pins s σ H Q I ⟨β, sl, st, hr, hs, hp⟩ => p.run pins s σ H Q I (q β H σ sl st Q hr hs hp)⟩
theorem JT.pt (h : JT X Cl E e mt) : PT X e (tMT X.K Cl E mt) := by
  obtain ⟨t, p, q⟩ := h.ex
  exact ⟨fun pins s σ H Q I ⟨β, sl, st, hr, hs, hp⟩ => p.run pins s σ H Q I (q β H σ sl st Q hr hs hp)⟩
theorem se_m {K : PySem.W.Frag} : SE K Cl E (tM K Cl E m) m := fun β H σ s st Q hr hs h => ⟨β, s, st, hr, hs, h⟩
theorem st_m {K : PySem.W.Frag} : ST K Cl E (tMT K Cl E mt) mt := fun β H σ s st Q hr hs h => ⟨β, s, st, hr, hs, h⟩
end

/-! ### targets within a comprehension: they change its own names alone -/
theorem wipe_at {σ : L2.St} {j : Nat} : ∀ {vs : List Nat}, (wipe σ vs)[j]? = if j ∈ vs ∧ j < σ.length then some none else σ[j]?
  | [] => by simp [wipe]
  | v :: vs => by
    unfold wipe
    have ih := wipe_at (σ := σ) (j := j) (vs := vs)
    by_cases h : v = j
    · subst h
      by_cases hl : v < σ.length
      · rw [List.getElem?_set_self (by rw [wipe_length]; exact hl), if_pos ⟨List.mem_cons_self, hl⟩]
      · rw [List.getElem?_eq_none (by rw [List.length_set, wipe_length]; omega), if_neg (fun z => hl z.2), List.getElem?_eq_none (by omega)]
    · rw [List.getElem?_set_ne h, ih]
      by_cases hm : j ∈ vs ∧ j < σ.length
      · rw [if_pos hm, if_pos ⟨List.mem_cons_of_mem _ hm.1, hm.2⟩]
      · rw [if_neg hm, if_neg]
        rintro ⟨h1, h2⟩
        rcases List.mem_cons.mp h1 with z | z
        · exact h z.symm
        · exact hm ⟨z, h2⟩
theorem wipe_set {σ : L2.St} {i : Nat} {x : Option V} {vs : List Nat} (hi : i ∈ vs) : wipe (σ.set i x) vs = wipe σ vs := by
  apply List.ext_getElem?
  intro j
  rw [wipe_at, wipe_at, List.length_set]
  by_cases hm : j ∈ vs ∧ j < σ.length
  · rw [if_pos hm, if_pos hm]
  · rw [if_neg hm, if_neg hm]
    by_cases e : i = j
    · subst e
      have hl : ¬ i < σ.length := fun z => hm ⟨hi, z⟩
      rw [List.getElem?_eq_none (by rw [List.length_set]; omega), List.getElem?_eq_none (by omega)]
    · rw [List.getElem?_set_ne e]
def wipeW (s : Slo) : List Nat → Slo
  | [] => s
  | v :: vs => (wipeW s vs).set v none
def PoW (K : PySem.W.Frag) (Cl : Nat → Addr) (vs : List Nat) (σ : L2.St) (Q : L2.St → Hp → Prop) (β : Bt) (H : Hp) : Option (Slo × Sto) → Prop
  | some (s, st) => ∀ β' H' σ', wipe σ' vs = wipe σ vs → Ext K β H β' H' → HR K Cl β' H' st → SR K β' H' s σ' → Q σ' H'
  | none => False
theorem PoW.ext {K : PySem.W.Frag} {Cl : Nat → Addr} {vs : List Nat} {σ : L2.St} {Q : L2.St → Hp → Prop} {β β' : Bt} {H H' : Hp} {o : Option (Slo × Sto)} (e : Ext K β H β' H') (h : PoW K Cl vs σ Q β H o) : PoW K Cl vs σ Q β' H' o := by
  cases o with
  | some p => exact fun β2 H2 σ2 w e2 hr hs => h β2 H2 σ2 w (e.trans e2) hr hs
  | none => exact h
def SGW (K : PySem.W.Frag) (Cl : Nat → Addr) (vs : List Nat) (g : TG) (m : MG) : Prop := ∀ β H σ s st w v Q, HR K Cl β H st → SR K β H s σ → RV K β H w v → PoW K Cl vs σ Q β H (m w s st) → g v σ H Q
def SGsW (K : PySem.W.Frag) (Cl : Nat → Addr) (vs : List Nat) (g : TGs) (m : MGs) : Prop := ∀ β H σ s st ws us Q, HR K Cl β H st → SR K β H s σ → RVs K β H ws us → PoW K Cl vs σ Q β H (m ws s st) → g us σ H Q
/-- names of a comprehension's target, told as readings -/
inductive NT where
  | nm (i : Nat) | tp (ns : List NT)
mutual
def NT.g (K : PySem.W.Frag) : NT → TG
  | .nm i => gName i
  | .tp ns => gTup K ns.length (NT.gs K ns)
def NT.gs (K : PySem.W.Frag) : List NT → TGs
  | [] => gNil
  | n :: ns => gCons (NT.g K n) (NT.gs K ns)
end
mutual
def NT.m : NT → MG
  | .nm i => mGN i
  | .tp ns => mGTup ns.length (NT.ms ns)
def NT.ms : List NT → MGs
  | [] => mGNil
  | n :: ns => mGCons (NT.m n) (NT.ms ns)
end
mutual
def NT.within (vs : List Nat) : NT → Bool
  | .nm i => vs.contains i
  | .tp ns => NT.withins vs ns
def NT.withins (vs : List Nat) : List NT → Bool
  | [] => true
  | n :: ns => NT.within vs n && NT.withins vs ns
end
mutual
theorem NT.ok {K : PySem.W.Frag} {Cl : Nat → Addr} {vs : List Nat} : ∀ n : NT, NT.within vs n = true → SGW K Cl vs (NT.g K n) (NT.m n)
  | .nm i, hw => fun β H σ s st w v Q hr hs rw h => by
    simp only [NT.within] at hw
    exact h β H _ (wipe_set (List.contains_iff_mem.mp hw)) (Ext.refl _ _ _) hr (hs.set rw)
  | .tp ns, hw => fun β H σ s st w v Q hr hs rw h => by
    simp only [NT.within] at hw
    simp only [NT.m, mGTup] at h
    simp only [NT.g]
    split at h
    · split at h
      · rename_i hl
        cases rw with
        | tup h1 r1 => exact ⟨_, _, rfl, h1, by rw [← r1.length]; exact hl, NT.oks ns hw β H σ s st _ _ Q hr hs r1 h⟩
      · exact h.elim
    · exact h.elim
theorem NT.oks {K : PySem.W.Frag} {Cl : Nat → Addr} {vs : List Nat} : ∀ ns : List NT, NT.withins vs ns = true → SGsW K Cl vs (NT.gs K ns) (NT.ms ns)
  | [], hw => fun β H σ s st ws us Q hr hs rw h => by
    simp only [NT.ms, mGNil] at h
    simp only [NT.gs]
    split at h
    · cases rw
      exact ⟨rfl, h β H σ rfl (Ext.refl _ _ _) hr hs⟩
    · exact h.elim
  | n :: ns, hw => fun β H σ s st ws us Q hr hs rw h => by
    simp only [NT.withins, Bool.and_eq_true] at hw
    simp only [NT.ms, mGCons] at h
    simp only [NT.gs]
    split at h
    · cases rw with
      | cons r1 r2 =>
        refine ⟨_, _, rfl, NT.ok n hw.1 β H σ s st _ _ _ hr hs r1 ?_⟩
        split at h
        · rename_i s1 st1 e
          rw [e]
          exact fun β1 H1 σ1 w1 e1 hr1 hs1 => NT.oks ns hw.2 β1 H1 σ1 s1 st1 _ _ Q hr1 hs1 (r2.ext e1) (by
            have h' := PoW.ext e1 h
            revert h'
            unfold PoW
            split
            · exact fun h' β2 H2 σ2 w2 e2 hr2 hs2 => h' β2 H2 σ2 (w2.trans w1) e2 hr2 hs2
            · exact fun z => z)
        · exact h.elim
    · exact h.elim
end
/-- the target is read as n -/
structure JN (X : Cx) (tg : Expr) (n : NT) : Prop where
  pg : PG X tg (NT.g X.K n)
structure JNs (X : Cx) (tgs : List Expr) (ns : List NT) : Prop where
  pg : PGs X tgs (NT.gs X.K ns)
  len : tgs.length = ns.length
theorem jn_nm {X : Cx} {pos : Pos} (i : Nat) {x : Str} (hN : X.N.Nodup) (hi : X.N[i]? = some x := by rfl) (hx : Loc X.env.scope x := by first | exact .inl rfl | exact .inr rfl) (hf : X.fn x = true ∨ X.env.scope.names.lookup x = some .local := by first | exact .inl rfl | exact .inr rfl) : JN X (.Name x pos) (.nm i) := ⟨pg_name hN hi hx hf⟩
theorem jns_nil {X : Cx} : JNs X [] [] := ⟨pgs_nil, rfl⟩
theorem jns_cons {X : Cx} {t : Expr} {ts : List Expr} {n : NT} {ns : List NT} (h1 : JN X t n) (h2 : JNs X ts ns) (hs : (assignEach (t :: ts) X.env).map (·.2) = assign t X.env :: (assignEach ts X.env).map (·.2) := by rfl) : JNs X (t :: ts) (n :: ns) := ⟨pgs_cons h1.pg h2.pg hs, by rw [List.length_cons, List.length_cons, h2.len]⟩
theorem jn_tp {X : Cx} {ts : List Expr} {ns : List NT} {k : Nat} {pos : Pos} (hc : X.calm = true) (h : JNs X ts ns) (hn : (assignEach ts X.env).length = ns.length := by rfl) (hst : (assignEach ts X.env).findIdx? (·.1) = none := by rfl) : JN X (.Tuple ts k pos) (.tp ns) := ⟨pg_tup hc h.pg hn hst⟩

/-! ### list comprehensions -/
def mLcLoop (src : Src) (g : MG) (t : MT) (e : ME) (s : Slo) : Nat → Nat → List W → Sto → Out (List W)
  | 0, _, acc, st => if src.fine st = true then .ok acc st else .stuck
  | k + 1, i, acc, st => if src.fine st = true then match src.at i st with
      | some w => match g w s st with
        | some (s2, st1) => match t s2 st1 with
          | .ok true st2 => match e s2 st2 with
            | .ok y st3 => if acc.length < sizeLine then mLcLoop src g t e s k (i + 1) (acc ++ [y]) st3 else .stuck
            | _ => .stuck
          | .ok false st2 => mLcLoop src g t e s k (i + 1) acc st2
          | _ => .stuck
        | none => .stuck
      | none => .stuck
    else .stuck
@[simp] def mLc (it : MI) (n : NT) (t : MT) (e : ME) (vs : List Nat) : ME := fun s st => (it s st).bind fun src st1 => (mLcLoop src (NT.m n) t e (wipeW s vs) src.len 0 [] st1).bind fun ws st2 => .ok (.lst ws) st2
/-- the same, the list an object of the store -/
@[simp] def mLcS (it : MI) (n : NT) (t : MT) (e : ME) (vs : List Nat) : ME := fun s st => (it s st).bind fun src st1 => (mLcLoop src (NT.m n) t e (wipeW s vs) src.len 0 [] st1).bind fun ws st2 => .ok (.ref st2.length) (st2 ++ [.lst ws])
@[simp] def mYes : MT := fun _ st => .ok true st
structure JTs (X : Cx) (Cl : Nat → Addr) (E : XK) (cs : List Expr) (m : MT) : Prop where
  ex : PTs X cs (tMT X.K Cl E m)
section
variable {X : Cx} {Cl : Nat → Addr} {E : XK}
theorem jts_nil : JTs X Cl E [] mYes := ⟨⟨fun pins s σ H Q I ⟨β, sl, st, hr, hs, hp⟩ => pts_nil.run pins s σ H Q I (PoG.val hp hr rfl)⟩⟩
theorem jts_one {c : Expr} {m : MT} (h : JT X Cl E c m) : JTs X Cl E [c] m := ⟨pts_one h.pt⟩
theorem SR.wipe {K : PySem.W.Frag} {β : Bt} {H : Hp} {s : Slo} {σ : L2.St} (h : SR K β H s σ) : ∀ vs : List Nat, SR K β H (wipeW s vs) (L2.wipe σ vs)
  | [] => h
  | v :: vs => by
    have ih := SR.wipe h vs
    refine ⟨by show ((wipeW s vs).set v none).length = ((L2.wipe σ vs).set v none).length; rw [List.length_set, List.length_set, ih.1], fun i w hi => ?_⟩
    have hi : ((wipeW s vs).set v none)[i]? = some (some w) := hi
    show ∃ x, ((L2.wipe σ vs).set v none)[i]? = some (some x) ∧ RV K β H w x
    by_cases e : v = i
    · subst e
      by_cases hl : v < (wipeW s vs).length
      · rw [List.getElem?_set_self hl] at hi; cases hi
      · rw [List.getElem?_eq_none (by rw [List.length_set]; omega)] at hi; cases hi
    · rw [List.getElem?_set_ne e] at hi ⊢
      exact ih.2 i w hi
theorem PoW.E0 {K : PySem.W.Frag} {α ω : Type} {R : Bt → Hp → α → ω → Prop} {β : Bt} {H : Hp} {Q : ω → Hp → Prop} {o : Out α} (h : PoG K Cl R E β H Q o) (hx : ∀ c fs st, o ≠ .exc c fs st) : PoG K Cl R E0 β H Q o := by
  cases o with
  | ok a st => exact h
  | exc c fs st => exact absurd rfl (hx c fs st)
  | stuck => exact h
theorem se_lcG {K : PySem.W.Frag} {wi : TI} {mi : MI} {n : NT} {mt : MT} {me : ME} {vs : List Nat} (kk : List W → Sto → Out W) (hw : NT.within vs n = true) (hi : ∀ β H σ s st R, HR K Cl β H st → SR K β H s σ → PoI K Cl E β H R (mi s st) → wi σ H R)
    (hk : ∀ (β1 : Bt) (H1 : Hp) (st1 : Sto) (β' : Bt) (H' : Hp) (D : Addr) (acs : List V) (ws : List W) (st' : Sto) (Q : VK), HR K Cl β1 H1 st1 → Ext K β1 H1 β' H' → HR K Cl β' H' st' → D ∈ β'.pr → H' D = some (.lst acs) → RVs K β' H' ws acs → H1 D = none → PoG K Cl (RV K) E β1 H1 Q (kk ws st') → Q (.ref D) H') :
    SE K Cl E (tLc wi (NT.g K n) (tMT K Cl E0 mt) (tM K Cl E0 me) vs) (fun s st => (mi s st).bind fun src st1 => (mLcLoop src (NT.m n) mt me (wipeW s vs) src.len 0 [] st1).bind kk) := fun β H σ s st Q hr hs h => by
  refine hi β H σ s st _ hr hs ?_
  simp only at h
  cases ei : mi s st with
  | stuck => rw [ei] at h; exact h
  | exc c fs st1 => rw [ei] at h; exact h
  | ok src st1 =>
    rw [ei] at h
    intro β1 H1 J e1 hr1 w D hD
    obtain ⟨G, Y, wk, hG, hY⟩ := w.ex
    have eg : Ext K β1 H1 (β1.guard D) (upd H1 D (.lst [])) := Ext.guard hD
    have hrg : HR K Cl (β1.guard D) (upd H1 D (.lst [])) st1 := hr1.guard hD
    have hws : SR K β1 H1 (wipeW s vs) (wipe σ vs) := (hs.ext e1).wipe vs
    have h1 : PoG K Cl (RV K) E β1 H1 Q ((mLcLoop src (NT.m n) mt me (wipeW s vs) src.len 0 [] st1).bind kk) := PoG.ext e1 h
    have fine : ∀ k i acc st, (∃ ws st2, mLcLoop src (NT.m n) mt me (wipeW s vs) k i acc st = .ok ws st2) → src.fine st = true := fun k i acc st hh => by
      obtain ⟨ws, st2, hh⟩ := hh
      cases k with
      | zero => unfold mLcLoop at hh; split at hh; assumption; cases hh
      | succ k => unfold mLcLoop at hh; split at hh; assumption; cases hh
    -- the loop comes to an end
    have noexc : ∀ k i acc st c fs st2, mLcLoop src (NT.m n) mt me (wipeW s vs) k i acc st ≠ .exc c fs st2 := fun k => by
      induction k with
      | zero => intro i acc st c fs st2 z; unfold mLcLoop at z; split at z <;> cases z
      | succ k ih =>
        intro i acc st c fs st2 z
        unfold mLcLoop at z
        split at z
        · split at z
          · split at z
            · split at z
              · split at z
                · split at z
                  · exact ih _ _ _ _ _ _ z
                  · cases z
                · cases z
              · exact ih _ _ _ _ _ _ z
              · cases z
            · cases z
          · cases z
        · cases z
    obtain ⟨rs, stE, he⟩ : ∃ rs stE, mLcLoop src (NT.m n) mt me (wipeW s vs) src.len 0 [] st1 = .ok rs stE := by
      cases eo : mLcLoop src (NT.m n) mt me (wipeW s vs) src.len 0 [] st1 with
      | ok a b => exact ⟨a, b, rfl⟩
      | exc c fs st2 => exact absurd eo (noexc _ _ _ _ _ _ _)
      | stuck => rw [eo] at h1; exact h1.elim
    rw [he] at h1
    have hQ : PoG K Cl (RV K) E β1 H1 Q (kk rs stE) := h1
    refine lc_it wk (fun i H' => ∃ β' acc as st', Ext K β1 H1 β' H' ∧ HR K Cl β' H' st' ∧ D ∈ β'.pr ∧ H' D = some (.lst as) ∧ RVs K β' H' acc as ∧ src.fine st' = true ∧ mLcLoop src (NT.m n) mt me (wipeW s vs) (src.len - i) i acc st' = .ok rs stE)
      ⟨β1.guard D, [], [], st1, eg, hrg, List.mem_cons_self, upd_same, .nil, fine _ _ _ _ ⟨_, _, he⟩, by rw [Nat.sub_zero]; exact he⟩ (fun i H' hi ⟨β', acc, as, st', e', hr', hp', hd', ra, hf, h'⟩ => hG β' H' st' e' hr' hf) (fun i x H' H2 hi ⟨β', acc, as, st', e', hr', hp', hd', ra, hf, h'⟩ y => ?_) (fun H' ⟨β', acc, as, st', e', hr', hp', hd', ra, hf, h'⟩ => ?_)
    · obtain ⟨k, hk⟩ : ∃ k, src.len - i = k + 1 := ⟨src.len - i - 1, by omega⟩
      have hk' : src.len - (i + 1) = k := by omega
      rw [hk] at h'
      unfold mLcLoop at h'
      rw [if_pos hf] at h'
      split at h'
      · rename_i w ew
        obtain ⟨e2, hr2, rw2⟩ := hY i H' x H2 β' st' w e' hr' ew y
        refine NT.ok n hw β' H2 (wipe σ vs) (wipeW s vs) st' w x _ hr2 (hws.ext (e'.trans e2)) rw2 ?_
        split at h'
        · rename_i s3 st3 eg'
          rw [eg']
          intro β3 H3 σ3 w3 e3 hr3 hs3
          refine ⟨by rw [w3]; exact wipe_idem, β3, s3, st3, hr3, hs3, ?_⟩
          have keepD : ∀ {β4 : Bt} {H4 : Hp}, Ext K β' H' β4 H4 → D ∈ β4.pr ∧ H4 D = some (.lst as) := fun e4 => e4.prot D hp' _ hd'
          split at h'
          · rename_i st4 et
            rw [et]
            intro β4 H4 b e4 hr4 eb
            subst eb
            rw [if_pos rfl]
            have hs4 := hs3.ext e4
            refine ⟨β4, s3, st4, hr4, hs4, ?_⟩
            split at h'
            · rename_i yv st5 ee
              rw [ee]
              intro β5 H5 yV e5 hr5 ry
              split at h'
              · rename_i hz
                have e25 := (e2.trans e3).trans (e4.trans e5)
                obtain ⟨hp5, hd5⟩ := keepD e25
                have ra5 := ra.ext e25
                refine ⟨as, hd5, by rw [← ra.length]; exact hz, ?_⟩
                have kp : Keep K β5 H5 (upd H5 D (.lst (as ++ [yV]))) := Keep.gset hd5 hp5
                exact ⟨β5, acc ++ [yv], as ++ [yV], st5, Ext.gset hd5 hp5 β1 H1 (e'.trans e25) hD, hr5.gset hd5 hp5, hp5, upd_same, (ra5.append (.cons ry .nil)).keep kp, fine _ _ _ _ ⟨_, _, h'⟩, by rw [hk']; exact h'⟩
              · cases h'
            · cases h'
          · rename_i st4 et
            rw [et]
            intro β4 H4 b e4 hr4 eb
            subst eb
            rw [if_neg Bool.false_ne_true]
            have e24 := (e2.trans e3).trans e4
            obtain ⟨hp4, hd4⟩ := keepD e24
            exact ⟨β4, acc, as, st4, e'.trans e24, hr4, hp4, hd4, ra.ext e24, fine _ _ _ _ ⟨_, _, h'⟩, by rw [hk']; exact h'⟩
          · cases h'
        · cases h'
      · cases h'
    · rw [Nat.sub_self] at h'
      unfold mLcLoop at h'
      rw [if_pos hf] at h'
      cases h'
      exact hk β1 H1 st1 β' H' D _ _ _ Q hr1 e' hr' hp' hd' ra hD hQ
where
  wipe_idem {σ : L2.St} {vs : List Nat} : wipe (wipe σ vs) vs = wipe σ vs := by
    apply List.ext_getElem?
    intro j
    rw [wipe_at, wipe_at, wipe_length]
    by_cases hm : j ∈ vs ∧ j < σ.length
    · rw [if_pos hm, if_pos hm]
    · rw [if_neg hm, if_neg hm]
theorem se_lc {K : PySem.W.Frag} {wi : TI} {mi : MI} {n : NT} {mt : MT} {me : ME} {vs : List Nat} (hw : NT.within vs n = true) (hi : ∀ β H σ s st R, HR K Cl β H st → SR K β H s σ → PoI K Cl E β H R (mi s st) → wi σ H R) :
    SE K Cl E (tLc wi (NT.g K n) (tMT K Cl E0 mt) (tM K Cl E0 me) vs) (mLc mi n mt me vs) :=
  se_lcG _ hw hi fun β1 H1 st1 β' H' D acs ws st' Q hr1 e' hr' hp' hd' ra hD h => by
    have hsub : ∀ q, q ∈ β'.pr.filter (fun q => decide (q ≠ D)) → q ∈ β'.pr := fun q hq => (List.mem_filter.mp hq).1
    refine h ⟨β'.l, β'.pr.filter fun q => decide (q ≠ D)⟩ H' _ (Ext.drop e' (fun q hq => (hr1.prot q hq).1) hD) (hr'.drop rfl hsub) (.lst hd' ⟨(hr'.prot D hp').2, fun z => ?_⟩ (RVs.drop' (β := β') (β' := ⟨β'.l, β'.pr.filter fun q => decide (q ≠ D)⟩) rfl hsub ra))
    exact absurd rfl (of_decide_eq_true (List.mem_filter.mp z).2)
theorem live_app {l : List (Option Addr)} {x : Option Addr} {i : Nat} {o : Option Addr} (h : l[i]? = some o) : (l ++ [x])[i]? = some o := by
  rw [List.getElem?_append_left (List.getElem?_eq_some_iff.mp h).1]; exact h
theorem app_at {l : List (Option Addr)} {x y : Option Addr} {i : Nat} (h : (l ++ [x])[i]? = some y) : l[i]? = some y ∨ (i = l.length ∧ x = y) := by
  rcases Nat.lt_trichotomy i l.length with c | c | c
  · rw [List.getElem?_append_left c] at h; exact .inl h
  · subst c
    rw [List.getElem?_append_right (Nat.le_refl _)] at h
    simp at h
    exact .inr ⟨rfl, h⟩
  · rw [List.getElem?_eq_none (by simp; omega)] at h; cases h
mutual
/-- a value's relation where the store's table has grown by an address that nobody holds as a list -/
theorem RV.adopt {K : PySem.W.Frag} {β : Bt} {H : Hp} {D : Addr} {pr : List Addr} (hp : ∀ q, q ∈ pr → q ∈ β.pr) (hD : D ∈ β.pr) : ∀ {w : W} {v : V}, RV K β H w v → RV K ⟨β.l ++ [some D], pr⟩ H w v
  | _, _, .non => .non
  | _, _, .bl b => .bl b
  | _, _, .int i => .int i
  | _, _, .str x => .str x
  | _, _, .tup h r => .tup h (RVs.adopt hp hD r)
  | _, _, .lst h n r => .lst h ⟨fun i z => by
      rcases app_at z with z | ⟨_, z⟩
      · exact n.1 i z
      · cases z; exact n.2 hD, fun z => n.2 (hp _ z)⟩ (RVs.adopt hp hD r)
  | _, _, .xst h r => .xst h (RVs.adopt hp hD r)
  | _, _, .ref h => .ref (live_app h)
  | _, _, .dead h => .dead (live_app h)
theorem RVs.adopt {K : PySem.W.Frag} {β : Bt} {H : Hp} {D : Addr} {pr : List Addr} (hp : ∀ q, q ∈ pr → q ∈ β.pr) (hD : D ∈ β.pr) : ∀ {ws : List W} {vs : List V}, RVs K β H ws vs → RVs K ⟨β.l ++ [some D], pr⟩ H ws vs
  | _, _, .nil => .nil
  | _, _, .cons h r => .cons (RV.adopt hp hD h) (RVs.adopt hp hD r)
end
theorem RF.adopt {K : PySem.W.Frag} {β : Bt} {H : Hp} {D : Addr} {pr : List Addr} {κ : Type} (hp : ∀ q, q ∈ pr → q ∈ β.pr) (hD : D ∈ β.pr) : ∀ {ws : List (κ × W)} {vs : List (κ × V)}, RF K β H ws vs → RF K ⟨β.l ++ [some D], pr⟩ H ws vs
  | _, _, .nil => .nil
  | _, _, .cons h r => .cons (RV.adopt hp hD h) (RF.adopt hp hD r)
theorem ro_adopt {K : PySem.W.Frag} {Cl : Nat → Addr} {β : Bt} {H : Hp} {D : Addr} {pr : List Addr} (hp : ∀ q, q ∈ pr → q ∈ β.pr) (hD : D ∈ β.pr) {a : Addr} {o : Ob} (h : RO K Cl β H a o) : RO K Cl (Bt.mk (β.l ++ [some D]) pr) H a o := by
  cases o with
  | lst xs => obtain ⟨vs, h1, h2⟩ := h; exact ⟨vs, h1, h2.adopt hp hD⟩
  | dK kvs => obtain ⟨vs, h1, h2⟩ := h; exact ⟨vs, h1, h2.adopt hp hD⟩
  | dT kvs => obtain ⟨vs, h1, h2⟩ := h; exact ⟨vs, h1, h2.adopt hp hD⟩
  | ins c fs => obtain ⟨d, vs, h1, h2⟩ := h; exact ⟨d, vs, h1, h2.adopt hp hD⟩
  | dead => exact h
theorem se_lcS {K : PySem.W.Frag} {wi : TI} {mi : MI} {n : NT} {mt : MT} {me : ME} {vs : List Nat} (hw : NT.within vs n = true) (hi : ∀ β H σ s st R, HR K Cl β H st → SR K β H s σ → PoI K Cl E β H R (mi s st) → wi σ H R) :
    SE K Cl E (tLc wi (NT.g K n) (tMT K Cl E0 mt) (tM K Cl E0 me) vs) (mLcS mi n mt me vs) :=
  se_lcG _ hw hi fun β1 H1 st1 β' H' D acs ws st' Q hr1 e' hr' hp' hd' ra hD h => by
    have hsub : ∀ q, q ∈ β'.pr.filter (fun q => decide (q ≠ D)) → q ∈ β'.pr := fun q hq => (List.mem_filter.mp hq).1
    have nD : ∀ i : Nat, β'.l[i]? ≠ some (some D) := (hr'.prot D hp').2
    have ed := Ext.drop e' (fun q hq => (hr1.prot q hq).1) hD
    have ra' := ra.adopt hsub hp'
    refine h ⟨β'.l ++ [some D], β'.pr.filter fun q => decide (q ≠ D)⟩ H' _ ⟨ed.tup, fun q us hq n => ⟨(ed.lst q us hq n).1, fun i z => ?_, (ed.lst q us hq n).2.2⟩, ed.frz, fun i o hi => (ed.live i o hi).imp live_app live_app, ed.prot⟩ ⟨?_, ?_, ?_, ?_, ?_⟩ (.ref ?_)
    · rcases app_at z with z | ⟨_, z⟩
      · exact (ed.lst q us hq n).2.1 i z
      · cases z; rw [hD] at hq; cases hq
    · rw [List.length_append, List.length_append, hr'.len] <;> rfl
    · intro i j a hi hj
      rcases app_at hi with hi | ⟨hi, ei⟩
      · rcases app_at hj with hj | ⟨hj, ej⟩
        · exact hr'.inj i j a hi hj
        · cases ej; exact absurd hi (nD i)
      · rcases app_at hj with hj | ⟨hj, ej⟩
        · cases ei; exact absurd hj (nD j)
        · rw [hi, hj]
    · intro i a ob hi0 ho
      rcases app_at hi0 with hi | ⟨hi, ei⟩
      · have hl : i < st'.length := by rw [← hr'.len]; exact (List.getElem?_eq_some_iff.mp hi).1
        rw [List.getElem?_append_left hl] at ho
        exact ro_adopt hsub hp' (hr'.ob i a ob hi ho)
      · cases ei
        rw [hi, hr'.len, List.getElem?_append_right (Nat.le_refl _), Nat.sub_self] at ho
        cases ho
        exact ⟨acs, hd', ra'⟩
    · intro i hi
      rcases app_at hi with hi | ⟨_, ei⟩
      · have hl : i < st'.length := by rw [← hr'.len]; exact (List.getElem?_eq_some_iff.mp hi).1
        rw [List.getElem?_append_left hl]
        exact hr'.dead i hi
      · cases ei
    · intro q hq
      have hq2 := List.mem_filter.mp hq
      refine ⟨(hr'.prot q hq2.1).1, fun i z => ?_⟩
      rcases app_at z with z | ⟨_, z⟩
      · exact (hr'.prot q hq2.1).2 i z
      · cases z; exact absurd rfl (of_decide_eq_true hq2.2)
    · show (β'.l ++ [some D])[st'.length]? = some (some D)
      rw [← hr'.len]; simp
theorem je_lc {elt tg iter : Expr} {ifs : List Expr} {scope : Scope} {own : List (Str × Nat)} {pos : Pos} {mi : MI} {n : NT} {mt : MT} {me : ME} (hc : X.calm = true) (hN : X.N.Nodup) (hi : JI X Cl E tg iter mi) (ok : BlkOk X.N X.env.scope scope own)
    (hg : ∀ (s : Shared) (H : Hp) (C : Addr) (cl : List (Str × Addr)) (fp : List Addr), JN (X.blk s H scope (compEnvC scope cl C X.env) fp) tg n) (ht : ∀ (s : Shared) (H : Hp) (C : Addr) (cl : List (Str × Addr)) (fp : List Addr), JTs (X.blk s H scope (compEnvC scope cl C X.env) fp) Cl E0 ifs mt)
    (he : ∀ (s : Shared) (H : Hp) (C : Addr) (cl : List (Str × Addr)) (fp : List Addr), JE (X.blk s H scope (compEnvC scope cl C X.env) fp) Cl E0 elt me) (hw : NT.within (own.map (·.2)) n = true := by rfl) (hs : ∀ x, foldedSetIterable iter X.env x = pure x := by intro _; rfl) :
    JE X Cl E (.ListComp elt [⟨tg, iter, ifs, 0⟩] scope pos) (mLc mi n mt me (own.map (·.2))) := by
  obtain ⟨_, p1, q1⟩ := hi.ex
  exact ⟨_, pe_lc hc hN p1 ok (fun s H C cl fp => (hg s H C cl fp).pg) (fun s H C cl fp => (ht s H C cl fp).ex) (fun s H C cl fp => (he s H C cl fp).pe) hs, se_lc hw q1⟩
/-- name = [..] -/
theorem js_setLc (i : Nat) {y : Str} {py : Pos} {elt tg iter : Expr} {ifs : List Expr} {scope : Scope} {own : List (Str × Nat)} {pos spos : Pos} {mi : MI} {n : NT} {mt : MT} {me : ME} (hc : X.calm = true) (hN : X.N.Nodup)
    (hsw : swapsWith (.ListComp elt [⟨tg, iter, ifs, 0⟩] scope pos) (some (.Name y py)) spos.line X.env = pure true) (hi : JI X Cl E tg iter mi) (ok : BlkOk X.N X.env.scope scope own)
    (hg : ∀ (s : Shared) (H : Hp) (C : Addr) (cl : List (Str × Addr)) (fp : List Addr), JN (X.blk s H scope (compEnvC scope cl C X.env) fp) tg n) (ht : ∀ (s : Shared) (H : Hp) (C : Addr) (cl : List (Str × Addr)) (fp : List Addr), JTs (X.blk s H scope (compEnvC scope cl C X.env) fp) Cl E0 ifs mt)
    (he : ∀ (s : Shared) (H : Hp) (C : Addr) (cl : List (Str × Addr)) (fp : List Addr), JE (X.blk s H scope (compEnvC scope cl C X.env) fp) Cl E0 elt me) (hy : X.N[i]? = some y := by rfl) (hyl : X.env.scope.names.lookup y = some .local := by rfl) (hw : NT.within (own.map (·.2)) n = true := by rfl) (hs : ∀ x, foldedSetIterable iter X.env x = pure x := by intro _; rfl) :
    JS X Cl E (.Assign [.Name y py] (.ListComp elt [⟨tg, iter, ifs, 0⟩] scope pos) spos) (mAsg (mLc mi n mt me (own.map (·.2))) (mGN i)) := by
  obtain ⟨_, p1, q1⟩ := hi.ex
  refine ⟨_, ps_setLc hc hN hy hyl hsw p1 ok (fun s H C cl fp => (hg s H C cl fp).pg) (fun s H C cl fp => (ht s H C cl fp).ex) (fun s H C cl fp => (he s H C cl fp).pe) hs, fun β H σ s st D hr hs h => se_lc hw q1 β H σ s st _ hr hs (h.run fun x st1 β1 H1 v _ e1 hr1 rx h1 => PoS.val h1 hr1 ((hs.ext e1).set rx))⟩
theorem je_lcS {elt tg iter : Expr} {ifs : List Expr} {scope : Scope} {own : List (Str × Nat)} {pos : Pos} {mi : MI} {n : NT} {mt : MT} {me : ME} (hc : X.calm = true) (hN : X.N.Nodup) (hi : JI X Cl E tg iter mi) (ok : BlkOk X.N X.env.scope scope own)
    (hg : ∀ (s : Shared) (H : Hp) (C : Addr) (cl : List (Str × Addr)) (fp : List Addr), JN (X.blk s H scope (compEnvC scope cl C X.env) fp) tg n) (ht : ∀ (s : Shared) (H : Hp) (C : Addr) (cl : List (Str × Addr)) (fp : List Addr), JTs (X.blk s H scope (compEnvC scope cl C X.env) fp) Cl E0 ifs mt)
    (he : ∀ (s : Shared) (H : Hp) (C : Addr) (cl : List (Str × Addr)) (fp : List Addr), JE (X.blk s H scope (compEnvC scope cl C X.env) fp) Cl E0 elt me) (hw : NT.within (own.map (·.2)) n = true := by rfl) (hs : ∀ x, foldedSetIterable iter X.env x = pure x := by intro _; rfl) :
    JE X Cl E (.ListComp elt [⟨tg, iter, ifs, 0⟩] scope pos) (mLcS mi n mt me (own.map (·.2))) := by
  obtain ⟨_, p1, q1⟩ := hi.ex
  exact ⟨_, pe_lc hc hN p1 ok (fun s H C cl fp => (hg s H C cl fp).pg) (fun s H C cl fp => (ht s H C cl fp).ex) (fun s H C cl fp => (he s H C cl fp).pe) hs, se_lcS hw q1⟩
theorem js_setLcS (i : Nat) {y : Str} {py : Pos} {elt tg iter : Expr} {ifs : List Expr} {scope : Scope} {own : List (Str × Nat)} {pos spos : Pos} {mi : MI} {n : NT} {mt : MT} {me : ME} (hc : X.calm = true) (hN : X.N.Nodup)
    (hsw : swapsWith (.ListComp elt [⟨tg, iter, ifs, 0⟩] scope pos) (some (.Name y py)) spos.line X.env = pure true) (hi : JI X Cl E tg iter mi) (ok : BlkOk X.N X.env.scope scope own)
    (hg : ∀ (s : Shared) (H : Hp) (C : Addr) (cl : List (Str × Addr)) (fp : List Addr), JN (X.blk s H scope (compEnvC scope cl C X.env) fp) tg n) (ht : ∀ (s : Shared) (H : Hp) (C : Addr) (cl : List (Str × Addr)) (fp : List Addr), JTs (X.blk s H scope (compEnvC scope cl C X.env) fp) Cl E0 ifs mt)
    (he : ∀ (s : Shared) (H : Hp) (C : Addr) (cl : List (Str × Addr)) (fp : List Addr), JE (X.blk s H scope (compEnvC scope cl C X.env) fp) Cl E0 elt me) (hy : X.N[i]? = some y := by rfl) (hyl : X.env.scope.names.lookup y = some .local := by rfl) (hw : NT.within (own.map (·.2)) n = true := by rfl) (hs : ∀ x, foldedSetIterable iter X.env x = pure x := by intro _; rfl) :
    JS X Cl E (.Assign [.Name y py] (.ListComp elt [⟨tg, iter, ifs, 0⟩] scope pos) spos) (mAsg (mLcS mi n mt me (own.map (·.2))) (mGN i)) := by
  obtain ⟨_, p1, q1⟩ := hi.ex
  refine ⟨_, ps_setLc hc hN hy hyl hsw p1 ok (fun s H C cl fp => (hg s H C cl fp).pg) (fun s H C cl fp => (ht s H C cl fp).ex) (fun s H C cl fp => (he s H C cl fp).pe) hs, fun β H σ s st D hr hs h => se_lcS hw q1 β H σ s st _ hr hs (h.run fun x st1 β1 H1 v _ e1 hr1 rx h1 => PoS.val h1 hr1 ((hs.ext e1).set rx))⟩
end

/-! ### defs -/
/-- a def's body run with its arguments; nothing is raised -/
@[simp] def mDef (n k : Nat) (body : MS) : MF := fun ws st => if ws.length = n then match body (ws.map some ++ List.replicate k none) st with
    | .rt w st1 => .ok w st1
    | .nx _ st1 => .ok .non st1
    | _ => .stuck
  else .stuck
/-- .. that may raise -/
@[simp] def mDefX (n k : Nat) (body : MS) : MF := fun ws st => if ws.length = n then match body (ws.map some ++ List.replicate k none) st with
    | .rt w st1 => .ok w st1
    | .nx _ st1 => .ok .non st1
    | .exc c fs st1 => .exc c fs st1
    | _ => .stuck
  else .stuck
def NoX (m : MF) : Prop := ∀ ws st c fs st', m ws st ≠ .exc c fs st'
theorem nox_def {n k : Nat} {body : MS} : NoX (mDef n k body) := fun ws st c fs st' z => by
  unfold mDef at z
  split at z
  · split at z <;> cases z
  · cases z
/-- the promise that a def does what its mirror does -/
def spM (K : PySem.W.Frag) (Cl : Nat → Addr) (n : Nat) (m : MF) : Sp := fun vs H Q E => vs.length = n ∧ ∃ β ws st, HR K Cl β H st ∧ RVs K β H ws vs ∧ Po K Cl E β H Q (m ws st)
section
variable {P : Program} {w : World} {K : PySem.W.Frag} {Cl : Nat → Addr} {mg : Str → Option Value} {base : Heap}
theorem sr_start {β : Bt} {H : Hp} {ws : List W} {vs : List V} {N : List Str} {k : Nat} (r : RVs K β H ws vs) (hk : N.length - vs.length = k) : SR K β H (ws.map some ++ List.replicate k none) (L2.start N vs) := by
  unfold L2.start
  rw [hk]
  refine ⟨by simp [r.length], fun i u hi => ?_⟩
  by_cases hl : i < ws.length
  · rw [List.getElem?_append_left (by simpa using hl), List.getElem?_map] at hi
    cases e : ws[i]? with
    | none => rw [e] at hi; cases hi
    | some x =>
      rw [e] at hi
      cases hi
      obtain ⟨v, hv, rv⟩ := r.get e
      exact ⟨v, by rw [List.getElem?_append_left (by rw [List.length_map, ← r.length]; exact hl), List.getElem?_map, hv] <;> rfl, rv⟩
  · rw [List.getElem?_append_right (by simpa using hl)] at hi
    by_cases h2 : i - (ws.map some).length < k
    · rw [List.getElem?_replicate_of_lt h2] at hi; cases hi
    · rw [List.getElem?_eq_none (by simpa using h2)] at hi; cases hi
theorem fn_ok {x qual : Str} {st : Stmt} {f : Addr} {fd : FuncData} {N ps : List Str} {k n j : Nat} {body : MS} (F : Fun K x qual st f fd) (S : FnScope N ps (defScope st)) (hn : ps.length = n) (hj : N.length - n = j)
    (hb : ∀ (cdv : Value) (A : Around) (outer : List Env) (s : Shared) (H : Hp) (E : XK), Room k (A.deeper (envOfC qual (defScope st) s.heap.objs.size f cdv)) → JSs (cxOf CX0 P w K mg base N qual (defScope st) f cdv A outer s H E).nox Cl E0 (defBody st) body) :
    FnOk P w K mg base CX0 (k + 1) f fd ps (spM K Cl n (mDef n j body)) := by
  refine F.ok S (fun vs H Q E h => h.1.trans hn.symm) (fun cdv A outer s H vs Q E hr h => ?_)
  obtain ⟨hl, β, ws, sto, hR, rv, po⟩ := h
  obtain ⟨t, p, q⟩ := (hb cdv A outer s H E hr).ex
  refine ⟨t, p, q β H _ (ws.map some ++ List.replicate j none) sto _ hR (sr_start rv (by rw [hl]; exact hj)) ?_⟩
  unfold mDef at po
  rw [if_pos (rv.length.trans hl)] at po
  split at po
  · rename_i w1 st1 e
    rw [e]
    exact po
  · rename_i s1 st1 e
    rw [e]
    exact fun β' H' σ' e' hr' hs' => po β' H' .non e' hr' .non
  · exact po.elim
theorem fn_okX {x qual : Str} {st : Stmt} {f : Addr} {fd : FuncData} {N ps : List Str} {k n j : Nat} {body : MS} (F : Fun K x qual st f fd) (S : FnScope N ps (defScope st)) (hn : ps.length = n) (hj : N.length - n = j)
    (hb : ∀ (cdv : Value) (A : Around) (outer : List Env) (s : Shared) (H : Hp) (E : XK), Room k (A.deeper (envOfC qual (defScope st) s.heap.objs.size f cdv)) → JSs (cxOf (L2.CX P w) P w K mg base N qual (defScope st) f cdv A outer s H E) Cl E (defBody st) body) :
    FnOk P w K mg base (L2.CX P w) (k + 1) f fd ps (spM K Cl n (mDefX n j body)) := by
  refine F.okX S (fun vs H Q E h => h.1.trans hn.symm) (fun cdv A outer s H vs Q E hr h => ?_)
  obtain ⟨hl, β, ws, sto, hR, rv, po⟩ := h
  obtain ⟨t, p, q⟩ := (hb cdv A outer s H E hr).ex
  refine ⟨t, p, q β H _ (ws.map some ++ List.replicate j none) sto _ hR (sr_start rv (by rw [hl]; exact hj)) ?_⟩
  unfold mDefX at po
  rw [if_pos (rv.length.trans hl)] at po
  split at po
  · rename_i w1 st1 e
    rw [e]
    exact po
  · rename_i s1 st1 e
    rw [e]
    exact fun β' H' σ' e' hr' hs' => po β' H' .non e' hr' .non
  · rename_i c fs st1 e
    rw [e]
    exact po
  · exact po.elim
end

/-! ### calls -/
@[simp] def mCall (n : Nat) (m : MF) (a : MA) : ME := fun s st => (a s st).bind fun ws st1 => if ws.length = n then m ws st1 else .stuck
@[simp] def mMeth (c : Nat) (nm : Str) (n : Nat) (m : MF) (o : ME) (a : MA) : ME := fun s st => (o s st).bind fun x st1 => match x with
  | .ref i => match st1[i]? with
    | some (.ins d fs) => if d = c ∧ fs.lookup nm = none then (a s st1).bind fun ws st2 => if ws.length + 1 = n then m (x :: ws) st2 else .stuck else .stuck
    | _ => .stuck
  | _ => .stuck
@[simp] def mMake (c n : Nat) (m : MF) (a : MA) : ME := fun s st => (a s st).bind fun ws st1 => if ws.length + 1 = n then (m (.ref st1.length :: ws) (st1 ++ [.ins c []])).bind fun r st2 => match r with
    | .non => match st2[st1.length]? with
      | some (.ins _ _) => .ok (.ref st1.length) st2
      | _ => .stuck
    | _ => .stuck
  else .stuck
section
variable {X : Cx} {Cl : Nat → Addr} {E E1 : XK} {pos p apos : Pos} {ma mo : ME} {mr : MA} {e o : Expr} {es : List Expr} {k n f : Nat} {CX : CXT} {fd : FuncData} {ps : List Str} {m : MF} {x : Str}
/-- what a callee may raise reaches what is wished of exceptions here -/
structure Let (X : Cx) (CX : CXT) (E : XK) (m : MF) (E1 : XK) : Prop where
  ps : Passes CX X E1
  po : ∀ {Cl : Nat → Addr} {β : Bt} {H : Hp} {Q : VK} {ws : List W} {st : Sto}, Po X.K Cl E β H Q (m ws st) → Po X.K Cl E1 β H Q (m ws st)
theorem let0 (h : NoX m) : Let X CX0 E m E0 := ⟨pass0, fun {Cl β H Q ws st} hp => PoW.E0 hp (h ws st)⟩
theorem letX (h : Passes (L2.CX X.prog X.w) X E) : Let X (L2.CX X.prog X.w) E m E := ⟨h, fun h => h⟩
theorem se_call {K : PySem.W.Frag} {ta : TA} (hl : ∀ {β : Bt} {H : Hp} {Q : VK} {ws : List W} {st : Sto}, Po K Cl E β H Q (m ws st) → Po K Cl E1 β H Q (m ws st)) (q : SA K Cl E ta mr) : SE K Cl E (tCall (spM K Cl n m) [] E1 ta) (mCall n m mr) := fun β H σ s st Q hr hs h => q β H σ s st _ hr hs (h.bind fun ws st1 β1 H1 vs _ e1 hr1 rv h1 => by
  split at h1
  · rename_i hn
    rw [List.append_nil]
    exact ⟨by rw [← rv.length]; exact hn, β1, ws, st1, hr1, rv, hl h1⟩
  · exact h1.elim)
theorem je_call (F : FnOk X.prog X.w X.K X.mg X.base CX k f fd ps (spM X.K Cl n m)) (hr : Room k X.A) (hm : X.mg x = some (.ref f)) (hk : PySem.W.keepIn X.K (.ref f) = true) (hb : Binds X.K fd ps []) (hl : Let X CX E m E1) (ha : JA X Cl E (e :: es) mr) (hg : Gl X x := by rfl)
    (hdb : (x == ("__debug__" : Str)) = false := by decide) (he : starEach (e :: es) X.env = (false, eval e X.env) :: starEach es X.env := by rfl) (hpl : (backTo pos (starEach es X.env)).any (·.1) = false := by rfl) : JE X Cl E (.Call (.Name x p) (e :: es) [] pos) (mCall n m mr) := by
  obtain ⟨_, pr, q⟩ := ha.ex
  exact ⟨_, pe_call F hr hg hm hk hb .nil hl.ps pr hdb he hpl, se_call hl.po q⟩
theorem sa_nil {K : PySem.W.Frag} : SA K Cl E tNil mNil := fun β H σ s st Q hr hs h => PoG.val h hr .nil
theorem je_call0 (F : FnOk X.prog X.w X.K X.mg X.base CX k f fd ps (spM X.K Cl n m)) (hr : Room k X.A) (hm : X.mg x = some (.ref f)) (hk : PySem.W.keepIn X.K (.ref f) = true) (hb : Binds X.K fd ps []) (hl : Let X CX E m E1) (hg : Gl X x := by rfl) (hdb : (x == ("__debug__" : Str)) = false := by decide) :
    JE X Cl E (.Call (.Name x p) [] [] pos) (mCall n m mNil) := ⟨_, pe_call0 F hr hg hm hk hb .nil hl.ps hdb, se_call hl.po sa_nil⟩
theorem se_meth {K : PySem.W.Frag} {c : Nat} {nm : Str} {to : TE} {ta : TA} (hl : ∀ {β : Bt} {H : Hp} {Q : VK} {ws : List W} {st : Sto}, Po K Cl E β H Q (m ws st) → Po K Cl E1 β H Q (m ws st)) (qo : SE K Cl E to mo) (q : SA K Cl E ta mr) : SE K Cl E (tMeth (Cl c) nm (spM K Cl n m) [] E1 to ta) (mMeth c nm n m mo mr) := fun β H σ s st Q hr hs h => qo β H σ s st _ hr hs (h.bind fun x st1 β1 H1 v _ e1 hr1 rx h1 => by
  cases x with
  | ref i =>
    simp only at h1
    split at h1
    · rename_i d fs es
      split at h1
      · rename_i hd
        obtain ⟨rfl, hno⟩ := hd
        obtain ⟨a, rfl, hb, dx, gs, hv, hrs⟩ := rx.atRef hr1 es (by intro z; cases z)
        refine ⟨a, dx, gs, rfl, hv, hrs.lookN hno, q β1 H1 σ s st1 _ hr1 (hs.ext e1) (h1.bind fun ws st2 β2 H2 vs _ e2 hr2 rv h2 => ?_)⟩
        split at h2
        · rename_i hn
          rw [List.append_nil]
          exact ⟨by rw [List.length_cons, ← rv.length]; exact hn, β2, _, st2, hr2, .cons (rx.ext e2) rv, hl h2⟩
        · exact h2.elim
      · exact h1.elim
    · exact h1.elim
  | _ => exact h1.elim)
theorem je_meth {c : Nat} {nm : Str} {pl : Sem Bool} (hc : Cls X.K (Cl c)) (hm : Meth X.K (Cl c) nm f) (F : FnOk X.prog X.w X.K X.mg X.base CX k f fd ps (spM X.K Cl n m)) (hr : Room k X.A) (hb : Binds X.K fd ps []) (hl : Let X CX E m E1) (ho : JE X Cl E o mo) (ha : JA X Cl E (e :: es) mr)
    (hst : starEach (e :: es) X.env = (false, eval e X.env) :: starEach es X.env := by rfl) (hpl : (backTo pos (starEach es X.env)).any (·.1) = false := by rfl)
    (ht : eval (.Call (.Attribute o nm apos) (e :: es) [] pos) X.env = (do
      let ov ← eval o X.env
      standAt apos.atName
      let (f, first) ← holding [ov] (getMethod ov nm pl)
      callWith pos f first (backTo pos (starEach (e :: es) X.env)) (backToKw pos (keywordEach [] X.env))) := by rfl) :
    JE X Cl E (.Call (.Attribute o nm apos) (e :: es) [] pos) (mMeth c nm n m mo mr) := by
  obtain ⟨_, po, qo⟩ := ho.ex
  obtain ⟨_, pr, q⟩ := ha.ex
  exact ⟨_, pe_meth po hc hm F hr hb .nil hl.ps pr hst hpl ht, se_meth hl.po qo q⟩
theorem je_meth0 {c : Nat} {nm : Str} {pl : Sem Bool} (hc : Cls X.K (Cl c)) (hm : Meth X.K (Cl c) nm f) (F : FnOk X.prog X.w X.K X.mg X.base CX k f fd ps (spM X.K Cl n m)) (hr : Room k X.A) (hb : Binds X.K fd ps []) (hl : Let X CX E m E1) (ho : JE X Cl E o mo)
    (ht : eval (.Call (.Attribute o nm apos) [] [] pos) X.env = (do
      let ov ← eval o X.env
      standAt apos.atName
      let (f, first) ← holding [ov] (getMethod ov nm pl)
      callWith pos f first (backTo pos (starEach [] X.env)) (backToKw pos (keywordEach [] X.env))) := by rfl) :
    JE X Cl E (.Call (.Attribute o nm apos) [] [] pos) (mMeth c nm n m mo mNil) := by
  obtain ⟨_, po, qo⟩ := ho.ex
  exact ⟨_, pe_meth0 po hc hm F hr hb .nil hl.ps ht, se_meth hl.po qo sa_nil⟩
theorem se_make {K : PySem.W.Frag} {c : Nat} {ta : TA} (hl : ∀ {β : Bt} {H : Hp} {Q : VK} {ws : List W} {st : Sto}, Po K Cl E β H Q (m ws st) → Po K Cl E1 β H Q (m ws st)) (q : SA K Cl E ta mr) : SE K Cl E (tMake (Cl c) (spM K Cl n m) [] E1 ta) (mMake c n m mr) := fun β H σ s st Q hr hs h => q β H σ s st _ hr hs (h.bind fun ws st1 β1 H1 vs _ e1 hr1 rv h1 x dx hx hd hne => by
  split at h1
  · rename_i hn
    rw [List.append_nil]
    have hx2 : upd H1 dx (.own x) x = none := by rw [upd_ne hne.symm]; exact hx
    have ea : Ext K β1 H1 β1 (upd H1 dx (.own x)) := Ext.new hd
    have eb : Ext K β1 (upd H1 dx (.own x)) (β1.push x) (upd (upd H1 dx (.own x)) x (.ins (Cl c) dx [])) := Ext.push hx2
    have hr2 : HR K Cl (β1.push x) (upd (upd H1 dx (.own x)) x (.ins (Cl c) dx [])) (st1 ++ [.ins c []]) := (hr1.new hd).push hx2 ⟨dx, [], upd_same, .nil⟩
    have hb : (β1.push x).l[st1.length]? = some (some x) := by rw [← hr1.len]; exact push_last
    refine ⟨by rw [List.length_cons, ← rv.length]; exact hn, β1.push x, _, _, hr2, .cons (.ref hb) ((rv.ext ea).ext eb), hl ?_⟩
    refine ((PoG.ext (ea.trans eb) h1).bind fun r st2 β2 H2 v eq e2 hr3 rr h2 => ?_)
    split at h2
    · cases rr
      refine ⟨rfl, ?_⟩
      split at h2
      · rename_i es
        exact PoG.val h2 hr3 (.ref (hr3.stay e2 hb es (by intro z; cases z)))
      · exact h2.elim
    · exact h2.elim
  · exact h1.elim)
theorem je_make {c : Nat} (M : Mk X.K (Cl c) f) (F : FnOk X.prog X.w X.K X.mg X.base CX k f fd ps (spM X.K Cl n m)) (hr : Room (k + 1) X.A) (hm : X.mg x = some (.ref (Cl c))) (hb : Binds X.K fd ps []) (hl : Let X CX E m E1) (ha : JA X Cl E (e :: es) mr) (hg : Gl X x := by rfl)
    (hdb : (x == ("__debug__" : Str)) = false := by decide) (he : starEach (e :: es) X.env = (false, eval e X.env) :: starEach es X.env := by rfl) (hpl : (backTo pos (starEach es X.env)).any (·.1) = false := by rfl) : JE X Cl E (.Call (.Name x p) (e :: es) [] pos) (mMake c n m mr) := by
  obtain ⟨_, pr, q⟩ := ha.ex
  exact ⟨_, pe_make M F hr hg hm hb .nil hl.ps pr hdb he hpl, se_make hl.po q⟩
theorem je_make0 {c : Nat} (M : Mk X.K (Cl c) f) (F : FnOk X.prog X.w X.K X.mg X.base CX k f fd ps (spM X.K Cl n m)) (hr : Room (k + 1) X.A) (hm : X.mg x = some (.ref (Cl c))) (hb : Binds X.K fd ps []) (hl : Let X CX E m E1) (hg : Gl X x := by rfl) (hdb : (x == ("__debug__" : Str)) = false := by decide) :
    JE X Cl E (.Call (.Name x p) [] [] pos) (mMake c n m mNil) := ⟨_, pe_make0 M F hr hg hm hb .nil hl.ps hdb, se_make hl.po sa_nil⟩
end

theorem room65 {A : Around} {k : Nat} (hr : Room k A) : A.units + 65 < cLine := by have := hr.un; omega
theorem room1 {A : Around} {k : Nat} (hr : Room k A) : A.units + 1 < cLine := by have := hr.un; omega

/-! ### the law's end -/
def spLaw (K : PySem.W.Frag) (Cl : Nat → Addr) (m : MF) : Sp := spM K Cl 1 m
theorem rv_ints {K : PySem.W.Frag} {β : Bt} {H : Hp} : ∀ ns : List Int, RVs K β H (ns.map W.int) (ns.map V.int)
  | [] => .nil
  | n :: ns => .cons (.int n) (rv_ints ns)
theorem law_sp {K : PySem.W.Frag} {Cl : Nat → Addr} {m : MF} {H : Hp} {a : Addr} {ns : List Int} (hO : Only H) (hS : SqL K H a (ns.map V.int)) (h : ∃ st, m [.xst (ns.map W.int)] [] = .ok (.bl true) st) :
    spLaw K Cl m [.ref a] H (fun v _ => v = .bl true) fun _ _ _ => False := by
  obtain ⟨st, h⟩ := h
  refine ⟨rfl, ⟨[], []⟩, [.xst (ns.map W.int)], [], ⟨rfl, fun i j b hi => by simp at hi, fun i b o hi => by simp at hi, fun i hi => by simp at hi, fun p hp => by simp at hp⟩, .cons (.xst (vs := ns.map V.int) ?_ (rv_ints ns)) .nil, ?_⟩
  · rcases hS with (hS | hS) | hS
    · rcases hO a with z | ⟨o, xs, z⟩
      · rw [hS] at z; cases z
      · rw [hS] at z; cases z
    · exact .inr hS
    · exact .inl hS
  · rw [h]
    intro β' H' v e hr r
    cases r
    rfl
end Mi
/-! The mirror layer, part P: plain rules for the mirrors' loops. -/
namespace Mi
open PySem L2

/-- what a loop's body may come to: go on with `I`, or end as `R` says -/
@[simp] def Step (I : Slo → Sto → Prop) (R : SO → Prop) : SO → Prop
  | .nx s st => I s st
  | .ct s st => I s st
  | .bk s st => R (.nx s st)
  | .rt w st => R (.rt w st)
  | .exc c fs st => R (.exc c fs st)
  | .stuck => False
theorem loop_vals_at {ws : List W} {g : MG} {body : MS} (I : Nat → Slo → Sto → Prop) (R : SO → Prop)
    (step : ∀ i w s st, ws[i]? = some w → I i s st → ∃ s1 st1, g w s st = some (s1, st1) ∧ Step (I (i + 1)) R (body s1 st1))
    (fin : ∀ s st, I ws.length s st → R (.nx s st)) :
    ∀ (k i : Nat) (s : Slo) (st : Sto), i + k = ws.length → I i s st → R (mLoop (.vals ws) g body k i s st)
  | 0, i, s, st, e, h => by
    have e' : i = ws.length := by omega
    subst e'
    simp only [mLoop, Src.fine, if_true]
    exact fin s st h
  | k + 1, i, s, st, e, h => by
    have hi : i < ws.length := by omega
    obtain ⟨s1, st1, hg, hb⟩ := step i ws[i] s st (List.getElem?_eq_getElem hi) h
    have ih := loop_vals_at I R step fin k (i + 1)
    simp only [mLoop, Src.fine, if_true, Src.at, List.getElem?_eq_getElem hi, hg]
    cases hc : body s1 st1 with
    | nx s2 st2 => rw [hc] at hb; exact ih s2 st2 (by omega) hb
    | ct s2 st2 => rw [hc] at hb; exact ih s2 st2 (by omega) hb
    | bk s2 st2 => rw [hc] at hb; exact hb
    | rt w2 st2 => rw [hc] at hb; exact hb
    | exc c fs st2 => rw [hc] at hb; exact hb
    | stuck => rw [hc] at hb; exact hb.elim
theorem loop_vals {ws : List W} {g : MG} {body : MS} (I : Nat → Slo → Sto → Prop) (R : SO → Prop) {s : Slo} {st : Sto} (h0 : I 0 s st)
    (step : ∀ i w s st, ws[i]? = some w → I i s st → ∃ s1 st1, g w s st = some (s1, st1) ∧ Step (I (i + 1)) R (body s1 st1))
    (fin : ∀ s st, I ws.length s st → R (.nx s st)) :
    R (mLoop (.vals ws) g body ws.length 0 s st) := loop_vals_at I R step fin _ 0 s st (by omega) h0
/-- as an equation's left side: the loop ends well, and `I` holds there -/
theorem loop_nx {ws : List W} {g : MG} {body : MS} {n : Nat} (hn : ws.length = n) (I : Nat → Slo → Sto → Prop) {s : Slo} {st : Sto} (h0 : I 0 s st)
    (step : ∀ i w s st, ws[i]? = some w → I i s st → ∃ s1 st1, g w s st = some (s1, st1) ∧ ∃ s2 st2, (body s1 st1 = .nx s2 st2 ∨ body s1 st1 = .ct s2 st2) ∧ I (i + 1) s2 st2) :
    ∃ s2 st2, mLoop (.vals ws) g body n 0 s st = .nx s2 st2 ∧ I n s2 st2 := by
  subst hn
  refine loop_vals (R := fun o => ∃ s2 st2, o = .nx s2 st2 ∧ I ws.length s2 st2) I h0 (fun i w s st hw hi => ?_) (fun s st h => ⟨s, st, rfl, h⟩)
  obtain ⟨s1, st1, hg, s2, st2, hb, h2⟩ := step i w s st hw hi
  refine ⟨s1, st1, hg, ?_⟩
  rcases hb with hb | hb <;> rw [hb] <;> exact h2
theorem loop_st {ws : List W} {g : MG} {body : MS} {n : Nat} (hn : ws.length = n) (I : Nat → Slo → Sto → Prop) {s : Slo} {st : Sto} (h0 : I 0 s st)
    (step : ∀ i w s st, ws[i]? = some w → I i s st → ∃ s1 st1, g w s st = some (s1, st1) ∧ Step (I (i + 1)) (fun _ => False) (body s1 st1)) :
    ∃ s2 st2, mLoop (.vals ws) g body n 0 s st = .nx s2 st2 ∧ I n s2 st2 := by
  refine loop_nx hn I h0 fun i w s st hw hi => ?_
  obtain ⟨s1, st1, hg, hb⟩ := step i w s st hw hi
  refine ⟨s1, st1, hg, ?_⟩
  cases hc : body s1 st1 with
  | nx s2 st2 => rw [hc] at hb; exact ⟨s2, st2, .inl rfl, hb⟩
  | ct s2 st2 => rw [hc] at hb; exact ⟨s2, st2, .inr rfl, hb⟩
  | bk s2 st2 => rw [hc] at hb; exact hb.elim
  | rt w2 st2 => rw [hc] at hb; exact hb.elim
  | exc c fs st2 => rw [hc] at hb; exact hb.elim
  | stuck => rw [hc] at hb; exact hb.elim
@[simp] theorem Src.len_vals (ws : List W) : (Src.vals ws).len = ws.length := rfl
@[simp] theorem rngW_len (lo : Int) (n : Nat) : (rngW lo n).length = n := by simp [rngW]
theorem rngW_get {lo : Int} {n i : Nat} {w : W} (h : (rngW lo n)[i]? = some w) : i < n ∧ w = .int (lo + (i : Nat)) := by
  simp only [rngW, List.getElem?_map] at h
  rcases Nat.lt_or_ge i n with hi | hi
  · rw [List.getElem?_range hi] at h
    simp at h
    exact ⟨hi, h.symm⟩
  · rw [List.getElem?_eq_none (by simpa using hi)] at h
    simp at h
theorem rng0_get {n i : Nat} {w : W} (h : (rngW 0 n)[i]? = some w) : i < n ∧ w = .int (i : Nat) := by
  have h1 := rngW_get h
  rwa [Int.zero_add] at h1
/-- a walk that changes no store -/
theorem lc_vals_at {ws : List W} {g : MG} {t : MT} {e : ME} {s : Slo} {st : Sto} (p : W → Bool) (q : W → W)
    (h : ∀ w ∈ ws, ∃ s2, g w s st = some (s2, st) ∧ t s2 st = .ok (p w) st ∧ (p w = true → e s2 st = .ok (q w) st)) :
    ∀ (k i : Nat) (acc : List W), i + k = ws.length → acc.length + k ≤ sizeLine →
      mLcLoop (.vals ws) g t e s k i acc st = .ok (acc ++ ((ws.drop i).filter p).map q) st
  | 0, i, acc, e, hl => by
    have e' : i = ws.length := by omega
    subst e'
    simp [mLcLoop, Src.fine]
  | k + 1, i, acc, e, hl => by
    have hi : i < ws.length := by omega
    obtain ⟨s2, hg, ht, he⟩ := h ws[i] (List.getElem_mem hi)
    have hd := List.drop_eq_getElem_cons hi
    simp only [mLcLoop, Src.fine, if_true, Src.at, List.getElem?_eq_getElem hi, hg, ht]
    cases hp : p ws[i] with
    | true =>
      simp only [he hp]
      rw [if_pos (by omega), lc_vals_at p q h k (i + 1) _ (by omega) (by simp; omega)]
      rw [hd, List.filter_cons, hp]
      simp only [if_true, List.map_cons, List.append_assoc, List.singleton_append]
    | false =>
      simp only []
      rw [lc_vals_at p q h k (i + 1) _ (by omega) (by omega), hd, List.filter_cons, hp]
      simp only [Bool.false_eq_true, if_false]
theorem lc_vals {ws : List W} {g : MG} {t : MT} {e : ME} {s : Slo} {st : Sto} (p : W → Bool) (q : W → W) (hl : ws.length ≤ sizeLine)
    (h : ∀ w ∈ ws, ∃ s2, g w s st = some (s2, st) ∧ t s2 st = .ok (p w) st ∧ (p w = true → e s2 st = .ok (q w) st)) :
    mLcLoop (.vals ws) g t e s ws.length 0 [] st = .ok ((ws.filter p).map q) st := by
  rw [lc_vals_at p q h _ 0 [] (by omega) (by simpa using hl)]
  simp
/-- a call's good end -/
@[simp] def Out.post {α : Type} (o : Out α) (P : α → Sto → Prop) : Prop := match o with
  | .ok a st => P a st
  | _ => False
theorem Out.post.get {α : Type} {o : Out α} {P : α → Sto → Prop} (h : o.post P) : ∃ a st, o = .ok a st ∧ P a st := by
  cases o with
  | ok a st => exact ⟨a, st, rfl, h⟩
  | exc c fs st => exact h.elim
  | stuck => exact h.elim
theorem atI_nn {α : Type} {xs : List α} {k : Int} {w : α} (h0 : 0 ≤ k) (h : xs[k.toNat]? = some w) : atI xs k = some w := by
  have hl : k.toNat < xs.length := (List.getElem?_eq_some_iff.mp h).1
  have h2 : ixN xs.length k = some k.toNat := by
    simp only [ixN, if_pos h0]
    rw [if_pos (by omega)]
  rw [atI, h2]
  exact h
@[simp] theorem shaped_int (i : Int) : SeqAt.shaped (.int i) = true := rfl
@[simp] theorem shaped_str (x : Str) : SeqAt.shaped (.str x) = PyData.strOk x := by simp [SeqAt.shaped, PyData.canLay0, PyData.depth]
@[simp] theorem shaped_bool (x : Bool) : SeqAt.shaped (.bool x) = true := rfl
@[simp] theorem shaped_none : SeqAt.shaped .none = true := rfl
@[simp] theorem eqv_ii (i j : Int) : PyData.eqv (.int i) (.int j) = decide (i = j) := by by_cases h : i = j <;> simp [PyData.eqv, h]
@[simp] theorem eqv_ss (i j : Str) : PyData.eqv (.str i) (.str j) = decide (i = j) := by by_cases h : i = j <;> simp [PyData.eqv, h]
@[simp] theorem eqv_bb (i j : Bool) : PyData.eqv (.bool i) (.bool j) = decide (i = j) := by by_cases h : i = j <;> simp [PyData.eqv, h]
@[simp] theorem eqv_nn : PyData.eqv .none .none = true := by simp [PyData.eqv]
@[simp] theorem eqv_is (i : Int) (j : Str) : PyData.eqv (.int i) (.str j) = false := by simp [PyData.eqv]
@[simp] theorem eqv_si (i : Int) (j : Str) : PyData.eqv (.str j) (.int i) = false := by simp [PyData.eqv]
@[simp] theorem eqv_in (i : Int) : PyData.eqv (.int i) .none = false := by simp [PyData.eqv]
@[simp] theorem eqv_ni (i : Int) : PyData.eqv .none (.int i) = false := by simp [PyData.eqv]
@[simp] theorem eqv_sn (i : Str) : PyData.eqv (.str i) .none = false := by simp [PyData.eqv]
@[simp] theorem eqv_ns (i : Str) : PyData.eqv .none (.str i) = false := by simp [PyData.eqv]
@[simp] theorem shaped_list (ds : List PyData) : SeqAt.shaped (.list ds) = (PyData.canLayAll0 ds && decide (PyData.depthAll ds + 1 ≤ 64)) := by simp [SeqAt.shaped, PyData.canLay0, PyData.depth]
@[simp] theorem shaped_tuple (ds : List PyData) : SeqAt.shaped (.tuple ds) = (PyData.canLayAll0 ds && decide (PyData.depthAll ds + 1 ≤ 64)) := by simp [SeqAt.shaped, PyData.canLay0, PyData.depth]
@[simp] theorem lay_nil : PyData.canLayAll0 [] = true := by simp [PyData.canLayAll0]
@[simp] theorem lay_cons (d : PyData) (ds : List PyData) : PyData.canLayAll0 (d :: ds) = (d.canLay0 && PyData.canLayAll0 ds) := by simp [PyData.canLayAll0]
@[simp] theorem lay_int (i : Int) : PyData.canLay0 (.int i) = true := by simp [PyData.canLay0]
@[simp] theorem lay_str (i : Str) : PyData.canLay0 (.str i) = PyData.strOk i := by simp [PyData.canLay0]
@[simp] theorem lay_bool (i : Bool) : PyData.canLay0 (.bool i) = true := by simp [PyData.canLay0]
@[simp] theorem lay_none : PyData.canLay0 .none = true := by simp [PyData.canLay0]
@[simp] theorem lay_tuple (ds : List PyData) : PyData.canLay0 (.tuple ds) = PyData.canLayAll0 ds := by simp [PyData.canLay0]
@[simp] theorem lay_list (ds : List PyData) : PyData.canLay0 (.list ds) = PyData.canLayAll0 ds := by simp [PyData.canLay0]
@[simp] theorem dep_nil : PyData.depthAll [] = 0 := by simp [PyData.depthAll]
@[simp] theorem dep_cons (d : PyData) (ds : List PyData) : PyData.depthAll (d :: ds) = max d.depth (PyData.depthAll ds) := by simp [PyData.depthAll]
@[simp] theorem dep_int (i : Int) : PyData.depth (.int i) = 0 := by simp [PyData.depth]
@[simp] theorem dep_str (i : Str) : PyData.depth (.str i) = 0 := by simp [PyData.depth]
@[simp] theorem dep_bool (i : Bool) : PyData.depth (.bool i) = 0 := by simp [PyData.depth]
@[simp] theorem dep_none : PyData.depth .none = 0 := by simp [PyData.depth]
@[simp] theorem dep_tuple (ds : List PyData) : PyData.depth (.tuple ds) = PyData.depthAll ds + 1 := by simp [PyData.depth]
@[simp] theorem dep_list (ds : List PyData) : PyData.depth (.list ds) = PyData.depthAll ds + 1 := by simp [PyData.depth]
@[simp] theorem eqv_ll (i j : List PyData) : PyData.eqv (.list i) (.list j) = PyData.eqvAll i j := by simp [PyData.eqv]
@[simp] theorem eqv_tt (i j : List PyData) : PyData.eqv (.tuple i) (.tuple j) = PyData.eqvAll i j := by simp [PyData.eqv]
@[simp] theorem eqvA_nn : PyData.eqvAll [] [] = true := by simp [PyData.eqvAll]
@[simp] theorem eqvA_cc (x y : PyData) (xs ys : List PyData) : PyData.eqvAll (x :: xs) (y :: ys) = (PyData.eqv x y && PyData.eqvAll xs ys) := by simp [PyData.eqvAll]
@[simp] theorem eqvA_nc (y : PyData) (ys : List PyData) : PyData.eqvAll [] (y :: ys) = false := by simp [PyData.eqvAll]
@[simp] theorem eqvA_cn (y : PyData) (ys : List PyData) : PyData.eqvAll (y :: ys) [] = false := by simp [PyData.eqvAll]
@[simp] theorem kit_NoneType_bool : kitB "NoneType" "bool" = some false := rfl
@[simp] theorem kit_NoneType_int : kitB "NoneType" "int" = some false := rfl
@[simp] theorem kit_NoneType_str : kitB "NoneType" "str" = some false := rfl
@[simp] theorem kit_NoneType_tuple : kitB "NoneType" "tuple" = some false := rfl
@[simp] theorem kit_NoneType_list : kitB "NoneType" "list" = some false := rfl
@[simp] theorem kit_NoneType_dict : kitB "NoneType" "dict" = some false := rfl
@[simp] theorem kit_bool_bool : kitB "bool" "bool" = some true := rfl
@[simp] theorem kit_bool_int : kitB "bool" "int" = some true := rfl
@[simp] theorem kit_bool_str : kitB "bool" "str" = some false := rfl
@[simp] theorem kit_bool_tuple : kitB "bool" "tuple" = some false := rfl
@[simp] theorem kit_bool_list : kitB "bool" "list" = some false := rfl
@[simp] theorem kit_bool_dict : kitB "bool" "dict" = some false := rfl
@[simp] theorem kit_int_bool : kitB "int" "bool" = some false := rfl
@[simp] theorem kit_int_int : kitB "int" "int" = some true := rfl
@[simp] theorem kit_int_str : kitB "int" "str" = some false := rfl
@[simp] theorem kit_int_tuple : kitB "int" "tuple" = some false := rfl
@[simp] theorem kit_int_list : kitB "int" "list" = some false := rfl
@[simp] theorem kit_int_dict : kitB "int" "dict" = some false := rfl
@[simp] theorem kit_str_bool : kitB "str" "bool" = some false := rfl
@[simp] theorem kit_str_int : kitB "str" "int" = some false := rfl
@[simp] theorem kit_str_str : kitB "str" "str" = some true := rfl
@[simp] theorem kit_str_tuple : kitB "str" "tuple" = some false := rfl
@[simp] theorem kit_str_list : kitB "str" "list" = some false := rfl
@[simp] theorem kit_str_dict : kitB "str" "dict" = some false := rfl
@[simp] theorem kit_tuple_bool : kitB "tuple" "bool" = some false := rfl
@[simp] theorem kit_tuple_int : kitB "tuple" "int" = some false := rfl
@[simp] theorem kit_tuple_str : kitB "tuple" "str" = some false := rfl
@[simp] theorem kit_tuple_tuple : kitB "tuple" "tuple" = some true := rfl
@[simp] theorem kit_tuple_list : kitB "tuple" "list" = some false := rfl
@[simp] theorem kit_tuple_dict : kitB "tuple" "dict" = some false := rfl
@[simp] theorem kit_list_bool : kitB "list" "bool" = some false := rfl
@[simp] theorem kit_list_int : kitB "list" "int" = some false := rfl
@[simp] theorem kit_list_str : kitB "list" "str" = some false := rfl
@[simp] theorem kit_list_tuple : kitB "list" "tuple" = some false := rfl
@[simp] theorem kit_list_list : kitB "list" "list" = some true := rfl
@[simp] theorem kit_list_dict : kitB "list" "dict" = some false := rfl
@[simp] theorem kit_dict_bool : kitB "dict" "bool" = some false := rfl
@[simp] theorem kit_dict_int : kitB "dict" "int" = some false := rfl
@[simp] theorem kit_dict_str : kitB "dict" "str" = some false := rfl
@[simp] theorem kit_dict_tuple : kitB "dict" "tuple" = some false := rfl
@[simp] theorem kit_dict_list : kitB "dict" "list" = some false := rfl
@[simp] theorem kit_dict_dict : kitB "dict" "dict" = some true := rfl
@[simp] theorem ofString_iff (a b : String) : Str.ofString a = Str.ofString b ↔ a = b := by
  constructor
  · intro h
    rw [Str.ofString_eq_toList, Str.ofString_eq_toList, Str.mk.injEq] at h
    have h1 : a.toList.map Char.toNat = b.toList.map Char.toNat := by simpa using h
    have h2 : a.toList = b.toList := List.map_inj_right (fun x y e => Char.toNat_inj.mp e) |>.mp h1
    exact String.toList_inj.mp h2
  · exact congrArg _
@[simp] theorem strOk_lit (a : String) : PyData.strOk (Str.ofString a) = true := by
  rw [Str.ofString_eq_toList]
  simp only [PyData.strOk]
  rw [Array.all_eq_true_iff_forall_mem]
  intro c hc
  simp at hc
  obtain ⟨x, hx, rfl⟩ := hc
  have h : x.val.toNat.isValidChar := x.valid
  have e : x.toNat = x.val.toNat := rfl
  rcases h with h | h
  · simp only [e, decide_eq_true_eq]; omega
  · simp only [e, decide_eq_true_eq]; omega
@[simp] theorem length_lit (a : String) : (Str.ofString a).length = a.length := by
  rw [Str.ofString_eq_toList]
  simp [Str.length, ← String.length_toList]
@[simp] theorem eqV_ss (i j : Str) : eqV (.str i) (.str j) = decide (i = j) := by by_cases h : i = j <;> simp [eqV, h]
@[simp] theorem eqV_ii (i j : Int) : eqV (.int i) (.int j) = decide (i = j) := by by_cases h : i = j <;> simp [eqV, h]
@[simp] theorem eqV_si (i : Str) (j : Int) : eqV (.str i) (.int j) = false := rfl
@[simp] theorem eqV_is (i : Str) (j : Int) : eqV (.int j) (.str i) = false := rfl
@[simp] theorem eqV_sn (i : Str) : eqV (.str i) .non = false := rfl
@[simp] theorem eqV_ns (i : Str) : eqV .non (.str i) = false := rfl
@[simp] theorem eqV_in (i : Int) : eqV (.int i) .non = false := rfl
@[simp] theorem eqV_ni (i : Int) : eqV .non (.int i) = false := rfl
@[simp] theorem eqV_nn : eqV .non .non = true := rfl
@[simp] theorem inV_nil (x : V) : inV x [] = false := rfl
@[simp] theorem inV_cons (x y : V) (ys : List V) : inV x (y :: ys) = (eqV y x || inV x ys) := rfl
@[simp] theorem toPys_ints : ∀ ns : List Int, toPys (ns.map W.int) = some (ns.map PyData.int)
  | [] => rfl
  | n :: ns => by simp [toPys, toPys_ints ns]
end Mi
/-! The mirror layer, part G: lists made into objects of the store, the methods of lists and tuples. -/
namespace Mi
open PySem L2
@[simp] def mListOfS : List W → Sto → Out W := fun xs st => match xs with
  | [.tup ws] => .ok (.ref st.length) (st ++ [.lst ws])
  | [x] => match asL x st with
    | some ws => .ok (.ref st.length) (st ++ [.lst ws])
    | none => .stuck
  | _ => .stuck
@[simp] def mAddS : M2 := fun x y st => match asLM x st, asLM y st with
  | some a, some b => if a.length + b.length ≤ sizeLine then .ok (.ref st.length) (st ++ [.lst (a ++ b)]) else .stuck
  | _, _ => .stuck
@[simp] def mLM (m : W → List W → Sto → Out W) (o : ME) (a : MA) : ME := fun s st => (o s st).bind fun x st1 => match asL x st1 with
  | some _ => (a s st1).bind fun xs st2 => m x xs st2
  | none => .stuck
def SMt (K : PySem.W.Frag) (Cl : Nat → Addr) (E : XK) (r : V → List V → Hp → VK → Prop) (m : W → List W → Sto → Out W) : Prop :=
  ∀ β H st x xs v vs Q, HR K Cl β H st → RV K β H x v → RVs K β H xs vs → Po K Cl E β H Q (m x xs st) → r v vs H Q
@[simp] def mApp : W → List W → Sto → Out W := fun x xs st => match x, xs with
  | .ref i, [y] => match st[i]? with
    | some (.lst ws) => if ws.length < sizeLine then .ok .non (st.set i (.lst (ws ++ [y]))) else .stuck
    | _ => .stuck
  | _, _ => .stuck
@[simp] def mIndex : W → List W → Sto → Out W := fun x xs st => match xs with
  | [y] => match asL x st with
    | some ws => if flatW y = true ∧ ws.all flatW = true then match ws.findIdx? (fun z => eqV (toV z) (toV y)) with
        | some j => .ok (.int (j : Nat)) st
        | none => .stuck
      else .stuck
    | none => .stuck
  | _ => .stuck
@[simp] def mTix (zs : List Str) (a : ME) : ME := fun s st => (a s st).bind fun y st1 => match y with
  | .str z => match zs.findIdx? (fun x => decide (x = z)) with
    | some j => .ok (.int (j : Nat)) st1
    | none => .stuck
  | _ => .stuck
/-- a tuple of texts of the module's top -/
structure GTp (K : PySem.W.Frag) (mg : Str → Option Value) (x : Str) (zs : List Str) : Prop where
  ex : ∃ (p : Addr) (o : Obj) (its : Array Value) (n : Nat), mg x = some (.ref p) ∧ K.lookup p = some o ∧ o.cls = .type "tuple" ∧ o.dict = none ∧ o.data = .seq its n ∧ its.size ≤ sizeLine ∧ Vals (zs.map V.str) its.toList
section
variable {X : Cx} {Cl : Nat → Addr} {E : XK}
theorem c_listS : CallR X (.type "list") (fun xs H Q => ∃ p ys, xs = [.ref p] ∧ (SqL X.K H p ys ∨ SqT X.K H p ys) ∧ ∀ l, H l = none → Q (.ref l) (upd H l (.lst ys))) ∧
    SCal X.K Cl E (fun xs H Q => ∃ p ys, xs = [.ref p] ∧ (SqL X.K H p ys ∨ SqT X.K H p ys) ∧ ∀ l, H l = none → Q (.ref l) (upd H l (.lst ys))) mListOfS := by
  refine ⟨call_list_of, fun β H st xs vs Q hr r h => ?_⟩
  unfold mListOfS at h
  split at h
  · obtain ⟨v, rfl, rv⟩ := r.one
    cases rv with
    | tup h1 r1 => exact ⟨_, _, rfl, .inr h1, fun l hl => Po.lstS h hr hl r1⟩
  · split at h
    · rename_i ws el
      obtain ⟨v, rfl, rv⟩ := r.one
      obtain ⟨p, vs, rfl, h1, r1⟩ := asL_ok hr rv el
      exact ⟨_, _, rfl, .inl h1, fun l hl => Po.lstS h hr hl r1⟩
    · exact h.elim
  · exact h.elim
theorem o_addS : OpR X (binaryOp .Add) rCat ∧ SOp X.K Cl E rCat mAddS := by
  refine ⟨op_cat, fun β H st x y v u Q hr rx ry h => ?_⟩
  unfold mAddS at h
  split at h
  · split at h
    · rename_i e1 e2 hz
      obtain ⟨p, vs, rfl, h1, r1⟩ := asLM_ok hr rx e1
      obtain ⟨q, us, rfl, h2, r2⟩ := asLM_ok hr ry e2
      exact ⟨p, q, vs, us, rfl, rfl, h1, h2, by rw [← r1.length, ← r2.length]; exact hz, fun l hl => Po.lstS h hr hl (r1.append r2)⟩
    · exact h.elim
  · exact h.elim
theorem m_app : MtR X "list.append" rAppend ∧ SMt X.K Cl E rAppend mApp := by
  refine ⟨mt_append, fun β H st x xs v vs Q hr rx rs h => ?_⟩
  unfold mApp at h
  split at h
  · split at h
    · rename_i ws es
      split at h
      · rename_i hz
        obtain ⟨a, rfl, hb, us, hv, hrs⟩ := rx.atRef hr es (by intro z; cases z)
        obtain ⟨u, rfl, ru⟩ := rs.one
        have em : Ext X.K β H β (upd H a (.lst (us ++ [u]))) := Ext.mut hr hb hv trivial
        refine ⟨a, us, u, rfl, rfl, hv, by rw [← hrs.length]; exact hz, h β _ .non em (hr.mut hb hv trivial ⟨_, upd_same, (hrs.append (.cons ru .nil)).ext em⟩) .non⟩
      · exact h.elim
    · exact h.elim
  · exact h.elim
theorem m_index : MtR X "list.index" (rIndex X.K) ∧ SMt X.K Cl E (rIndex X.K) mIndex := by
  refine ⟨mt_index, fun β H st x xs v vs Q hr rx rs h => ?_⟩
  unfold mIndex at h
  split at h
  · split at h
    · rename_i ws el
      split at h
      · rename_i hf
        split at h
        · rename_i j hj
          obtain ⟨u, rfl, ru⟩ := rs.one
          obtain ⟨p, us, rfl, h1, r1⟩ := asL_ok hr rx el
          obtain ⟨rfl, fu⟩ := flat_v ru hf.1
          obtain ⟨rfl, fus⟩ := flat_vs r1 hf.2
          obtain ⟨hl, he, hn⟩ := List.findIdx?_eq_some_iff_getElem.mp hj
          refine ⟨p, _, _, j, toV ws[j], rfl, rfl, h1, fu, fus, by simp [hl], he, fun m z hm hz => ?_, PoG.val h hr (.int _)⟩
          rw [List.getElem?_map, List.getElem?_eq_getElem (by omega)] at hz
          cases hz
          have := hn m hm
          simpa using this
        · exact h.elim
      · exact h.elim
    · exact h.elim
  · exact h.elim
theorem je_lm {o e : Expr} {es : List Expr} {name : Str} {id : String} {apos cpos : Pos} {r : V → List V → Hp → VK → Prop} {m : W → List W → Sto → Out W} {mo : ME} {mr : MA} (slot : Slot "list" name id) (hty : typeOf (.builtin id) = pure (.type "method_descriptor")) (hm : MtR X id r ∧ SMt X.K Cl E r m)
    (ho : JE X Cl E o mo) (ha : JA X Cl E (e :: es) mr)
    (hbase : attributeBase o name X.env (eval o X.env) = eval o X.env := by rfl)
    (hfew : ((backTo cpos (starEach (e :: es) X.env)).all (fun x => !x.1) && (backToKw cpos (keywordEach [] X.env)).all (fun x => x.1.isSome) && decide ((e :: es).length + ([] : List Keyword).length + (if ([] : List Keyword).isEmpty then 0 else 1) < 30)) = true := by rfl)
    (hline : (apos.endLine == cpos.line) = true := by rfl) (hs : starEach (e :: es) X.env = (false, eval e X.env) :: starEach es X.env := by rfl) (hplain : (backTo cpos (starEach es X.env)).any (·.1) = false := by rfl) :
    JE X Cl E (.Call (.Attribute o name apos) (e :: es) [] cpos) (mLM m mo mr) := by
  obtain ⟨_, p1, q1⟩ := ho.ex
  obtain ⟨_, p2, q2⟩ := ha.ex
  refine ⟨_, pe_bm F.plainAttrs_list slot hty hm.1 p1 p2 hbase hfew hline hs hplain, fun β H σ s st Q hr hs h => q1 β H σ s st _ hr hs (h.bind fun x st1 β1 H1 v _ e1 hr1 rx h1 => ?_)⟩
  split at h1
  · rename_i ws el
    obtain ⟨p, us, rfl, h2, r1⟩ := asL_ok hr1 rx el
    exact ⟨.inl ⟨rfl, _, h2⟩, q2 β1 H1 σ s st1 _ hr1 (hs.ext e1) (h1.bind fun xs st2 β2 H2 vs _ e2 hr2 rs h3 => hm.2 β2 H2 st2 x xs _ vs Q hr2 (rx.ext e2) rs h3)⟩
  · exact h1.elim
/-- T.index(e), T a tuple of texts of the module's top -/
theorem je_tix {x : Str} {zs : List Str} {e : Expr} {p apos cpos : Pos} {ma : ME} (g : GTp X.K X.mg x zs) (ha : JE X Cl E e ma) (hg : Gl X x := by rfl) (hd : (x == ("__debug__" : Str)) = false := by decide)
    (hbase : attributeBase (.Name x p) "index" X.env (eval (.Name x p) X.env) = eval (.Name x p) X.env := by rfl)
    (hfew : ((backTo cpos (starEach [e] X.env)).all (fun x => !x.1) && (backToKw cpos (keywordEach [] X.env)).all (fun x => x.1.isSome) && decide ([e].length + ([] : List Keyword).length + (if ([] : List Keyword).isEmpty then 0 else 1) < 30)) = true := by rfl)
    (hline : (apos.endLine == cpos.line) = true := by rfl) (hs : starEach [e] X.env = (false, eval e X.env) :: starEach [] X.env := by rfl) (hplain : (backTo cpos (starEach [] X.env)).any (·.1) = false := by rfl) :
    JE X Cl E (.Call (.Attribute (.Name x p) "index" apos) [e] [] cpos) (mTix zs ma) := by
  obtain ⟨_, p1, q1⟩ := ha.ex
  obtain ⟨a, o, its, n, hm, hk, hc, hdd, hdt, hz, hv⟩ := g.ex
  refine ⟨_, pe_bm F.plainAttrs_tuple F.slot_tuple_index F.type_tuple_index mt_tup_index (pe_glob (v := .ref a) hg hm rfl hd) (pa_cons p1 pa_nil hs) hbase hfew hline hs hplain, fun β H σ s st Q hr hs h => ?_⟩
  refine ⟨.inr (.inl ⟨rfl, o, hk, hc, hdd⟩), q1 β H σ s st _ hr hs (h.bind fun y st1 β1 H1 v _ e1 hr1 ry h1 => ?_)⟩
  cases y with
  | str z =>
    simp only at h1
    split at h1
    · rename_i j hj
      cases ry
      obtain ⟨hl, he, hn⟩ := List.findIdx?_eq_some_iff_getElem.mp hj
      refine ⟨a, zs, z, j, rfl, rfl, .inr ⟨o, its, n, hk, hc, hdt, hz, hv⟩, ?_, fun m hm2 hz2 => ?_, PoG.val h1 hr1 (.int _)⟩
      · rw [List.getElem?_eq_getElem hl]
        simpa using he
      · obtain ⟨hl2, e2⟩ := List.getElem?_eq_some_iff.mp hz2
        have := hn m hm2
        rw [e2] at this
        simp at this
    · exact h1.elim
  | _ => exact h1.elim
/-- o.f as a target -/
def gFld (K : PySem.W.Frag) (to : TE) (f : Str) : TG := fun y σ H Q => to σ H fun x H2 => ∃ a C dx fs, x = .ref a ∧ H2 a = some (.ins C dx fs) ∧ Cls K C ∧ NoAttr K C f ∧ fs.length < 1000 ∧ Q σ (upd H2 a (.ins C dx (putF f y fs)))
theorem pg_fld {o : Expr} {to : TE} {f : Str} {pos : Pos} (ho : PE X o to)
    : PG X (.Attribute o f pos) (gFld X.K to f) := by
  refine ⟨fun pins s σ H v u Q I r h => ?_⟩
  rw [assign_Attribute]
  refine wpAny_bind (wpAny_holding (thn (ho.run pins s σ H _ I h) fun ov s1 ⟨x, H1, I1, r1, a, C, dx, fs, ex, ea, c, n, l, q1⟩ => ?_))
  subst ex
  obtain rfl : ov = Value.ref a := r1
  refine wpAny_bind (wpAny_standAt (wpAny_bind (wpAny_holding ?_)))
  exact setattr_ok I1 ea c n l r fun s3 I3 => wpAny_release ⟨σ, _, I3, q1⟩
theorem jg_fld {o : Expr} {ma : ME} {c : Nat} {f : Str} {pos : Pos} (hc : Cls X.K (Cl c)) (hn : NoAttr X.K (Cl c) f) (ho : JE X Cl E o ma) : JG X Cl (.Attribute o f pos) (mGFld c f ma) := by
  obtain ⟨_, p1, q1⟩ := ho.ex
  refine ⟨_, pg_fld p1, fun β H σ s st w v Q hr hs rw h => q1 β H σ s st _ hr hs ?_⟩
  unfold mGFld at h
  cases e1 : ma s st with
  | exc c fs x => rw [e1] at h; exact h.elim
  | stuck => rw [e1] at h; exact h.elim
  | ok x st1 =>
    rw [e1] at h
    intro β1 H1 v1 x1 hr1 rx
    simp only at h
    split at h
    · rename_i r
      split at h
      · rename_i d fs es
        split at h
        · rename_i hd
          obtain ⟨rfl, hl⟩ := hd
          obtain ⟨a, rfl, hb, dx, gs, hv, hrs⟩ := rx.atRef hr1 es (by intro z; cases z)
          have em : Ext X.K β1 H1 β1 (upd H1 a (.ins (Cl d) dx (putF f v gs))) := Ext.mut hr1 hb hv trivial
          exact ⟨a, _, dx, gs, rfl, hv, hc, hn, by rw [← hrs.length]; exact hl, h β1 _ σ (x1.trans em) (hr1.mut hb hv trivial ⟨dx, _, upd_same, (putW_ok (rw.ext x1) hrs).ext em⟩) ((hs.ext x1).ext em)⟩
        · exact h.elim
      · exact h.elim
    · exact h.elim
/-- range(i, j, c) -/
@[simp] def mIRngC (a : MA) : MI := fun s st => (a s st).bind fun xs st1 => match xs with
  | [.int i, .int j, .int c] => if c ≠ 0 ∧ c.natAbs < 1073741824 ∧ Builtin.Range.small i j c = true ∧ 0 ≤ Builtin.Range.rangeSize i j c then .ok (.vals ((List.range (Builtin.Range.rangeSize i j c).toNat).map fun k => .int (i + (k : Nat) * c))) st1 else .stuck
  | _ => .stuck
theorem vals_three {K : PySem.W.Frag} {β : Bt} {H : Hp} {a b c : W} {vs : List V} (r : RVs K β H [a, b, c] vs) : ∃ x y z, vs = [x, y, z] ∧ RV K β H a x ∧ RV K β H b y ∧ RV K β H c z := by
  cases r with
  | cons r1 r => cases r with
    | cons r2 r => cases r with
      | cons r3 r => cases r; exact ⟨_, _, _, rfl, r1, r2, r3⟩
theorem ji_rngC {tg a b c : Expr} {p pos : Pos} {mr : MA} (hm : X.mg "range" = none) (ha : JA X Cl E [a, b, c] mr) (hg : Gl X "range" := by rfl)
    (hs : starEach [a, b, c] X.env = (false, eval a X.env) :: starEach [b, c] X.env := by rfl) (hpl : (backTo pos (starEach [b, c] X.env)).any (·.1) = false := by rfl) : JI X Cl E tg (.Call (.Name "range" p) [a, b, c] [] pos) (mIRngC mr) := by
  obtain ⟨t, pr, q⟩ := ha.ex
  refine ⟨_, pi_range3 hg hm pr hs hpl, fun β H σ s st R hr hs h => q β H σ s st _ hr hs (Out.bindI h fun x st1 β1 H1 v _ e1 hr1 rx h1 => ?_)⟩
  split at h1
  · split at h1
    · rename_i hz
      obtain ⟨u, w, y, rfl, ru, rw', ry⟩ := vals_three rx
      cases ru; cases rw'; cases ry
      exact ⟨_, _, _, _, rfl, ⟨hz.1, hz.2.1, hz.2.2.1, by have := hz.2.2.2; omega⟩, h1 β1 H1 _ (Ext.refl _ _ _) hr1 walkS_rngC⟩
    · exact h1.elim
  · exact h1.elim
/-- a statement that is never come to -/
@[simp] def mDead : MS := fun _ _ => .stuck
theorem js_dead {x : Stmt} : JS X Cl E x mDead := ⟨fun _ _ _ => False, ⟨fun _ _ _ _ _ _ h => h.elim⟩, fun _ _ _ _ _ _ _ _ h => h⟩
end
end Mi
/-! The mirror layer, part H: all, any, sum. -/
namespace Mi
open PySem L2
@[simp] def boolsW : List W → Option (List Bool)
  | [] => some []
  | .bl b :: ws => (boolsW ws).map (b :: ·)
  | _ => none
@[simp] def intsW : List W → Option (List Int)
  | [] => some []
  | .int b :: ws => (intsW ws).map (b :: ·)
  | _ => none
@[simp] def mAll : List W → Sto → Out W := fun xs st => match xs with
  | [x] => match asL x st with
    | some ws => match boolsW ws with
      | some bs => .ok (.bl (bs.all id)) st
      | none => .stuck
    | none => .stuck
  | _ => .stuck
@[simp] def mAny : List W → Sto → Out W := fun xs st => match xs with
  | [x] => match asL x st with
    | some ws => match boolsW ws with
      | some bs => .ok (.bl (bs.any id)) st
      | none => .stuck
    | none => .stuck
  | _ => .stuck
@[simp] def mSum : List W → Sto → Out W := fun xs st => match xs with
  | [x] => match asL x st with
    | some ws => match intsW ws with
      | some bs => .ok (.int bs.sum) st
      | none => .stuck
    | none => .stuck
  | _ => .stuck
section
variable {K : PySem.W.Frag} {β : Bt} {H : Hp}
theorem boolsW_ok : ∀ {ws : List W} {vs : List V} {bs : List Bool}, RVs K β H ws vs → boolsW ws = some bs → vs = bs.map V.bl
  | _, _, _, .nil, h => by cases h; rfl
  | _, _, _, .cons (w := w) (ws := ws) r rr, h => by
    cases w with
    | bl b =>
      simp only [boolsW, Option.map_eq_some_iff] at h
      obtain ⟨cs, h1, rfl⟩ := h
      cases r
      rw [boolsW_ok rr h1]; rfl
    | _ => cases h
theorem intsW_ok : ∀ {ws : List W} {vs : List V} {bs : List Int}, RVs K β H ws vs → intsW ws = some bs → vs = bs.map V.int
  | _, _, _, .nil, h => by cases h; rfl
  | _, _, _, .cons (w := w) (ws := ws) r rr, h => by
    cases w with
    | int b =>
      simp only [intsW, Option.map_eq_some_iff] at h
      obtain ⟨cs, h1, rfl⟩ := h
      cases r
      rw [intsW_ok rr h1]; rfl
    | _ => cases h
end
section
variable {X : Cx} {Cl : Nat → Addr} {E : XK}
theorem c_all (hc : X.calm = true) : CallR X (.builtin "all") (rAll X.K) ∧ SCal X.K Cl E (rAll X.K) mAll := by
  refine ⟨cr_all hc, fun β H st xs vs Q hr r h => ?_⟩
  unfold mAll at h
  split at h
  · split at h
    · rename_i ws el
      split at h
      · rename_i bs hb
        obtain ⟨v, rfl, rv⟩ := r.one
        obtain ⟨p, us, rfl, h1, r1⟩ := asL_ok hr rv el
        have e := boolsW_ok r1 hb
        subst e
        exact ⟨p, bs, rfl, h1, PoG.val h hr (.bl _)⟩
      · exact h.elim
    · exact h.elim
  · exact h.elim
theorem c_any (hc : X.calm = true) : CallR X (.builtin "any") (rAny X.K) ∧ SCal X.K Cl E (rAny X.K) mAny := by
  refine ⟨cr_any hc, fun β H st xs vs Q hr r h => ?_⟩
  unfold mAny at h
  split at h
  · split at h
    · rename_i ws el
      split at h
      · rename_i bs hb
        obtain ⟨v, rfl, rv⟩ := r.one
        obtain ⟨p, us, rfl, h1, r1⟩ := asL_ok hr rv el
        have e := boolsW_ok r1 hb
        subst e
        exact ⟨p, bs, rfl, h1, PoG.val h hr (.bl _)⟩
      · exact h.elim
    · exact h.elim
  · exact h.elim
theorem c_sum (hc : X.calm = true) : CallR X (.builtin "sum") (rSum X.K) ∧ SCal X.K Cl E (rSum X.K) mSum := by
  refine ⟨cr_sum hc, fun β H st xs vs Q hr r h => ?_⟩
  unfold mSum at h
  split at h
  · split at h
    · rename_i ws el
      split at h
      · rename_i bs hb
        obtain ⟨v, rfl, rv⟩ := r.one
        obtain ⟨p, us, rfl, h1, r1⟩ := asL_ok hr rv el
        have e := intsW_ok r1 hb
        subst e
        exact ⟨p, bs, rfl, h1, PoG.val h hr (.int _)⟩
      · exact h.elim
    · exact h.elim
  · exact h.elim
end
section
variable {X : Cx} {Cl : Nat → Addr} {E : XK}
/-- statements that are never come to -/
theorem jss_dead {x : List Stmt} : JSs X Cl E x mDead := ⟨fun _ _ _ => False, ⟨fun _ _ _ _ _ _ h => h.elim⟩, fun _ _ _ _ _ _ _ _ h => h⟩
end
end Mi
/-! The mirror layer, part I: enumerate over a list or a tuple. -/
namespace Mi
open PySem L2
theorem meets_enum1 {v : Value} {o : Obj} {H : Heap → Prop} (B : Begins v o H) :
    Meets (Builtin.«enumerate.__new__» ⟨[.type "enumerate", v], []⟩) (fun _ R s => H s.heap ∧
      R (.ok (.ret (.ref (s.heap.push o).objs.size))) { s with heap := (s.heap.push o).push { cls := .type "enumerate", data := .fields #[.none, .bool false, .ref s.heap.objs.size, rawInt 0, .none, .none] } }) :=
  .of_wp fun prog w A R s h => by
    obtain ⟨hp, g, d, tk, os⟩ := s; obtain ⟨h1, h⟩ := h
    have hsub := sub_enumerate
    have q1 : ∀ {A' : Around} {E : Value → Shared → Prop} {Q : Value → Shared → Prop}, Q (.ref hp.objs.size) ⟨hp.push o, g, d, tk, os⟩ → wpAny (model prog w) A' (pyIter v) Q E ⟨hp, g, d, tk, os⟩ :=
      fun q => B.iter prog w _ _ ⟨hp, g, d, tk, os⟩ _ h1 q
    wp_walk using q1
    refine wpAny_stack_any fun st => wpAny_pure ?_
    split
    · rename_i c _ _ _ _ _
      cases (c == Value.type "enumerate")
      · wp_walk using q1
        exact ⟨_, rfl, h⟩
      · wp_walk using q1
        exact ⟨_, rfl, h⟩
    · wp_walk using q1
      exact ⟨_, rfl, h⟩
section
variable {prog : Program} {w : World} {A : Around} {E : Value → Shared → Prop} {s : Shared}
theorem enum_begins1 {v : Value} {o : Obj} {H : Heap → Prop} {Q : Value → Shared → Prop} (B : Begins v o H) (h1 : H s.heap)
    (h : ∀ h', IsEnum h' (s.heap.objs.size + 1) s.heap.objs.size 0 .none → h'.get? s.heap.objs.size = some o → h'.objs.size = s.heap.objs.size + 2 →
      (∀ b o, s.heap.get? b = some o → h'.get? b = some o) → Q (.ref (s.heap.objs.size + 1)) { s with heap := h' }) :
    wpAny (model prog w) A (call (.type "enumerate") [v]) Q E s := by
  refine callType_new F.called_enumerate (by decide) (F.typeCall_enumerate_1 _) (F.newCall_enumerate_1 _) (fun obj => F.args_object_init_2 obj _) F.entry_enumerate_new
    (meets_enum1 B) ⟨h1, ?_⟩
  have hz : (s.heap.push o).objs.size = s.heap.objs.size + 1 := Heap.size_push ..
  show _ ∧ _
  rw [hz]
  have he : IsEnum ((s.heap.push o).push
      { cls := .type "enumerate", data := .fields #[.none, .bool false, .ref s.heap.objs.size, rawInt 0, .none, .none] }) (s.heap.objs.size + 1) s.heap.objs.size 0 .none := by
    have := Heap.get?_push_size (s.heap.push o)
      (o := { cls := .type "enumerate", data := .fields #[.none, .bool false, .ref s.heap.objs.size, rawInt 0, .none, .none] }) rfl
    rw [hz] at this; exact this
  exact ⟨⟨_, he, rfl⟩, h _ he (Heap.get?_push_of_some _ (Heap.get?_push_size _ B.free)) (by rw [Heap.size_push, hz]) fun b o x => Heap.get?_push_of_some _ (Heap.get?_push_of_some _ x)⟩
end
/-- the tuple at a, the items in new pairs -/
def IteT (K : PySem.W.Frag) (a : Addr) : It :=
  ⟨fun i H => ∃ (xs : List V) (x : V), SqT K H a xs ∧ xs[i]? = some x, fun i H v H' => ∃ T x, v = .ref T ∧ H T = none ∧ H' = upd H T (.tup [.int (i : Nat), x]) ∧ ∀ xs, SqT K H a xs → xs[i]? = some x, fun i H => ∃ xs : List V, SqT K H a xs ∧ xs.length ≤ i⟩
theorem turn_enumT {P : Program} {w : World} {K : PySem.W.Frag} {elts : List Expr} {kk : Nat} {tpos : Pos} (a e it : Addr) (hat : a ≠ it) (hae : a ≠ e) :
    Turn P w K (.Tuple elts kk tpos) (IteT K a) [e, it] e (fun i h => (∃ old, IsEnum h e it ((i : Nat) : Int) old) ∧ h.IsTupleIter it a i ∧ e ≠ it) where
  mem := by simp
  obj := fun i h st b hb => by
    obtain ⟨⟨old, he⟩, ⟨o, ho, hc, hd⟩, _⟩ := st
    have e' : b = e ∨ b = it := by simpa using hb
    rcases e' with z | z
    · rw [z]; exact ⟨_, he, fun v q => nomatch q⟩
    · rw [z]; exact ⟨o, ho, fun v q => by rw [hd] at q; cases q⟩
  keep := fun i h h' st k => let ⟨⟨old, he⟩, hi, hne⟩ := st; ⟨⟨old, k e (by simp) _ he⟩, hi.at fun o q => k it (by simp) o q, hne⟩
  item := by
    intro X hP hw hK hc i pins s σ H E I hf st hg
    subst hP hw hK
    obtain ⟨⟨old, he⟩, hit, hne⟩ := st
    obtain ⟨xs, x, hq, hx⟩ := hg
    obtain ⟨its, rv, p, hz⟩ := I.tuple hq
    obtain ⟨u, hu, ru⟩ := rv.get hx
    have hel : e < s.heap.objs.size := Heap.lt_size he
    have hil : it < s.heap.objs.size := by obtain ⟨_, q, _⟩ := hit; exact Heap.lt_size q
    have hi' : i < its.toArray.size := by
      have := (List.getElem?_eq_some_iff.mp hu).1
      simpa using this
    refine wpAny_pyNext_enum_itemD (Draws.tuple (show X.A.in1.handled = none from I.ok.hd hc) it a hat its.toArray) he ⟨hit, show s.heap.IsTuple a its.toArray from p⟩ hi' hne (by simp [hne, Ne.symm hae]) fun y h' tk hy ho hit' hT hsz hk => ?_
    have hyu : y = u := by
      have z : its[i]? = some y := by simpa using hy
      rw [hu] at z
      exact (Option.some.inj z).symm
    subst hyu
    refine ⟨_, rfl, wpAny_letOwnedTupleGo_enum (s := { s with heap := h', toks := tk + 1 }) ho fun h'' he' sb => ?_⟩
    have hT2 : h''.get? s.heap.objs.size = some { cls := .type "tuple", data := .seq #[.int i tk, y] } := (sb.2 _ (Nat.ne_of_gt hel)).trans hT
    have new : ObjOk X.prog X.w (upd H s.heap.objs.size (.tup [.int (i : Nat), x])) h'' s.heap.objs.size (.tup [.int (i : Nat), x]) :=
      ⟨by show 2 ≤ sizeLine; decide, [.int i tk, y], .cons ⟨_, rfl⟩ (.cons ru .nil), ⟨_, hT2, rfl, _, rfl⟩⟩
    have I1 : Inv X pins σ (upd H s.heap.objs.size (.tup [.int (i : Nat), x])) { s with heap := h'', toks := tk + 1 } :=
      I.turnedNew (ch := [e, it]) (fun b ob hb q => (sb.2 b (fun z => hb (by simp [z]))).trans (hk b ob (fun z => hb (by simp [z])) (fun z => hb (by simp [z])) q)) hf (Nat.le_refl _) new
    refine ⟨.ref s.heap.objs.size, _, I1, rfl, ⟨_, x, rfl, I.hok.fresh (Nat.le_refl _), rfl, fun ys hy => by rw [I.tuple_inj hy hq]; exact hx⟩, ⟨⟨y, ?_⟩, hit'.1.at fun o q => (sb.2 it (Ne.symm hne)).trans q, hne⟩, fun b hb => ?_⟩
    · have e1 : ((i + 1 : Nat) : Int) = (i : Int) + 1 := by omega
      rw [e1]; exact he'
    · have hb' : b < s.heap.objs.size := by
        have e' : b = e ∨ b = it := by simpa using hb
        rcases e' with z | z
        · rw [z]; exact hel
        · rw [z]; exact hil
      rw [upd_ne (Nat.ne_of_lt hb')]
      exact (hf b hb).1
  done := by
    intro X hP hw hK hc i pins s σ H E I hf st hg
    subst hP hw hK
    obtain ⟨⟨old, he⟩, hit, hne⟩ := st
    obtain ⟨xs, hq, hx⟩ := hg
    obtain ⟨its, rv, p, hz⟩ := I.tuple hq
    obtain ⟨f0, f1, f2, f3, f4, f5⟩ := hf it (by simp)
    have hl := rv.length
    have hT : s.TypeIs (.ref e) "enumerate" := ⟨_, he, rfl⟩
    unfold pyNext
    refine wpAny_bind (wpAny_attempt (wpAny_callSpecial?_slot (name := Str.ofString "__next__") hT F.slot_enumerate_next
      (wpAny_call_entry F.slot_enumerate_next hT F.entry_enumerate_next ?_ (F.args_enumerate_next_1 _))))
    show wpAny _ _ (field (.ref e) 2 >>= _) _ _ _
    refine wpAny_bind (wpAny_field he rfl (x := .ref it) rfl ?_)
    refine wpAny_bind (wpAny_nextOf_tuple_end (show X.A.in1.handled = none from I.ok.hd hc) hit (show s.heap.IsTuple a its.toArray from p) (by simp; omega) fun h' x he' hx' => ?_)
    obtain ⟨o, ho, hc⟩ := hx'
    refine wpAny_bind (wpAny_isInstance (T := "StopIteration") (b := true) ⟨o, ho, hc⟩ isSubtype_stop ?_)
    exact wpAny_pure ⟨rfl, I.turned (t' := s.toks) (fun b o hb q => he' b o hb q) f0 f1 f3 f4 f5⟩
  self := fun A i s Q E st h => let ⟨⟨_, he⟩, _⟩ := st; wpAny_pyIter_enum he h
theorem walk_enumT {K : PySem.W.Frag} {a : Addr} {xs : List V} : Walk (IteT K a) xs.length (fun H => SqT K H a xs) (YPair (fun i => some (.int (i : Nat))) (fun i => xs[i]?)) := by
  refine ⟨fun i _ hi q => ⟨xs, xs[i], q, by simp [hi]⟩, fun _ q => ⟨xs, q, Nat.le_refl _⟩, fun i H v H' _ q y => ?_⟩
  obtain ⟨T, x, h1, h2, h3, h4⟩ := y
  exact ⟨T, .int (i : Nat), x, h1, h2, h3, rfl, h4 xs q⟩
def iEnumB (K : PySem.W.Frag) (ta : TA) : TI := fun σ H R => ta σ H fun vs H1 => ∃ a, vs = [.ref a] ∧ ((∃ xs, SqL K H1 a xs ∧ R (Ite K a) H1) ∨ ∃ xs, SqT K H1 a xs ∧ R (IteT K a) H1)
open PyProof.Rows in
theorem pi_enumB {X : Cx} {e : Expr} {ta : TA} {p pos tpos : Pos} {elts : List Expr} {kk : Nat} (hg : Gl X "enumerate") (hm : X.mg "enumerate" = none) (ha : PA X [e] ta) (hs : starEach [e] X.env = [(false, eval e X.env)] := by rfl) :
    PI X (.Tuple elts kk tpos) (.Call (.Name "enumerate" p) [e] [] pos) (iEnumB X.K ta) := by
  refine ⟨fun pins s σ H R I h => ?_⟩
  refine Call_ (ld_blt I hg hm boot_enumerate (PyProof.Rows.callWith_type1 (thn (ha.run pos pins s σ H _ I h) fun us s1 ⟨vs, H1, I1, r1, q1⟩ => ?_) hs rfl))
  obtain ⟨a, ex, q1⟩ := q1
  subst ex
  have fp : ∀ {h' : Heap} (I2 : Inv X pins σ H1 { s1 with heap := h' }), ∀ b ∈ [s1.heap.objs.size + 1, s1.heap.objs.size], s1.heap.objs.size ≤ b := fun _ b hb => by
    have e' : b = s1.heap.objs.size + 1 ∨ b = s1.heap.objs.size := by simpa using hb
    rcases e' with z | z
    · rw [z]; exact Nat.le_add_right _ _
    · rw [z]; exact Nat.le_refl _
  cases r1 with
  | cons r rr =>
    cases rr
    cases r
    rcases q1 with ⟨xs, hq, q⟩ | ⟨xs, hq, q⟩
    · obtain ⟨its, rv, p', hz⟩ := I1.list hq
      refine call_enumerate_list p'.isList fun h' he hit hsz hk => wpAny_pyIter_enum he ?_
      have I2 : Inv X pins σ H1 { s1 with heap := h' } := I1.kept (t' := s1.toks) hk
      refine ⟨s1.heap.objs.size + 1, [s1.heap.objs.size + 1, s1.heap.objs.size], _, _, H1, rfl, I2, turn_enum a (s1.heap.objs.size + 1) s1.heap.objs.size, ⟨⟨.none, he⟩, hit, Nat.succ_ne_self _⟩, fun b hb => ?_, q⟩
      have hle := fp I2 b hb
      exact I1.fpOk hle (I1.hok.fresh hle)
    · obtain ⟨its, rv, p', hz⟩ := I1.tuple hq
      have hal : a < s1.heap.objs.size := by obtain ⟨_, z, _⟩ := p'; exact Heap.lt_size z
      refine enum_begins1 (begins_tuple a its.toArray) p' fun h' he hit hsz hk => wpAny_pyIter_enum he ?_
      have I2 : Inv X pins σ H1 { s1 with heap := h' } := I1.kept (t' := s1.toks) hk
      refine ⟨s1.heap.objs.size + 1, [s1.heap.objs.size + 1, s1.heap.objs.size], _, _, H1, rfl, I2, turn_enumT a (s1.heap.objs.size + 1) s1.heap.objs.size (Nat.ne_of_lt hal) (Nat.ne_of_lt (Nat.lt_succ_of_lt hal)), ⟨⟨.none, he⟩, ⟨_, hit, rfl, rfl⟩, Nat.succ_ne_self _⟩, fun b hb => ?_, q⟩
      have hle := fp I2 b hb
      exact I1.fpOk hle (I1.hok.fresh hle)
@[simp] def mIEnum2 (a : MA) : MI := fun s st => (a s st).bind fun xs st1 => match xs with
  | [.lst ws] => .ok (.vals ((List.range ws.length).map fun i => .tup [.int (i : Nat), ws.getD i .non])) st1
  | [.xst ws] => .ok (.vals ((List.range ws.length).map fun i => .tup [.int (i : Nat), ws.getD i .non])) st1
  | [.tup ws] => .ok (.vals ((List.range ws.length).map fun i => .tup [.int (i : Nat), ws.getD i .non])) st1
  | _ => .stuck
section
variable {X : Cx} {Cl : Nat → Addr} {E : XK}
theorem walkS_en {K : PySem.W.Frag} {β : Bt} {H : Hp} {J : It} {G : Hp → Prop} {ws : List W} {vs : List V} (wk : Walk J vs.length G (YPair (fun i => some (.int (i : Nat))) (fun i => vs[i]?))) (hG : ∀ β' H', Ext K β H β' H' → G H') (r : RVs K β H ws vs) :
    WalkS K Cl β H J (.vals ((List.range ws.length).map fun i => .tup [.int (i : Nat), ws.getD i .non])) := by
  refine ⟨G, _, (show Walk J ((List.range ws.length).map fun i => W.tup [.int (i : Nat), ws.getD i .non]).length _ _ from by rw [List.length_map, List.length_range, r.length]; exact wk), fun β' H' st e hr _ => hG β' H' e, fun i H1 x H2 β1 st w e hr hw y => ?_⟩
  obtain ⟨T, a, b, rfl, hT, rfl, ha, hb⟩ := y
  have hw' : ((List.range ws.length).map fun i => W.tup [.int (i : Nat), ws.getD i .non])[i]? = some w := hw
  rw [List.getElem?_map] at hw'
  by_cases hi : i < ws.length
  · rw [List.getElem?_range hi] at hw'
    cases hw'
    cases ha
    obtain ⟨v, hv, rv⟩ := r.get (show ws[i]? = some ws[i] from List.getElem?_eq_getElem hi)
    have hb' : vs[i]? = some b := hb
    have hbv : b = v := by rw [hb'] at hv; exact Option.some.inj hv
    subst hbv
    have eg : ws.getD i .non = ws[i] := by simp [List.getD, hi]
    refine ⟨Ext.new hT, hr.new hT, ?_⟩
    show RV K β1 _ (W.tup [W.int (i : Nat), ws.getD i W.non]) (V.ref T)
    rw [eg]
    exact RV.newT hT (.cons (.int _) (.cons (rv.ext e) .nil))
  · rw [List.getElem?_eq_none (by simp; omega)] at hw'
    cases hw'
theorem ji_enum {e : Expr} {mr : MA} {p pos tpos : Pos} {elts : List Expr} {kk : Nat} (hm : X.mg "enumerate" = none) (ha : JA X Cl E [e] mr) (hg : Gl X "enumerate" := by rfl) (hs : starEach [e] X.env = [(false, eval e X.env)] := by rfl) :
    JI X Cl E (.Tuple elts kk tpos) (.Call (.Name "enumerate" p) [e] [] pos) (mIEnum2 mr) := by
  obtain ⟨t, pr, q⟩ := ha.ex
  refine ⟨_, pi_enumB hg hm pr hs, fun β H σ s st R hr hs h => q β H σ s st _ hr hs (Out.bindI h fun x st1 β1 H1 v _ e1 hr1 rx h1 => ?_)⟩
  split at h1
  · obtain ⟨u, rfl, ru⟩ := rx.one
    cases ru with
    | lst hv hn r1 => exact ⟨_, rfl, .inl ⟨_, SqL.of hv, h1 β1 H1 _ (Ext.refl _ _ _) hr1 (walkS_en walk_enum (fun β' H' e => SqL.of (e.lst _ _ hv hn).1) r1)⟩⟩
  · obtain ⟨u, rfl, ru⟩ := rx.one
    cases ru with
    | xst hv r1 => exact ⟨_, rfl, .inl ⟨_, KL.sq hv, h1 β1 H1 _ (Ext.refl _ _ _) hr1 (walkS_en walk_enum (fun β' H' e => KL.sq (hv.imp (fun x => x) fun ⟨o, x⟩ => ⟨o, e.frz _ _ _ x⟩)) r1)⟩⟩
  · obtain ⟨u, rfl, ru⟩ := rx.one
    cases ru with
    | tup hv r1 => exact ⟨_, rfl, .inr ⟨_, hv, h1 β1 H1 _ (Ext.refl _ _ _) hr1 (walkS_en walk_enumT (fun β' H' e => e.tup _ _ hv) r1)⟩⟩
  · exact h1.elim
end
end Mi
/-! The mirror layer, part J: dicts with tuple keys. -/
namespace Mi
open PySem PySem.W PySem.Calls PyProof.Rows PyProof.V PySem.Spec L2

section
variable {X : Cx}
def rSetdefT : V → List V → Hp → VK → Prop := fun x xs H Q => ∃ (a : Addr) (kvs : List (List L2.Key × V)) (k : List L2.Key) (b : Addr) (d : V), x = .ref a ∧ xs = [.ref b, d] ∧ H a = some (.dT kvs) ∧ H b = some (.tup (k.map kV)) ∧ kvs.length < sizeLine ∧
  (∀ v, valV kvs k = some v → Q v H) ∧ (valV kvs k = none → Q d (upd H a (.dT (putK kvs k d))))
theorem mt_setdefT (hu : X.A.units + 1 < cLine) : MtR X "dict.setdefault" rSetdefT := by
  intro pins s σ H x xs v us Q I rx rxs h
  obtain ⟨a, kvs, k, b, d, rfl, rfl, ha, hb, hlt, q1, q2⟩ := h
  cases rx
  obtain ⟨u1, u2, rfl, r1, r2⟩ := vals2 rxs
  cases r1
  obtain ⟨z, hd, xs', rel, dd⟩ := dt_of I.hok ha
  have hz : xs'.length ≤ sizeLine := by rw [← Paired.length rel]; exact z
  refine call_meetsIn PySem.F.slot_dict_setdefault dd.typeIs PySem.F.entry_dict_setdefault (PySem.F.args_dict_setdefault_3 _ _ _) (meetsH_dict_setdefault (tupleKind (mixKind X.prog X.w)) a b hd u2)
    ⟨tupleKind_room_in1 hu, k, xs', key_of I.hok hb, dd, hz, fun p hp => ?_, fun hn h' dd' hs => ?_⟩
  · have r := rel.val k
    rw [hp] at r
    obtain ⟨v0, ev, rv⟩ : ∃ v0, valV kvs k = some v0 ∧ RelV v0 p.2 := by
      cases ev : valV kvs k with
      | none =>
        rw [ev] at r
        exact (show False from r).elim
      | some v0 =>
        rw [ev] at r
        exact ⟨v0, rfl, r⟩
    show EP X pins σ Q p.2 _
    exact ⟨v0, H, I.tok _, rv, q1 v0 ev⟩
  · have r := rel.val k
    rw [hn] at r
    have e : valV kvs k = none := by
      cases ev : valV kvs k with
      | none => rfl
      | some v0 =>
        rw [ev] at r
        exact (show False from r).elim
    obtain ⟨o, es, ep, hq, h2, h3, h4, _, h5⟩ := dd'
    have hl : (putK kvs k d).length ≤ sizeLine := by have := length_putK kvs k d; omega
    have I2 : Inv X pins σ (upd H a (.dT (putK kvs k d))) { s with heap := h', toks := s.toks + (tupleKind (mixKind X.prog X.w)).draws k } :=
      d_write I (by rw [ha]; exact True.intro) hs ⟨o, hq⟩ ⟨hl, hd, _, (rel.put k hb r2).keeps (fun c ys ec => (by rw [upd_ne (ne_of ec ha (fun z => nomatch z))]; exact ec)), o, es, ep, hq, h2, h3, h4, h5⟩
    show EP X pins σ Q u2 _
    exact ⟨d, _, I2, r2, q2 e⟩
end

@[simp] def keysT : List W → Option (List Key)
  | [] => some []
  | w :: r => match toKey w, keysT r with
    | some k, some ks => some (k :: ks)
    | _, _ => none
theorem keysT_ok {K : PySem.W.Frag} {β : Bt} {H : Hp} : ∀ {ws : List W} {vs : List V} {ks : List Key}, RVs K β H ws vs → keysT ws = some ks → vs = ks.map kV
  | _, _, ks, .nil, h => by simp only [keysT] at h; cases h; rfl
  | _, _, ks, .cons (w := w) (ws := ws) r1 r, h => by
    unfold keysT at h
    split at h
    · rename_i k ks' e1 e2
      cases h
      rw [toKey_ok r1 e1, keysT_ok r e2]
      rfl
    · cases h
/-- {} , a dict with tuple keys -/
@[simp] def mDNewT : ME := fun _ st => .ok (.ref st.length) (st ++ [.dT []])
/-- d.setdefault((..), []) -/
@[simp] def mSetDef (o : ME) (a : MA) : ME := fun s st => (o s st).bind fun x st1 => match x with
  | .ref r => match st1[r]? with
    | some (.dT _) => (a s st1).bind fun ks st2 => match st2[r]?, keysT ks with
      | some (.dT kvs), some k => if kvs.length < sizeLine ∧ ks.length ≤ sizeLine then match valW kvs k with
          | some w => .ok w st2
          | none => .ok (.ref st2.length) ((st2 ++ [Ob.lst []]).set r (.dT (putKW kvs k (.ref st2.length))))
        else .stuck
      | _, _ => .stuck
    | _ => .stuck
  | _ => .stuck
section
variable {X : Cx} {Cl : Nat → Addr} {E : XK} {pos p : Pos}
theorem je_dnewT : JE X Cl E (.Dict [] [] pos) mDNewT :=
  ⟨_, pe_dnewT, fun β H σ s st Q hr hs h p hp => h _ _ _ (Ext.push hp) (hr.push hp ⟨[], upd_same, .nil⟩) (.ref (by rw [← hr.len]; exact push_last))⟩
theorem je_setdef {o : Expr} {es : List Expr} {k : Nat} {tpos lpos apos cpos : Pos} {mo : ME} {mr : MA} (hu : X.A.units + 1 < cLine)
    (ho : JE X Cl E o mo) (ha : JA X Cl E es mr)
    (hbase : attributeBase o "setdefault" X.env (eval o X.env) = eval o X.env := by rfl)
    (hfew : ((backTo cpos (starEach [.Tuple es k tpos, .List [] lpos] X.env)).all (fun x => !x.1) && (backToKw cpos (keywordEach [] X.env)).all (fun x => x.1.isSome) && decide ([Expr.Tuple es k tpos, .List [] lpos].length + ([] : List Keyword).length + (if ([] : List Keyword).isEmpty then 0 else 1) < 30)) = true := by rfl)
    (hline : (apos.endLine == cpos.line) = true := by rfl)
    (hs : starEach [.Tuple es k tpos, .List [] lpos] X.env = (false, eval (.Tuple es k tpos) X.env) :: starEach [.List [] lpos] X.env := by rfl)
    (hs2 : starEach [.List [] lpos] X.env = (false, eval (.List [] lpos) X.env) :: starEach [] X.env := by rfl)
    (hplain : (backTo cpos (starEach [.List [] lpos] X.env)).any (·.1) = false := by rfl) :
    JE X Cl E (.Call (.Attribute o "setdefault" apos) [.Tuple es k tpos, .List [] lpos] [] cpos) (mSetDef mo mr) := by
  obtain ⟨_, p1, q1⟩ := ho.ex
  obtain ⟨_, p2, q2⟩ := ha.ex
  refine ⟨_, pe_bm F.plainAttrs_dict F.slot_dict_setdefault F.type_dict_setdefault (mt_setdefT hu) p1 (pa_cons (pe_tup p2) (pa_cons (pe_lst pa_nil) pa_nil hs2) hs) hbase hfew hline hs hplain, fun β H σ s st Q hr hs h => q1 β H σ s st _ hr hs (h.bind fun x st1 β1 H1 v _ e1 hr1 rx1 h1 => ?_)⟩
  cases x with
  | ref r =>
    simp only at h1
    split at h1
    · rename_i kv0 es1
      have ty : tyV X.K "dict" v H1 := by
        obtain ⟨a, rfl, _, gs, hg, _⟩ := rx1.atRef hr1 es1 (by intro z; cases z)
        exact .inr (.inr (.inl ⟨rfl, .inr ⟨gs, hg⟩⟩))
      refine ⟨ty, q2 β1 H1 σ s st1 _ hr1 (hs.ext e1) (h1.bind fun ks st2 β2 H2 vs _ e2 hr2 rk h2 => ?_)⟩
      have rx2 := rx1.ext e2
      split at h2
      · rename_i kvs k es2 ek
        split at h2
        · rename_i hz
          have evs := keysT_ok rk ek
          refine ⟨by rw [← rk.length]; exact hz.2, fun p hp => ?_⟩
          refine ⟨Nat.zero_le _, fun l hl => ?_⟩
          have e3 : Ext X.K β2 H2 β2 (upd H2 p (.tup vs)) := Ext.new hp
          have hr3 : HR X.K Cl β2 (upd H2 p (.tup vs)) st2 := hr2.new hp
          have hpl : p ≠ l := fun z => by subst z; rw [upd_same] at hl; cases hl
          have hkey : ∀ (o : HO), (upd (upd H2 p (.tup vs)) l o) p = some (.tup (k.map kV)) := fun o => by rw [upd_ne hpl, upd_same, evs]
          cases ew : valW kvs k with
          | some w =>
            rw [ew] at h2
            have e4 : Ext X.K β2 (upd H2 p (.tup vs)) β2 (upd (upd H2 p (.tup vs)) l (.lst [])) := Ext.new hl
            have hr4 : HR X.K Cl β2 (upd (upd H2 p (.tup vs)) l (.lst [])) st2 := hr3.new hl
            obtain ⟨a, rfl, hb, gs, hg, hrs⟩ := ((rx2.ext e3).ext e4).atRef hr4 es2 (by intro z; cases z)
            obtain ⟨v', hv', rv'⟩ := hrs.val ew
            refine ⟨a, gs, k, p, _, rfl, rfl, hg, hkey _, by rw [← hrs.length]; exact hz.1, fun v0 e0 => ?_, fun e0 => by rw [hv'] at e0; cases e0⟩
            rw [hv'] at e0; cases e0
            exact h2 β2 _ _ (e3.trans e4) hr4 rv'
          | none =>
            rw [ew] at h2
            have e4 : Ext X.K β2 (upd H2 p (.tup vs)) (β2.push l) (upd (upd H2 p (.tup vs)) l (.lst [])) := Ext.push hl
            have hr4 : HR X.K Cl (β2.push l) (upd (upd H2 p (.tup vs)) l (.lst [])) (st2 ++ [.lst []]) := hr3.push hl ⟨[], upd_same, .nil⟩
            have hlt : r < st2.length := (List.getElem?_eq_some_iff.mp es2).1
            have es4 : (st2 ++ [Ob.lst []])[r]? = some (.dT kvs) := by rw [List.getElem?_append_left hlt]; exact es2
            obtain ⟨a, rfl, hb, gs, hg, hrs⟩ := ((rx2.ext e3).ext e4).atRef hr4 es4 (by intro z; cases z)
            have em : Ext X.K (β2.push l) _ (β2.push l) (upd (upd (upd H2 p (.tup vs)) l (.lst [])) a (.dT (putK gs k (.ref l)))) := Ext.mut hr4 hb hg trivial
            have rl : RV X.K (β2.push l) (upd (upd H2 p (.tup vs)) l (.lst [])) (.ref st2.length) (.ref l) := .ref (by rw [← hr3.len]; exact push_last)
            refine ⟨a, gs, k, p, _, rfl, rfl, hg, hkey _, by rw [← hrs.length]; exact hz.1, ⟨fun v0 e0 => (by rw [hrs.valN ew] at e0; cases e0), fun _ => ?_⟩⟩
            exact h2 (β2.push l) _ _ ((e3.trans e4).trans em) (hr4.mut hb hg trivial ⟨_, upd_same, (hrs.put k rl).ext em⟩) (rl.ext em)
        · exact h2.elim
      · exact h2.elim
    · exact h1.elim
  | _ => exact h1.elim
end
end Mi
/-! The mirror layer, part K: the values of a dict with tuple keys walked (the dict locked). -/
namespace Mi
open PySem PySem.W PySem.Calls PyProof.Rows PyProof.V PySem.Spec L2
def Itdt (d : Addr) (o : Obj) (kvs : List (List Key × V)) : It :=
  ⟨fun i H => H d = some (.frz o (.dT kvs)) ∧ i < kvs.length, fun i H x H' => H' = H ∧ ∃ k, kvs[i]? = some (k, x), fun i H => H d = some (.frz o (.dT kvs)) ∧ kvs.length ≤ i⟩
section
variable {X : Cx} {pins : List (Addr × Obj)} {σ : L2.St} {H : Hp} {s : Shared} {d : Addr} {o : Obj}
theorem frzTv {kvs : List (List Key × V)} (I : Inv X pins σ H s) (h : H d = some (.frz o (.dT kvs))) :
    (d == sysModules) = false ∧ s.heap.get? d = some o ∧ o.ExactDict ∧ ∃ (es : Array DictEntry) (ep : Nat), o.data = .dict es ep ∧ es.size = kvs.length ∧
      ∀ (i : Nat) (k : List Key) (v : V), kvs[i]? = some (k, v) → ∃ (en : DictEntry), es[i]? = some en ∧ RelV v en.val := by
  obtain ⟨hd, z, hs, xs, pr, o', es, ep, ho, hx, hdt, he, _⟩ := I.hok d _ h
  rw [hd] at ho
  cases ho
  refine ⟨hs, hd, hx, es, ep, hdt, ?_, fun i k v e => ?_⟩
  · have l1 : es.size = xs.length := size_of_entries he
    have l2 : kvs.length = xs.length := Paired.length pr
    omega
  · obtain ⟨b, hb, e1, e2, e3⟩ := paired_get pr e
    have q := entry_at he i
    rw [hb] at q
    exact ⟨_, q, e3⟩
end
section
variable {P : Program} {w : World} {K : PySem.W.Frag} {tg : Expr} {d : Addr} {o : Obj} {es : Array DictEntry} {ep : Nat}
theorem turn_valsT {kvs : List (List Key × V)} (it : Addr) (hod : o.data = .dict es ep) : Turn P w K tg (Itdt d o kvs) [it] it (fun i h => h.IsValIter it d i kvs.length ep) where
  mem := by simp
  obj := fun i h st b hb => by
    have e : b = it := by simpa using hb
    subst e
    obtain ⟨oi, e, c, dd⟩ := st
    exact ⟨oi, e, fun v z => by rw [dd] at z; cases z⟩
  keep := fun i h h' st k => st.at fun oi e => k it (by simp) oi e
  item := by
    intro X hP hw hK hc i pins s σ H E I hf st hg
    subst hP hw hK
    obtain ⟨hd, hi⟩ := hg
    obtain ⟨f0, f1, f2, f3, f4, f5⟩ := hf it (by simp)
    obtain ⟨hs, hgd, hx, es', ep', hdt, hsz, ent⟩ := frzTv I hd
    obtain ⟨rfl, rfl⟩ := dict_ep hod hdt
    obtain ⟨⟨k, v⟩, hkv⟩ : ∃ p, kvs[i]? = some p := ⟨kvs[i], List.getElem?_eq_getElem hi⟩
    obtain ⟨en, hen, ru⟩ := ent i k v hkv
    obtain ⟨hil, hie⟩ := Array.getElem?_eq_some_iff.mp hen
    rw [← hsz] at st
    refine wpAny_pyNext_values_item_raw st ⟨o, hgd, hx, hdt⟩ hil fun h' st' sb => ?_
    have I1 : Inv X pins σ H { s with heap := h' } := I.turned (t' := s.toks) (fun b ob hb e => (sb.2 b hb).trans e) f0 f1 f3 f4 f5
    obtain ⟨oi, e, c, dd⟩ := id st'
    rw [hie]
    refine ⟨en.val, rfl, go_of (s := { s with heap := h' }) e c dd (by decide) ⟨v, H, I1, ru, ⟨rfl, k, hkv⟩, ?_, fun b hb => (hf b hb).1⟩⟩
    show h'.IsValIter it d (i + 1) kvs.length _
    rw [← hsz]
    exact st'
  done := by
    intro X hP hw hK hc i pins s σ H E I hf st hg
    subst hP hw hK
    obtain ⟨hd, hi⟩ := hg
    obtain ⟨f0, f1, f2, f3, f4, f5⟩ := hf it (by simp)
    obtain ⟨hs, hgd, hx, es', ep', hdt, hsz, ent⟩ := frzTv I hd
    obtain ⟨rfl, rfl⟩ := dict_ep hod hdt
    rw [← hsz] at st
    exact wpAny_pyNext_values_end_raw (I.ok.hd hc) st ⟨o, hgd, hx, hdt⟩ (by omega) fun h' eb => ⟨rfl, I.turned (t' := s.toks) (fun b ob hb e => eb b ob hb e) f0 f1 f3 f4 f5⟩
  self := fun A i s Q E st h => wpAny_pyIter_valiter st h
end
def iValsT (td : TE) : TI := fun σ H R => td σ H fun x H1 => ∃ d o kvs, x = .ref d ∧ H1 d = some (.frz o (.dT kvs)) ∧ R (Itdt d o kvs) H1
theorem pi_valuesT {X : Cx} {tg e : Expr} {td : TE} {apos cpos : Pos} (he : PE X e td) (hbase : attributeBase e "values" X.env (eval e X.env) = eval e X.env := by rfl) (hline : (apos.endLine == cpos.line) = true := by rfl) : PI X tg (.Call (.Attribute e "values" apos) [] [] cpos) (iValsT td) := by
  refine ⟨fun pins s σ H R I h => ?_⟩
  refine wpAny_Call_method (T := "dict") (id := "dict.values") hbase rfl hline F.plainAttrs_dict F.slot_dict_values F.type_dict_values (thn (he.run pins s σ H _ I h) fun u s1 ⟨x, H1, I1, rx, d, o, kvs, ex, hd, q⟩ => ?_)
  subst ex
  obtain rfl : u = Value.ref d := rx
  obtain ⟨hs, hgd, hx, es, ep, hdt, hsz, ent⟩ := frzTv I1 hd
  have hraw : s1.heap.DictRaw d es ep := ⟨o, hgd, hx, hdt⟩
  have hty : s1.TypeIs (.ref d) "dict" := ⟨o, hgd, hx.1⟩
  refine ⟨hty, ?_, ?_⟩
  · intro a ea; cases ea; exact ⟨o, hgd, hx.2.1⟩
  have I2 : Inv X pins σ H1 { s1 with heap := s1.heap.push { cls := .type "dict_values", data := .fields #[.ref d] } } := I1.kept (t' := s1.toks) fun b ob q => Heap.get?_push_of_some _ q
  have fin : wpAny (model X.prog X.w) X.A (pyIter (.ref s1.heap.objs.size)) (PIE X pins σ tg R) X.xe { s1 with heap := s1.heap.push { cls := .type "dict_values", data := .fields #[.ref d] } } := by
    refine wpAny_pyIter_values_raw (d := d) (es := es) (ep := ep) ⟨_, Heap.get?_push_size _ rfl, rfl, rfl⟩ ⟨o, Heap.get?_push_of_some _ hgd, hx, hdt⟩ (pi_one (tk := s1.toks) I2 _ (turn_valsT _ hdt) ⟨_, Heap.get?_push_size _ rfl, rfl, ?_⟩ q)
    rw [hsz] <;> rfl
  show wpAny _ _ (callWith cpos (.builtin "dict.values") [.ref d] [] []) _ X.xe s1
  exact method_meetsIn F.slot_dict_values F.entry_dict_values rfl (PySem.evalArgs_none ⟨rfl, hty, F.args_dict_values_1 _, _, meets_dict_values_raw d hs, ⟨⟨es, ep, hraw⟩, fin⟩⟩)
end Mi
/-! The mirror layer, part L: [len(x) for x in self.f.values()], f a dict with tuple keys whose values are lists. -/
namespace Mi
open PySem L2
@[simp] def lensW (st : Sto) : List (List Key × W) → Option (List Int)
  | [] => some []
  | (_, .ref l) :: r => match st[l]?, lensW st r with
    | some (.lst ws), some ls => some ((ws.length : Nat) :: ls)
    | _, _ => none
  | _ => none
def mLenVals (c : Nat) (f : Str) (i v : Nat) : ME := fun s st => match s[i]? with
  | some (some (.ref q)) => match st[q]? with
    | some (.ins d fs) => match fs.lookup f with
      | some (.ref r) => match st[r]? with
        | some (.dT kvs) => match lensW st kvs with
          | some ls => if d = c ∧ v < s.length ∧ kvs.length < sizeLine then .ok (.lst (ls.map W.int)) st else .stuck
          | none => .stuck
        | _ => .stuck
      | _ => .stuck
    | _ => .stuck
  | _ => .stuck
theorem lensW_ok {K : PySem.W.Frag} {Cl : Nat → Addr} {β : Bt} {H : Hp} {st : Sto} (hr : HR K Cl β H st) : ∀ {kvs : List (List Key × W)} {gs : List (List Key × V)} {ls : List Int}, RF K β H kvs gs → lensW st kvs = some ls →
    ls.length = gs.length ∧ ∀ (j : Nat) (k : List Key) (v : V), gs[j]? = some (k, v) → ∃ (l : Addr) (us : List V), v = .ref l ∧ H l = some (.lst us) ∧ ls[j]? = some ((us.length : Nat) : Int)
  | _, _, ls, .nil, h => by simp only [lensW] at h; cases h; exact ⟨rfl, fun j k v e => by simp at e⟩
  | _, _, ls, .cons (k := k0) (w := w) (v := v0) (fs := fs) (gs := gs) h0 t, h => by
    cases w with
    | ref l =>
      simp only [lensW] at h
      split at h
      · rename_i ws ls' e1 e2
        cases h
        obtain ⟨h1, h2⟩ := lensW_ok hr t e2
        obtain ⟨a, rfl, _, us, hu, hrs⟩ := h0.atRef hr e1 (by intro z; cases z)
        refine ⟨by simp [h1], fun j k v e => ?_⟩
        cases j with
        | zero =>
          simp at e
          obtain ⟨rfl, rfl⟩ := e
          exact ⟨a, us, rfl, hu, by simp [hrs.length]⟩
        | succ j =>
          simp at e
          obtain ⟨l', us', q1, q2, q3⟩ := h2 j k v e
          exact ⟨l', us', q1, q2, by simpa using q3⟩
      · cases h
    | _ => simp [lensW] at h
section
variable {X : Cx} {Cl : Nat → Addr} {E : XK}
theorem rvs_ints {K : PySem.W.Frag} {β : Bt} {H : Hp} : ∀ ls : List Int, RVs K β H (ls.map W.int) (ls.map V.int)
  | [] => .nil
  | _ :: ls => .cons (.int _) (rvs_ints ls)
def rLen (K : PySem.W.Frag) : List V → Hp → VK → Prop := fun xs H Q => ∃ x n, xs = [x] ∧ LenV K x H n ∧ Q (.int n) H
theorem se_lenVals {K : PySem.W.Frag} {c : Nat} {f : Str} {i v : Nat} (hc : Cls K (Cl c)) (hn : NoAttr K (Cl c) f) :
    SE K Cl E (tLockE (tLc (iValsT (tFld K (tVar i) f)) (gName v) tYes (tCB (rLen K) (tCons (tVar v) tNil)) [v])) (mLenVals c f i v) := fun β H σ s st Q hr hs h => by
  unfold mLenVals at h
  split at h
  · rename_i q es
    split at h
    · rename_i d fs eq
      split at h
      · rename_i r el
        split at h
        · rename_i kvs er
          split at h
          · rename_i ls els
            split at h
            · rename_i hz
              obtain ⟨rfl, hv, hkl⟩ := hz
              obtain ⟨x, hx, rx⟩ := hs.2 i _ es
              obtain ⟨a, rfl, _, dx, gs, ha, hrs⟩ := rx.atRef hr eq (by intro z; cases z)
              obtain ⟨y, hy, ry⟩ := hrs.look el
              obtain ⟨dd, rfl, _, gv, hd, hrv⟩ := ry.atRef hr er (by intro z; cases z)
              obtain ⟨l1, l2⟩ := lensW_ok hr hrv els
              have hne : a ≠ dd := fun z => by subst z; rw [hd] at ha; cases ha
              refine ⟨dd, .dT gv, hd, trivial, fun od => ?_⟩
              refine ⟨_, hx, a, _, dx, gs, _, rfl, (by rw [upd_ne hne]; exact ha), hc, hn, hy, dd, od, gv, rfl, upd_same, fun D hD => ?_⟩
              have hDd : D ≠ dd := fun z => by subst z; rw [upd_same] at hD; cases hD
              have hDH : H D = none := by rw [upd_ne hDd] at hD; exact hD
              refine ⟨fun j m H' => H' = upd (upd H dd (.frz od (.dT gv))) D (.lst ((ls.take j).map V.int)) ∧ m = gv.length - j, ⟨gv.length, by simp⟩, ?_⟩
              rintro j m H' ⟨rfl, rfl⟩
              have hfd : (upd (upd H dd (.frz od (.dT gv))) D (.lst ((ls.take j).map V.int))) dd = some (.frz od (.dT gv)) := by rw [upd_ne (Ne.symm hDd), upd_same]
              by_cases hj : gv.length ≤ j
              · refine .inl ⟨⟨hfd, hj⟩, hfd, ?_⟩
                rw [List.take_of_length_le (by omega)]
                have e : upd (upd (upd H dd (.frz od (.dT gv))) D (.lst (ls.map V.int))) dd (.dT gv) = upd H D (.lst (ls.map V.int)) := by
                  funext b
                  by_cases b1 : b = dd
                  · subst b1; rw [upd_same, upd_ne (Ne.symm hDd), hd]
                  · rw [upd_ne b1]
                    by_cases b2 : b = D
                    · subst b2; rw [upd_same, upd_same]
                    · rw [upd_ne b2, upd_ne b1, upd_ne b2]
                rw [e]
                exact Po.lst h hr hDH (rvs_ints ls)
              · refine .inr ⟨⟨hfd, by omega⟩, fun H'' => H'' = upd (upd H dd (.frz od (.dT gv))) D (.lst ((ls.take (j + 1)).map V.int)), fun H'' e => ⟨gv.length - (j + 1), by omega, e, rfl⟩, ?_⟩
                rintro x H'' ⟨rfl, k, hk⟩
                obtain ⟨l, us, rfl, hl, hls⟩ := l2 j k x hk
                have hld : l ≠ dd := fun z => by subst z; rw [hd] at hl; cases hl
                have hlD : l ≠ D := fun z => by subst z; rw [hDH] at hl; cases hl
                have hvl : v < σ.length := by rw [← hs.1]; exact hv
                refine ⟨?_, ?_⟩
                · show (((σ.set v none).set v _).set v none) = σ.set v none
                  simp
                · unfold tYes
                  simp only [if_true]
                  have HLL : SqL K (upd (upd H dd (.frz od (.dT gv))) D (.lst ((ls.take j).map V.int))) l us := .inl (.inl (by rw [upd_ne hlD, upd_ne hld]; exact hl))
                  refine ⟨_, (by show ((σ.set v none).set v _)[v]? = _; rw [List.getElem?_set_self (by simpa using hvl)]), _, us.length, rfl, (show LenV K (.ref l) _ us.length from Or.inl ⟨us, HLL, rfl⟩), (ls.take j).map V.int, upd_same, ?_, ?_⟩
                  · rw [List.length_map, List.length_take]
                    have := hrv.length
                    omega
                  · rw [List.take_succ, hls]
                    funext b
                    by_cases b2 : b = D
                    · subst b2; rw [upd_same, upd_same]; simp
                    · rw [upd_ne b2, upd_ne b2, upd_ne b2]
            · exact h.elim
          · exact h.elim
        · exact h.elim
      · exact h.elim
    · exact h.elim
  · exact h.elim
end
end Mi
namespace Mi
open PySem L2
section
variable {X : Cx} {Cl : Nat → Addr} {E : XK}
theorem pe_lenName {y : Str} {p p2 pos : Pos} (v : Nat) (hm : X.mg "len" = none) (hv : bootBuiltins "len" = some (.builtin "len")) (hN : X.N[v]? = some y := by rfl) (hvis : Vis X.env.scope y := by first | exact Or.inl rfl | exact Or.inr (Or.inl rfl) | exact Or.inr (Or.inr rfl)) (hd : (y == ("__debug__" : Str)) = false := by decide)
    (hcd : (y == ("__classdict__" : Str)) = false := by decide) (hg : Gl X "len" := by rfl)
    (he : starEach [.Name y p2] X.env = (false, eval (.Name y p2) X.env) :: starEach [] X.env := by rfl) (hpl : (backTo pos (starEach [] X.env)).any (·.1) = false := by rfl) : PE X (.Call (.Name "len" p) [.Name y p2] [] pos) (tCB (rLen X.K) (tCons (tVar v) tNil)) :=
  pe_callB call_len hg hm hv (pa_cons (pe_var hN hvis hd hcd) pa_nil he) (by decide) (by decide) he hpl
theorem je_lenVals {c : Nat} {f self y : Str} {i v : Nat} {elt : Expr} {scope : Scope} {p4 p5 p6 p7 p8 pos : Pos} (hc : X.calm = true) (hN : X.N.Nodup) (hcl : Cls X.K (Cl c)) (hn : NoAttr X.K (Cl c) f) (ok : BlkOk X.N X.env.scope scope [(y, v)])
    (hg : ∀ (s : Shared) (H : Hp) (C : Addr) (cl : List (Str × Addr)) (fp : List Addr), JN (X.blk s H scope (compEnvC scope cl C X.env) fp) (.Name y p4) (.nm v))
    (he : ∀ (s : Shared) (H : Hp) (C : Addr) (cl : List (Str × Addr)) (fp : List Addr), PE (X.blk s H scope (compEnvC scope cl C X.env) fp) elt (tCB (rLen X.K) (tCons (tVar v) tNil)))
    (hself : X.N[i]? = some self := by rfl) (hvis : Vis X.env.scope self := by first | exact Or.inl rfl | exact Or.inr (Or.inl rfl) | exact Or.inr (Or.inr rfl)) (hd : (self == ("__debug__" : Str)) = false := by decide)
    (hcd : (self == ("__classdict__" : Str)) = false := by decide) (hb : attributeBase (.Name self p5) f X.env (eval (.Name self p5) X.env) = eval (.Name self p5) X.env := by rfl)
    (hbase : attributeBase (.Attribute (.Name self p5) f p6) "values" X.env (eval (.Attribute (.Name self p5) f p6) X.env) = eval (.Attribute (.Name self p5) f p6) X.env := by rfl) (hline : (p7.endLine == p8.line) = true := by rfl)
    (hs : ∀ x, foldedSetIterable (.Call (.Attribute (.Attribute (.Name self p5) f p6) "values" p7) [] [] p8) X.env x = pure x := by intro _; rfl) :
    JE X Cl E (.ListComp elt [⟨.Name y p4, .Call (.Attribute (.Attribute (.Name self p5) f p6) "values" p7) [] [] p8, [], 0⟩] scope pos) (mLenVals c f i v) :=
  ⟨_, pe_lock (pe_lc hc hN (pi_valuesT (pe_fld (pe_var hself hvis hd hcd) hb) hbase hline) ok (fun s H C cl fp => (hg s H C cl fp).pg) (fun s H C cl fp => pts_nil) he hs), se_lenVals hcl hn⟩
end
end Mi
/-! The mirror layer, part Q: what several laws' drawing functions share. -/
namespace Mi
open PySem L2
/-- the bag: a number left over, a seed, a place, the last cell, the cells -/
def BagOb (o : Ob) : Prop := ∃ (a b c d : Int) (ns : List Int), o = .lst [.int a, .int b, .int c, .int d, .lst (ns.map W.int)] ∧ 0 ≤ c
def Sm (i : Nat) (st st' : Sto) : Prop := st'.length = st.length ∧ (∀ k : Nat, k ≠ i → st'[k]? = st[k]?) ∧ ∃ o, st'[i]? = some o ∧ BagOb o
theorem Sm.trans {i : Nat} {a b c : Sto} (h : Sm i a b) (k : Sm i b c) : Sm i a c := ⟨k.1.trans h.1, fun j hj => (k.2.1 j hj).trans (h.2.1 j hj), k.2.2⟩
theorem Sm.refl {i : Nat} {st : Sto} {o : Ob} (h : st[i]? = some o) (b : BagOb o) : Sm i st st := ⟨rfl, fun _ _ => rfl, o, h, b⟩
theorem Sm.here {i : Nat} {a b : Sto} (h : Sm i a b) : Sm i b b := ⟨rfl, fun _ _ => rfl, h.2.2⟩
theorem Sm.set {i : Nat} {st : Sto} {o : Ob} (hi : i < st.length) (b : BagOb o) : Sm i st (st.set i o) := ⟨by simp, fun k hk => by rw [List.getElem?_set_ne (Ne.symm hk)], o, by simp [hi], b⟩
theorem Sm.lt {i : Nat} {a b : Sto} (h : Sm i a b) : i < b.length := by obtain ⟨_, _, o, h, _⟩ := h; exact (List.getElem?_eq_some_iff.mp h).1
theorem pick (P : Int → Prop) (vs : List Int) (r : Int) (r0 : 0 ≤ r) (r1 : r < vs.length) (h : ∀ v ∈ vs, P v) : ∃ v, atI (vs.map W.int) r = some (.int v) ∧ P v := by
  have hi : r.toNat < vs.length := by omega
  exact ⟨vs[r.toNat], atI_nn r0 (by simp [hi]), h _ (List.getElem_mem hi)⟩
theorem lg {m : Int} (h0 : 0 < m) (h1 : m < 18446744073709551616) : m.natAbs.log2 < 9000 := by
  have h := (Nat.log2_lt (n := m.natAbs) (k := 64) (by omega)).mpr (by omega)
  omega
end Mi
/-! The mirror layer, part T: rows of a tree over a list of numbers. -/
namespace Mi
open PySem L2
/-- a row's item -/
def gt (row : List Int) (p : Nat) : Int := row.getD p 0
theorem gt_get {row : List Int} {p : Nat} (h : p < row.length) : row[p]? = some (gt row p) := by simp [gt, List.getD, h]
/-- the row above a row -/
def prs (f : Int → Int → Int) (row : List Int) : List Int := (List.range (row.length / 2)).map fun k => f (gt row (2 * k)) (gt row (2 * k + 1))
theorem prs_len (f : Int → Int → Int) (row : List Int) : (prs f row).length = row.length / 2 := by simp [prs]
theorem prs_getD (f : Int → Int → Int) (row : List Int) (k : Nat) (h : k < row.length / 2) : gt (prs f row) k = f (gt row (2 * k)) (gt row (2 * k + 1)) := by
  simp [gt, prs, List.getD, h]
def lev (f : Int → Int → Int) (row : List Int) : Nat → List Int
  | 0 => row
  | k + 1 => prs f (lev f row k)
theorem lev_len (f : Int → Int → Int) (row : List Int) : ∀ k, (lev f row k).length = row.length / 2 ^ k
  | 0 => by simp [lev]
  | k + 1 => by rw [lev, prs_len, lev_len f row k, Nat.div_div_eq_div_mul, Nat.pow_succ]
theorem getD_set_ne {l : List Int} {p q : Nat} {d : Int} (h : p ≠ q) : gt (l.set p d) q = gt l q := by
  simp [gt, List.getD, List.getElem?_set_ne h]
theorem getD_set_self {l : List Int} {p : Nat} {d : Int} (h : p < l.length) : gt (l.set p d) p = d := by
  simp [gt, List.getD, h]
/-- a row in which one place has changed, the rows above it -/
theorem prs_set (f : Int → Int → Int) (row : List Int) (p : Nat) (d : Int) : prs f (row.set p d) = (prs f row).set (p / 2) (f (gt (row.set p d) (2 * (p / 2))) (gt (row.set p d) (2 * (p / 2) + 1))) := by
  refine List.ext_getElem (by simp [prs_len]) fun k h1 h2 => ?_
  have hk : k < row.length / 2 := by simpa [prs_len] using h1
  rw [List.getElem_set]
  by_cases e : p / 2 = k
  · subst e
    simp [prs]
  · rw [if_neg e]
    simp only [prs, List.getElem_map, List.getElem_range]
    rw [getD_set_ne (by omega), getD_set_ne (by omega)]
theorem lev_set (f : Int → Int → Int) (row : List Int) (p : Nat) (d : Int) (hp : p < row.length) : ∀ k, 2 ^ k ∣ row.length → lev f (row.set p d) k = (lev f row k).set (p / 2 ^ k) (gt (lev f (row.set p d) k) (p / 2 ^ k))
  | 0, _ => by
    show row.set p d = row.set (p / 2 ^ 0) (gt (row.set p d) (p / 2 ^ 0))
    rw [Nat.pow_zero, Nat.div_one, getD_set_self hp]
  | k + 1, hd => by
    have hd' : 2 ^ k ∣ row.length := Nat.dvd_trans (Nat.pow_dvd_pow 2 (Nat.le_succ k)) hd
    have ih := lev_set f row p d hp k hd'
    have e2 : p / 2 ^ (k + 1) = p / 2 ^ k / 2 := by rw [Nat.div_div_eq_div_mul, Nat.pow_succ]
    have hl : p / 2 ^ (k + 1) < (prs f (lev f (row.set p d) k)).length := by
      rw [prs_len, lev_len, List.length_set, Nat.div_div_eq_div_mul, ← Nat.pow_succ]
      exact Nat.div_lt_div_of_lt_of_dvd hd hp
    show prs f (lev f (row.set p d) k) = (prs f (lev f row k)).set (p / 2 ^ (k + 1)) (gt (prs f (lev f (row.set p d) k)) (p / 2 ^ (k + 1)))
    have hs := prs_set f (lev f row k) (p / 2 ^ k) (gt (lev f (row.set p d) k) (p / 2 ^ k))
    rw [← ih] at hs
    rw [e2] at hl ⊢
    rw [prs_getD _ _ _ (by rw [prs_len] at hl; exact hl)]
    exact hs
theorem prs_in (f : Int → Int → Int) (P : Int → Prop) (row : List Int) (h : ∀ x y, P x → P y → P (f x y)) (hr : ∀ x ∈ row, P x) : ∀ x ∈ prs f row, P x := by
  intro x hx
  simp only [prs, List.mem_map, List.mem_range] at hx
  obtain ⟨k, hk, rfl⟩ := hx
  have a1 : 2 * k < row.length := by omega
  have a2 : 2 * k + 1 < row.length := by omega
  have e1 : gt row (2 * k) = row[2 * k] := by simp [gt, List.getD, a1]
  have e2 : gt row (2 * k + 1) = row[2 * k + 1] := by simp [gt, List.getD, a2]
  rw [e1, e2]
  exact h _ _ (hr _ (List.getElem_mem a1)) (hr _ (List.getElem_mem a2))
theorem lev_in (f : Int → Int → Int) (P : Int → Prop) (row : List Int) (h : ∀ x y, P x → P y → P (f x y)) (hr : ∀ x ∈ row, P x) : ∀ k, ∀ x ∈ lev f row k, P x
  | 0 => hr
  | k + 1 => prs_in f P _ h (lev_in f P row h hr k)
/-! ### rows of numbers compared -/
theorem lay_ints : ∀ ns : List Int, PyData.canLayAll0 (ns.map PyData.int) = true
  | [] => by simp
  | n :: ns => by simp [lay_ints ns]
theorem dep_ints : ∀ ns : List Int, PyData.depthAll (ns.map PyData.int) = 0
  | [] => by simp
  | n :: ns => by simp [dep_ints ns]
theorem eqvA_ints : ∀ ns ms : List Int, PyData.eqvAll (ns.map PyData.int) (ms.map PyData.int) = decide (ns = ms)
  | [], [] => by simp
  | [], m :: ms => by simp
  | n :: ns, [] => by simp
  | n :: ns, m :: ms => by
    rw [List.map_cons, List.map_cons, eqvA_cc, eqv_ii, eqvA_ints ns ms]
    by_cases h1 : n = m <;> by_cases h2 : ns = ms <;> simp [h1, h2]
/-- a comprehension over an object of the store that changes no store -/
theorem lc_cell_at {c n : Nat} {ws : List W} {g : MG} {t : MT} {e : ME} {s : Slo} {st : Sto} (p : W → Bool) (q : W → W) (h0 : st[c]? = some (.lst ws)) (hn : ws.length = n)
    (h : ∀ w ∈ ws, ∃ s2, g w s st = some (s2, st) ∧ t s2 st = .ok (p w) st ∧ (p w = true → e s2 st = .ok (q w) st)) :
    ∀ (k i : Nat) (acc : List W), i + k = ws.length → acc.length + k ≤ sizeLine →
      mLcLoop (.cell c n) g t e s k i acc st = .ok (acc ++ ((ws.drop i).filter p).map q) st
  | 0, i, acc, e, hl => by
    have e' : i = ws.length := by omega
    subst e'
    simp only [mLcLoop, Src.fine, h0, hn, decide_true, if_true]
    rw [← hn, List.drop_length, List.filter_nil, List.map_nil, List.append_nil]
  | k + 1, i, acc, e, hl => by
    have hi : i < ws.length := by omega
    obtain ⟨s2, hg, ht, he⟩ := h ws[i] (List.getElem_mem hi)
    have hd := List.drop_eq_getElem_cons hi
    simp only [mLcLoop, Src.fine, Src.at, h0, hn, decide_true, if_true, List.getElem?_eq_getElem hi, hg, ht]
    cases hp : p ws[i] with
    | true =>
      simp only [he hp]
      rw [if_pos (by omega), lc_cell_at p q h0 hn h k (i + 1) _ (by omega) (by simp; omega)]
      rw [hd, List.filter_cons, hp]
      simp only [if_true, List.map_cons, List.append_assoc, List.singleton_append]
    | false =>
      simp only []
      rw [lc_cell_at p q h0 hn h k (i + 1) _ (by omega) (by omega), hd, List.filter_cons, hp]
      simp only [Bool.false_eq_true, if_false]
theorem filter_yes {α : Type} (l : List α) : (l.filter fun _ => true) = l := List.filter_eq_self.mpr fun _ _ => rfl
@[simp high] theorem aT (S T : Sto) (k : Nat) : (S ++ T)[S.length + k]? = T[k]? := by rw [List.getElem?_append_right (by omega)]; congr 1; omega
@[simp high] theorem a0 (S T : Sto) : (S ++ T)[S.length]? = T[0]? := aT S T 0
@[simp high] theorem sT (S T : Sto) (k : Nat) (x : Ob) : (S ++ T).set (S.length + k) x = S ++ T.set k x := by rw [List.set_append_right _ _ (by omega)]; congr 2; omega
@[simp high] theorem s0 (S T : Sto) (x : Ob) : (S ++ T).set S.length x = S ++ T.set 0 x := sT S T 0 x
end Mi
/-! The mirror layer, part R: reading by `simp`: fields, places, sizes. -/
namespace Mi
open PySem L2
@[simp] theorem beq_lit (a b : String) : (Str.ofString a == Str.ofString b) = decide (a = b) := by
  by_cases h : a = b
  · subst h; simp
  · have h2 : Str.ofString a ≠ Str.ofString b := fun e => h ((ofString_iff a b).mp e)
    simp [h]
@[simp] theorem lk_nil (k : Str) : List.lookup k ([] : Fl) = none := rfl
@[simp] theorem lk_lit (a b : String) (w : W) (r : Fl) : List.lookup (Str.ofString a) ((Str.ofString b, w) :: r) = if a = b then some w else List.lookup (Str.ofString a) r := by
  rw [List.lookup_cons, beq_lit]
  by_cases h : a = b <;> simp [h]
theorem atI_nat {α : Type} (xs : List α) (k : Nat) : atI xs (k : Int) = xs[k]? := by
  by_cases h : k < xs.length
  · rw [List.getElem?_eq_getElem h]
    exact atI_nn (by omega) (by simp [h])
  · have h2 : ixN xs.length (k : Int) = none := by
      simp only [ixN, if_pos (show (0 : Int) ≤ (k : Int) by omega)]
      rw [if_neg (by omega)]
    rw [atI, h2, List.getElem?_eq_none (by omega)]; rfl
@[simp] theorem atI_ofNat {α : Type} (xs : List α) (k : Nat) : atI xs (no_index (OfNat.ofNat k : Int)) = xs[(OfNat.ofNat k : Nat)]? := atI_nat xs k
theorem atI_last {α : Type} (xs : List α) : atI xs (-1) = xs.getLast? := by
  cases xs with
  | nil => rfl
  | cons x xs =>
    have h : ixN (x :: xs).length (-1) = some xs.length := by
      simp only [ixN, List.length_cons]
      rw [if_neg (by omega), if_pos (by omega)]
      congr 1
      omega
    rw [atI, h, List.getLast?_eq_getElem?]
    simp
theorem ixN_nat (n k : Nat) : ixN n (k : Int) = if k < n then some k else none := by
  by_cases h : k < n
  · simp only [ixN, if_pos (show (0 : Int) ≤ (k : Int) by omega), if_pos (show (k : Int) < (n : Int) by omega), if_pos h, Int.toNat_natCast]
  · simp only [ixN, if_pos (show (0 : Int) ≤ (k : Int) by omega), if_neg (show ¬ (k : Int) < (n : Int) by omega), if_neg h]
@[simp] theorem ixN_ofNat (n k : Nat) : ixN n (no_index (OfNat.ofNat k : Int)) = if (OfNat.ofNat k : Nat) < n then some (OfNat.ofNat k : Nat) else none := ixN_nat n k
theorem ixN_last (n : Nat) : ixN n (-1) = if 0 < n then some (n - 1) else none := by
  by_cases h : 0 < n
  · simp only [ixN]
    rw [if_neg (by omega), if_pos (by omega), if_pos h]
    congr 1
    omega
  · simp only [ixN]
    rw [if_neg (by omega), if_neg (by omega), if_neg h]
@[simp] theorem log2_lt {n : Nat} (h : n < 18446744073709551616) : n.log2 < 9000 := by
  by_cases h0 : n = 0
  · subst h0; decide
  · have := (Nat.log2_lt (n := n) (k := 64) h0).mpr (by omega)
    omega
/-! ### the store -/
theorem rd_self {st : Sto} {i : Nat} {o : Ob} (h : (st[i]?).isSome = true) : (st.set i o)[i]? = some o := by
  rw [List.getElem?_set_self]
  by_cases hl : i < st.length
  · exact hl
  · rw [List.getElem?_eq_none (by omega)] at h; cases h
theorem rd_app {st T : Sto} {i : Nat} (h : (st[i]?).isSome = true) : (st ++ T)[i]? = st[i]? := by
  by_cases hl : i < st.length
  · rw [List.getElem?_append_left hl]
  · rw [List.getElem?_eq_none (by omega)] at h; cases h
theorem st_app {st T : Sto} {i : Nat} {o : Ob} (h : (st[i]?).isSome = true) : (st ++ T).set i o = st.set i o ++ T := by
  by_cases hl : i < st.length
  · rw [List.set_append_left _ _ hl]
  · rw [List.getElem?_eq_none (by omega)] at h; cases h
/-- nothing but the objects at A has changed; new ones may stand behind -/
def Only (A : List Nat) (st st' : Sto) : Prop := st.length ≤ st'.length ∧ ∀ i, i < st.length → i ∉ A → st'[i]? = st[i]?
theorem Only.refl (A : List Nat) (st : Sto) : Only A st st := ⟨Nat.le_refl _, fun _ _ _ => rfl⟩
theorem Only.trans {A B : List Nat} {s t u : Sto} (h : Only A s t) (k : Only B t u) (hb : ∀ i ∈ B, i < s.length → i ∈ A) : Only A s u :=
  ⟨Nat.le_trans h.1 k.1, fun i hi ha => (k.2 i (Nat.lt_of_lt_of_le hi h.1) fun z => ha (hb i z hi)).trans (h.2 i hi ha)⟩
theorem Only.mono {A B : List Nat} {s t : Sto} (h : Only A s t) (hb : ∀ i ∈ A, i < s.length → i ∈ B) : Only B s t := ⟨h.1, fun i hi n => h.2 i hi fun z => n (hb i z hi)⟩
theorem Only.rd {A : List Nat} {s t : Sto} (h : Only A s t) {i : Nat} {o : Ob} (e : s[i]? = some o) (n : i ∉ A) : t[i]? = some o := (h.2 i (List.getElem?_eq_some_iff.mp e).1 n).trans e
theorem Only.app (A : List Nat) (s T : Sto) : Only A s (s ++ T) := ⟨by simp, fun i hi _ => List.getElem?_append_left hi⟩
theorem Only.set {A : List Nat} {s : Sto} {i : Nat} {o : Ob} (h : i ∈ A) : Only A s (s.set i o) := ⟨by simp, fun j hj n => List.getElem?_set_ne fun e => n (by rw [← e]; exact h)⟩
theorem Sm.only {i : Nat} {a b : Sto} (h : Sm i a b) : Only [i] a b := ⟨by rw [h.1]; exact Nat.le_refl _, fun k _ n => h.2.1 k fun e => n (by simp [e])⟩
/-! ### walks over a written range -/
theorem mLc_rng1 {a : MA} {k : Int} {n : NT} {t : MT} {e : ME} {vs : List Nat} {s : Slo} {st st1 : Sto} (ha : a s st = .ok [.int k] st1) (h0 : 0 ≤ k) (h1 : k < 4611686018427387904) :
    mLc (mIRng1 a) n t e vs s st = (mLcLoop (.vals (rngW 0 k.toNat)) (NT.m n) t e (wipeW s vs) k.toNat 0 [] st1).bind fun ws st2 => .ok (.lst ws) st2 := by
  simp [ha]
  rw [if_pos (by omega)]
  simp
theorem rng1_ok {a : MA} {k : Int} {s : Slo} {st st1 : Sto} (ha : a s st = .ok [.int k] st1) (h0 : 0 ≤ k) (h1 : k < 4611686018427387904) : mIRng1 a s st = .ok (.vals (rngW 0 k.toNat)) st1 := by
  simp [ha]
  omega
theorem rng1_nat {a : MA} {k : Nat} {s : Slo} {st st1 : Sto} (ha : a s st = .ok [.int (k : Int)] st1) (h1 : k < 1000000000) : mIRng1 a s st = .ok (.vals (rngW 0 k)) st1 := by
  have h := rng1_ok ha (by omega) (by omega)
  rwa [Int.toNat_natCast] at h
theorem mFor_vals {it : MI} {g : MG} {b : MS} {s : Slo} {st st1 : Sto} {ws : List W} {n : Nat} {o : SO} (h : it s st = .ok (.vals ws) st1) (hn : ws.length = n) (k : mLoop (.vals ws) g b n 0 s st1 = o) : mFor it g b s st = o := by
  subst hn
  simp only [mFor, h, Out.run, Src.len_vals, k]
theorem mFor_rng1 {a : MA} {k : Int} {g : MG} {b : MS} {s : Slo} {st st1 : Sto} (ha : a s st = .ok [.int k] st1) (h0 : 0 ≤ k) (h1 : k < 4611686018427387904) :
    mFor (mIRng1 a) g b s st = mLoop (.vals (rngW 0 k.toNat)) g b k.toNat 0 s st1 := by
  simp [ha]
  rw [if_pos (by omega)]
  simp
end Mi
namespace Mi
open PySem L2
theorem mLc_of {it : MI} {n : NT} {t : MT} {e : ME} {vs : List Nat} {s : Slo} {st st1 : Sto} {ws : List W} (hi : it s st = .ok (.vals ws) st1) (hl : ws.length ≤ 1000000) (p : W → Bool) (q : W → W)
    (h : ∀ w ∈ ws, ∃ s2, NT.m n w (wipeW s vs) st1 = some (s2, st1) ∧ t s2 st1 = .ok (p w) st1 ∧ (p w = true → e s2 st1 = .ok (q w) st1)) : mLc it n t e vs s st = .ok (.lst ((ws.filter p).map q)) st1 := by
  simp only [mLc, hi, Out.bind, Src.len_vals, lc_vals p q (show ws.length ≤ sizeLine by rw [sizeLine_eq]; omega) h]
theorem mem_rng {lo : Int} {n : Nat} {w : W} (h : w ∈ rngW lo n) : ∃ k : Nat, k < n ∧ w = .int (lo + (k : Int)) := by
  simp only [rngW, List.mem_map, List.mem_range] at h
  obtain ⟨k, hk, rfl⟩ := h
  exact ⟨k, hk, rfl⟩
theorem mem_rng0 {n : Nat} {w : W} (h : w ∈ rngW 0 n) : ∃ k : Nat, k < n ∧ w = .int (k : Int) := by
  obtain ⟨k, hk, rfl⟩ := mem_rng h
  exact ⟨k, hk, by rw [Int.zero_add]⟩
/-! ### rows of True -/
theorem toPys_rep (b : Bool) : ∀ n : Nat, toPys (List.replicate n (.bl b)) = some (List.replicate n (.bool b))
  | 0 => rfl
  | n + 1 => by simp [List.replicate_succ, toPys, toPys_rep b n]
theorem lay_rep (b : Bool) : ∀ n : Nat, PyData.canLayAll0 (List.replicate n (.bool b)) = true
  | 0 => by simp
  | n + 1 => by simp [List.replicate_succ, lay_rep b n]
theorem dep_rep (b : Bool) : ∀ n : Nat, PyData.depthAll (List.replicate n (.bool b)) = 0
  | 0 => by simp
  | n + 1 => by simp [List.replicate_succ, dep_rep b n]
theorem isIn_true (st : Sto) (ws : List W) (h : ∀ w ∈ ws, w = .bl true) : isIn (.bl false) (.lst ws) st = some false := by
  rw [List.eq_replicate_of_mem h]
  generalize ws.length = n
  simp [isIn, toPyS, toPy, toPys_rep, lay_rep, dep_rep]
theorem toPy_ints (ns : List Int) : toPy (.tup (ns.map W.int)) = some (.tuple (ns.map PyData.int)) := by simp
/-- two tuples of numbers compared -/
theorem mEq_ints (ns ms : List Int) (st : Sto) : mEq (.tup (ns.map W.int)) (.tup (ms.map W.int)) st = .ok (.bl (decide (ns = ms))) st := by
  simp [lay_ints, dep_ints, eqvA_ints]
theorem mNe_ints (ns ms : List Int) (st : Sto) : mNe (.tup (ns.map W.int)) (.tup (ms.map W.int)) st = .ok (.bl (!decide (ns = ms))) st := by
  simp [lay_ints, dep_ints, eqvA_ints]
/-- a list in which all that is told of is one thing -/
theorem one_le {α : Type} (p : α → Bool) (a : α) : ∀ l : List α, l.Nodup → (∀ x ∈ l, p x = true → x = a) → (l.filter p).length ≤ 1
  | [], _, _ => by simp
  | x :: l, hn, h => by
    obtain ⟨h1, h2⟩ := List.nodup_cons.mp hn
    rw [List.filter_cons]
    split
    · rename_i hp
      have e := h x (by simp) hp
      subst e
      have : l.filter p = [] := List.filter_eq_nil_iff.mpr fun y hy hp => h1 (by rw [← h y (by simp [hy]) hp]; exact hy)
      rw [this]; simp
    · exact one_le p a l h2 fun y hy => h y (by simp [hy])
end Mi
namespace Mi
open PySem L2
theorem mEq_ii (i j : Int) (st : Sto) : mEq (.int i) (.int j) st = .ok (.bl (decide (i = j))) st := by simp
theorem mNe_ii (i j : Int) (st : Sto) : mNe (.int i) (.int j) st = .ok (.bl (!decide (i = j))) st := by simp
/-- is a number among numbers (a list as a value) -/
theorem isIn_ints (x : Int) (ns : List Int) (st : Sto) : isIn (.int x) (.lst (ns.map W.int)) st = some (decide (x ∈ ns)) := by
  have h : (ns.map PyData.int).any (fun z => PyData.eqv z (.int x)) = decide (x ∈ ns) := by
    induction ns with
    | nil => simp
    | cons n ns ih =>
      rw [List.map_cons, List.any_cons, ih, eqv_ii]
      by_cases h1 : x = n <;> by_cases h2 : x ∈ ns <;> simp [h1, h2, eq_comm]
  simp [isIn, lay_ints, dep_ints, h]
theorem mIn_ints (x : Int) (ns : List Int) (st : Sto) : mIn (.int x) (.lst (ns.map W.int)) st = .ok (.bl (decide (x ∈ ns))) st := by
  simp only [mIn, isIn_ints]
theorem mNotIn_ints (x : Int) (ns : List Int) (st : Sto) : mNotIn (.int x) (.lst (ns.map W.int)) st = .ok (.bl (!decide (x ∈ ns))) st := by
  simp only [mNotIn, isIn_ints]
theorem mEq_lints (ns ms : List Int) (st : Sto) : mEq (.lst (ns.map W.int)) (.lst (ms.map W.int)) st = .ok (.bl (decide (ns = ms))) st := by
  simp [lay_ints, dep_ints, eqvA_ints]
theorem mNe_lints (ns ms : List Int) (st : Sto) : mNe (.lst (ns.map W.int)) (.lst (ms.map W.int)) st = .ok (.bl (!decide (ns = ms))) st := by
  simp [lay_ints, dep_ints, eqvA_ints]
end Mi
namespace Mi
open PySem L2
/-! ### statement by statement -/
theorem seq_nx {a b : MS} {s s1 : Slo} {st st1 : Sto} {o : SO} (h : a s st = .nx s1 st1) (k : b s1 st1 = o) : mSeq a b s st = o := by
  simp only [mSeq, h, SO.then, k]
theorem seq_rt {a b : MS} {s : Slo} {st st1 : Sto} {w : W} (h : a s st = .rt w st1) : mSeq a b s st = .rt w st1 := by
  simp only [mSeq, h, SO.then]
theorem def_rt {n k : Nat} {body : MS} {ws : List W} {st st' : Sto} {w : W} (hl : ws.length = n) (h : body (ws.map some ++ List.replicate k none) st = .rt w st') : mDef n k body ws st = .ok w st' := by
  simp only [mDef, hl, if_true, h]
theorem def_nx {n k : Nat} {body : MS} {ws : List W} {st st' : Sto} {s' : Slo} (hl : ws.length = n) (h : body (ws.map some ++ List.replicate k none) st = .nx s' st') : mDef n k body ws st = .ok .non st' := by
  simp only [mDef, hl, if_true, h]
end Mi
namespace Mi
open PySem L2
theorem mLc_cell {it : MI} {nt : NT} {t : MT} {e : ME} {vs : List Nat} {s : Slo} {st st1 : Sto} {c n : Nat} {ws : List W} (hi : it s st = .ok (.cell c n) st1) (h0 : st1[c]? = some (.lst ws)) (hn : ws.length = n) (hl : n ≤ 1000000) (p : W → Bool) (q : W → W)
    (h : ∀ w ∈ ws, ∃ s2, NT.m nt w (wipeW s vs) st1 = some (s2, st1) ∧ t s2 st1 = .ok (p w) st1 ∧ (p w = true → e s2 st1 = .ok (q w) st1)) : mLc it nt t e vs s st = .ok (.lst ((ws.filter p).map q)) st1 := by
  have hc : (Src.cell c n).len = n := rfl
  have z := lc_cell_at p q h0 hn h n 0 [] (by omega) (by rw [sizeLine_eq]; simp; omega)
  simp only [mLc, hi, Out.bind, hc, z, List.nil_append, List.drop_zero]
end Mi
namespace Mi
open PySem L2
theorem app_lt0 {α : Type} {s t : List α} {i : Nat} {x : α} (h : s[i]? = some x) : (s ++ t)[i]? = some x := by
  rw [List.getElem?_append_left (List.getElem?_eq_some_iff.mp h).1]; exact h
end Mi
/-! The mirror layer, part X: own errors: raise X(), try: one call, except X: suite. -/
namespace Mi
open PySem L2 PyProof.Rows
/-- what the module's top says of an own class of errors without __init__ -/
structure XCls (K : PySem.W.Frag) (mg : Str → Option Value) (x : Str) (C : Addr) : Prop where
  g : mg x = some (.ref C)
  x : PySem.W.excIn K C [.type "ValueError", .type "Exception", .type "BaseException", .type "object"] "ValueError.__new__" = true
  k : PySem.W.keepIn K (.ref C) = true
  b : PySem.W.subIn K (.ref C) (.type "BaseException") = some true
  t : PySem.W.typeIn K (.ref C) = some (.type "type")
/-- X() -/
theorem pmk_own0 {X : Cx} {C : Addr} {x : Str} {p pos : Pos} (T : XCls X.K X.mg x C) (hg : Gl X x) (hdb : (x == ("__debug__" : Str)) = false := by decide) : PMk X (.Call (.Name x p) [] [] pos) (fun _ H Q => Q (.ref C) none H) := by
  intro pins s σ H Q I h
  refine wpAny_Call_Name_kw (ld_glob I hg T.g ?_ hdb)
  refine PySem.W.callWith_K0 I.kIn T.k ?_
  obtain ⟨bm, N, nm, qn, bs, hdct, sn, sub, ab, col, dd, k0, k1, k2, k3, k5, mN, hC, hN, hni, T2⟩ := exc_obj I.kIn T.x
  refine wpAny_call_exc_subT PySem.F.excBase_ValueError T2 hC hN hni (fun h' e hm => ?_) (Nat.zero_le _)
  exact mk_of I hm (raises_own T.b T.t) h (I.hok.gone hm.new)
@[simp] def mRaise (c : Nat) : MS := fun _ st => .exc c [] st
theorem js_raise0 {X : Cx} {Cl : Nat → Addr} {E : XK} {c : Nat} {x : Str} {p pos pos' : Pos} (T : XCls X.K X.mg x (Cl c)) (tk : Takes X (fun cls d _ H => E cls d H)) (hc : X.calm = true := by rfl) (hg : Gl X x := by rfl) (hdb : (x == ("__debug__" : Str)) = false := by decide) :
    JS X Cl E (.Raise (some (.Call (.Name x p) [] [] pos)) none pos') (mRaise c) :=
  ⟨_, ps_raise hc tk (pmk_own0 T hg hdb), fun β H σ s st D hr hs h => h β H none (Ext.refl _ β H) hr (.inl ⟨rfl, rfl⟩)⟩
/-! ### a call in a try's body -/
structure JC (X : Cx) (Cl : Nat → Addr) (W : WX) (e : Expr) (m : ME) : Prop where
  ex : ∃ t, PE X e t ∧ ∀ β H σ s st Q, HR X.K Cl β H st → SR X.K β H s σ → Po X.K Cl (WE W σ) β H Q (m s st) → t σ H Q
@[simp] def mCallX (n : Nat) (m : MF) (a : MA) : ME := fun s st => match a s st with
  | .ok ws st1 => if ws.length = n then m ws st1 else .stuck
  | _ => .stuck
theorem jc_call {X : Cx} {Cl : Nat → Addr} {W : WX} {k n f : Nat} {fd : FuncData} {ps : List Str} {m : MF} {x : Str} {e : Expr} {es : List Expr} {mr : MA} {p pos : Pos} (F : FnOk X.prog X.w X.K X.mg X.base (L2.CX X.prog X.w) k f fd ps (spM X.K Cl n m)) (tk : Takes X W) (hr : Room k X.A) (hm : X.mg x = some (.ref f)) (hk : PySem.W.keepIn X.K (.ref f) = true) (hb : Binds X.K fd ps [])
    (ha : JA X Cl E0 (e :: es) mr) (hg : Gl X x := by rfl) (hdb : (x == ("__debug__" : Str)) = false := by decide) (he : starEach (e :: es) X.env = (false, eval e X.env) :: starEach es X.env := by rfl) (hpl : (backTo pos (starEach es X.env)).any (·.1) = false := by rfl) :
    JC X Cl W (.Call (.Name x p) (e :: es) [] pos) (mCallX n m mr) := by
  obtain ⟨t, pr, q⟩ := ha.ex
  refine ⟨_, pe_callS F hr hg hm hk hb (fun σ => passAt tk σ) pr hdb he hpl, fun β H σ s st Q hr hs h => ?_⟩
  refine q β H σ s st _ hr hs ?_
  simp only [mCallX] at h
  cases ei : mr s st with
  | stuck => rw [ei] at h; exact h
  | exc c fs st1 => rw [ei] at h; exact h.elim
  | ok ws st1 =>
    rw [ei] at h
    intro β1 H1 vs e1 hr1 rv
    simp only at h
    split at h
    · rename_i hn
      exact ⟨by rw [← rv.length]; exact hn, β1, ws, st1, hr1, rv, PoG.ext e1 h⟩
    · exact h.elim
/-- the reading of a try's body, a single statement -/
def tBody (K : PySem.W.Frag) (Cl : Nat → Addr) (m : MS) (W : WX) : TS := fun D σ H => ∃ β s st, HR K Cl β H st ∧ SR K β H s σ ∧ PoS K Cl (WE W σ) D β H (m s st)
structure JB (X : Cx) (Cl : Nat → Addr) (W : WX) (es : List Stmt) (m : MS) : Prop where
  ps : PSs X es (tBody X.K Cl m W)
theorem pss_imp {X : Cx} {es : List Stmt} {t u : TS} (h : PSs X es t) (k : ∀ D σ H, u D σ H → t D σ H) : PSs X es u := ⟨fun pins s σ H D I q => h.run pins s σ H D I (k D σ H q)⟩
section
variable {X : Cx} {Cl : Nat → Addr} {W : WX} {e : Expr} {m : ME} {pos : Pos}
theorem jb_ret (h : JC X Cl W e m) : JB X Cl W [.Return (some e) pos] (mRet m) := by
  obtain ⟨t, p, q⟩ := h.ex
  refine ⟨pss_imp (pss_one (ps_ret p)) fun D σ H ⟨β, s, st, hr, hs, h⟩ => q β H σ s st _ hr hs ?_⟩
  exact h.run fun w st1 β1 H1 v _ e1 hr1 rv h1 => h1 β1 H1 v (Ext.refl _ _ _) hr1 rv
theorem jb_expr (h : JC X Cl W e m) (hsw : swapsWith e none pos.line X.env = pure false := by rfl) : JB X Cl W [.Expr e pos] (mDrop m) := by
  obtain ⟨t, p, q⟩ := h.ex
  refine ⟨pss_imp (pss_one (ps_expr p hsw)) fun D σ H ⟨β, s, st, hr, hs, h⟩ => q β H σ s st _ hr hs ?_⟩
  exact h.run fun w st1 β1 H1 v _ e1 hr1 rv h1 => PoS.val h1 hr1 (hs.ext e1)
theorem jb_set (i : Nat) {x : Str} {pos' : Pos} (hN : X.N.Nodup) (h : JC X Cl W e m) (hi : X.N[i]? = some x := by rfl) (hx : Loc X.env.scope x := by first | exact .inl rfl | exact .inr rfl) (hsw : swapsWith e (some (.Name x pos')) pos.line X.env = pure false := by rfl) (hf : X.fn x = true ∨ X.env.scope.names.lookup x = some .local := by first | exact .inl rfl | exact .inr rfl) :
    JB X Cl W [.Assign [.Name x pos'] e pos] (mAsg m (mGN i)) := by
  obtain ⟨t, p, q⟩ := h.ex
  refine ⟨pss_imp (pss_one (ps_set hN hi hx p hsw hf)) fun D σ H ⟨β, s, st, hr, hs, h⟩ => q β H σ s st _ hr hs ?_⟩
  exact h.run fun w st1 β1 H1 v _ e1 hr1 rv h1 => PoS.val h1 hr1 ((hs.ext e1).set rv)
end
/-! ### try: one call / except X: suite -/
/-- which errors a clause takes -/
def tabN : Nat → Option Bool := fun _ => none
def tabC (c : Nat) (b : Bool) (r : Nat → Option Bool) : Nat → Option Bool := fun n => if n = c then some b else r n
theorem tabN_ok {K : PySem.W.Frag} {Cl : Nat → Addr} {hc : Nat} : ∀ c b, tabN c = some b → PySem.W.exmOne K (.ref (Cl c)) (.ref (Cl hc)) = some b := fun c b h => by cases h
theorem tabC_ok {K : PySem.W.Frag} {Cl : Nat → Addr} {hc c0 : Nat} {b0 : Bool} {r : Nat → Option Bool} (h0 : PySem.W.exmOne K (.ref (Cl c0)) (.ref (Cl hc)) = some b0) (hr : ∀ c b, r c = some b → PySem.W.exmOne K (.ref (Cl c)) (.ref (Cl hc)) = some b) : ∀ c b, tabC c0 b0 r c = some b → PySem.W.exmOne K (.ref (Cl c)) (.ref (Cl hc)) = some b := fun c b h => by
  unfold tabC at h
  split at h
  · rename_i e
    subst e
    cases h
    exact h0
  · exact hr c b h
/-- a suite that raises is not served -/
@[simp] def calmS : SO → SO
  | .exc _ _ _ => .stuck
  | o => o
@[simp] def mTry1 (body : MS) (sub : Nat → Option Bool) (suite : MS) : MS := fun s st => match body s st with
  | .exc c fs st1 => match sub c with
    | some true => calmS (suite s st1)
    | some false => .exc c fs st1
    | none => .stuck
  | o => o
theorem js_try1 {X : Cx} {Cl : Nat → Addr} {E : XK} {hc : Nat} {x : Str} {body suite : List Stmt} {b₀ : Stmt} {np pos pos' : Pos} {mb ms : MS} {sub : Nat → Option Bool} (hm : X.mg x = some (.ref (Cl hc))) (tk : Takes X (fun cls d _ H => E cls d H))
    (hb : ∀ (W : WX) (pn : List (Addr × Obj)) (xe : Value → Shared → Prop), Takes (X.tr pn xe) W → JB (X.tr pn xe) Cl W body mb)
    (hsu : ∀ (a : Addr) (oe : Obj) (pn : List (Addr × Obj)), JSs (X.suite a ((a, oe) :: pn)) Cl E0 (b₀ :: suite) ms)
    (hsub : ∀ c b, sub c = some b → PySem.W.exmOne X.K (.ref (Cl c)) (.ref (Cl hc)) = some b)
    (hs : X.stack = X.env :: X.outer := by rfl) (hf : X.env.frame = some X.env.locals := by rfl) (hg : Gl X x := by rfl) (hdb : (x == ("__debug__" : Str)) = false := by decide) :
    JS X Cl E (.Try body [.ExceptHandler (some (.Name x np)) none (b₀ :: suite) pos'] [] [] pos) (mTry1 mb sub ms) := by
  refine ⟨_, ps_try_only (tb := fun W => tBody X.K Cl mb W) (ts := fun _ _ _ D σ H => ∃ β s st, HR X.K Cl β H st ∧ SR X.K β H s σ ∧ PoS X.K Cl E0 D β H (ms s st)) hs hf ⟨hg, hdb, .inl hm⟩ tk (fun W pn xe t _ => (hb W pn xe t).ps) (fun a oe cls d pn _ _ => ?_), fun β H σ s st D hr hs h => ⟨β, s, st, hr, hs, ?_⟩⟩
  · obtain ⟨t, p, q⟩ := (hsu a oe pn).ex
    exact pss_imp p fun D σ H ⟨β, s, st, hr, hs, h⟩ => q β H σ s st D hr hs h
  · simp only [mTry1] at h
    cases ei : mb s st with
    | exc c fs st1 =>
      rw [ei] at h
      simp only at h
      intro β1 H1 d e1 hr1 rx
      cases es : sub c with
      | none => rw [es] at h; exact h.elim
      | some b =>
        rw [es] at h
        refine ⟨b, hsub c b es, fun hb a ha => ?_, fun hb => ?_⟩
        · subst hb
          have h2 := PoS.ext e1 h
          refine ⟨β1, s, st1, hr1, hs.ext e1, ?_⟩
          simp only at h2
          cases eo : ms s st1 with
          | exc c2 fs2 st2 => rw [eo] at h2; exact h2.elim
          | nx s2 st2 => rw [eo] at h2; exact h2
          | rt w st2 => rw [eo] at h2; exact h2
          | bk s2 st2 => rw [eo] at h2; exact h2
          | ct s2 st2 => rw [eo] at h2; exact h2
          | stuck => rw [eo] at h2; exact h2
        · subst hb
          exact h β1 H1 d e1 hr1 rx
    | nx s1 st1 => rw [ei] at h; exact h
    | rt w st1 => rw [ei] at h; exact h
    | bk s1 st1 => rw [ei] at h; exact h
    | ct s1 st1 => rw [ei] at h; exact h
    | stuck => rw [ei] at h; exact h
/-! ### statement by statement -/
theorem defX_rt {n k : Nat} {body : MS} {ws : List W} {st st' : Sto} {w : W} (hl : ws.length = n) (h : body (ws.map some ++ List.replicate k none) st = .rt w st') : mDefX n k body ws st = .ok w st' := by
  simp only [mDefX, hl, if_true, h]
theorem defX_nx {n k : Nat} {body : MS} {ws : List W} {st st' : Sto} {s' : Slo} (hl : ws.length = n) (h : body (ws.map some ++ List.replicate k none) st = .nx s' st') : mDefX n k body ws st = .ok .non st' := by
  simp only [mDefX, hl, if_true, h]
theorem defX_exc {n k c : Nat} {fs : Fl} {body : MS} {ws : List W} {st st' : Sto} (hl : ws.length = n) (h : body (ws.map some ++ List.replicate k none) st = .exc c fs st') : mDefX n k body ws st = .exc c fs st' := by
  simp only [mDefX, hl, if_true, h]
theorem seq_exc {a b : MS} {s : Slo} {st st1 : Sto} {c : Nat} {fs : Fl} (h : a s st = .exc c fs st1) : mSeq a b s st = .exc c fs st1 := by
  simp only [mSeq, h, SO.then]
end Mi
/-! The mirror layer, part Y: try with several clauses, named or not; errors with fields of their own; what a suite asks of its error. -/
namespace Mi
open PySem L2
open PyProof.Rows hiding St

/-! ### the clauses of a try -/
/-- an error stands caught in this frame; h3 is the heap at which its clauses are asked -/
structure Got (X : Cx) (pins : List (Addr × Obj)) (σ : St) (H : Hp) (s : Shared) (a : Addr) (cls : Value) (d : Option Addr) (B : Heap) (sI : Shared) (h3 : Heap) : Prop where
  inv : Inv X pins σ H sI
  low : ∀ b o, sI.heap.get? b = some o → b ∉ frs X.stack → B.get? b = some o
  up : sI.heap.UpToSlots h3
  os : s.os = sI.os
  ag : AllBare s.gens
  fl : HandSPX.FlyingZ B (X.env :: X.outer) a (Zc cls d) h3
  na : H a = none
theorem Got.enter {X : Cx} {pins : List (Addr × Obj)} {σ : St} {H : Hp} {s sI : Shared} {a : Addr} {cls : Value} {d : Option Addr} {B h3 h4 : Heap} (G : Got X pins σ H s a cls d B sI h3) (hf : X.env.frame = some X.env.locals)
    (fl : HandSPX.FlyingZ B (X.env :: X.outer) a (Zc cls d) h4) (up : h3.UpToSlots h4) : ∃ oe, Zc cls d oe ∧ (∃ vs, oe.data = .fields vs) ∧ h4.get? a = some oe ∧ Inv X pins σ H { s with heap := h4 } ∧ Inv (X.suite a ((a, oe) :: (X.pn ++ pins))) [] σ H { s with heap := h4 } := by
  have J : Inv X pins σ H { s with heap := h4 } := G.inv.landed G.low fl.1 (G.up.trans up) G.os G.ag
  obtain ⟨oe, vs, he, hz, hd⟩ := fl.there
  have out : a ∉ frs (X.env :: X.outer) := fun hm => by
    obtain ⟨_, o2, g2, nf⟩ := fl.2.2.1.mem hm
    have : oe = o2 := Option.some.inj (he.symm.trans g2)
    exact nf vs (this ▸ hd)
  have n1 : a ≠ X.env.locals := fun z => out (List.mem_filterMap.mpr ⟨X.env, List.mem_cons_self, hf.trans (congrArg some z.symm)⟩)
  have n2 : a ∉ X.fs := fun hm => by
    obtain ⟨e2, m2, q2⟩ := List.mem_filterMap.mp hm
    exact out (List.mem_filterMap.mpr ⟨e2, List.mem_cons_of_mem _ m2, q2⟩)
  exact ⟨oe, hz, ⟨vs, hd⟩, he, J, J.suite he hd G.na n1 n2⟩
/-- what is wished of a suite's ends: its name goes -/
def Ends.drop (D : Ends) : Option Nat → Ends
  | none => D
  | some i => { nx := fun σ' H' => D.nx (σ'.set i none) H', rt := D.rt, bk := fun σ' H' => D.bk (σ'.set i none) H', ct := fun σ' H' => D.ct (σ'.set i none) H' }
def bindE (a : Addr) (σ : St) : Option Nat → St
  | none => σ
  | some i => σ.set i (some (.ref a))
abbrev Cls1 := Value × Option Nat × (Addr → Value → Option Addr → TS)
/-- what the clauses wish of an error, one after the other -/
def wList (K : PySem.W.Frag) (Wout : WX) (D : Ends) : List Cls1 → WX
  | [] => Wout
  | (c, i, ts) :: r => fun cls d σ H => ∃ b, PySem.W.exmOne K cls c = some b ∧ (b = true → ∀ a, H a = none → ts a cls d (Ends.drop D i) (bindE a σ i) H) ∧ (b = false → wList K Wout D r cls d σ H)
inductive Cla (X : Cx) : List ExceptHandler → List Cls1 → Prop
  | nil : Cla X [] []
  | cons0 {x : Str} {c : Value} {ts : Addr → Value → Option Addr → TS} {b₀ : Stmt} {suite : List Stmt} {np pos' : Pos} {hds : List ExceptHandler} {l : List Cls1} (hc : Names X x c)
      (hsu : ∀ (a : Addr) (oe : Obj) (cls : Value) (d : Option Addr) (pn : List (Addr × Obj)), Zc cls d oe → (∃ vs, oe.data = .fields vs) → PSs (X.suite a ((a, oe) :: pn)) (b₀ :: suite) (ts a cls d)) (r : Cla X hds l) :
      Cla X (.ExceptHandler (some (.Name x np)) none (b₀ :: suite) pos' :: hds) ((c, none, ts) :: l)
  | cons1 {x n : Str} {i : Nat} {c : Value} {ts : Addr → Value → Option Addr → TS} {b₀ : Stmt} {suite : List Stmt} {np pos' : Pos} {hds : List ExceptHandler} {l : List Cls1} (hc : Names X x c) (hi : X.N[i]? = some n) (hl : X.env.kindOf n = some .local)
      (hsu : ∀ (a : Addr) (oe : Obj) (cls : Value) (d : Option Addr) (pn : List (Addr × Obj)), Zc cls d oe → (∃ vs, oe.data = .fields vs) → PSs (X.suite a ((a, oe) :: pn)) (b₀ :: suite) (ts a cls d)) (r : Cla X hds l) :
      Cla X (.ExceptHandler (some (.Name x np)) (some n) (b₀ :: suite) pos' :: hds) ((c, some i, ts) :: l)
section
variable {X : Cx} {pins : List (Addr × Obj)} {σ : St} {H : Hp} {s sI : Shared} {a : Addr} {cls : Value} {d : Option Addr} {B h3 : Heap} {D : Ends} {Wout : WX}
/-- a clause's class is looked up and asked -/
theorem Got.asks (G : Got X pins σ H s a cls d B sI h3) (hf : X.env.frame = some X.env.locals) {x : Str} {c : Value} {np : Pos} {b : Bool} (hc : Names X x c) (hb : PySem.W.exmOne X.K cls c = some b) {Q : Bool → Shared → Prop} {E : Value → Shared → Prop}
    (hq : Q b { s with heap := h3 }) : wpAny (model X.prog X.w) (X.A.mark (some (.ref a))) (do let v ← eval (.Name x np) X.env; excMatches (.ref a) v) Q E { s with heap := h3 } := by
  obtain ⟨oe, hz, hd, he, J, S⟩ := G.enter hf G.fl (fun b o e n => ⟨o.slots, e⟩)
  have ty : PySem.W.Looks (model X.prog X.w) h3 (typeOf (.ref a)) cls := fun A Q E s2 keep k => wpAny_typeOf_ref (keep _ _ he) (by rw [hz.1]; exact k)
  have look := PySem.W.exm_one (M := model X.prog X.w) J.kIn ty hb
  refine wpAny_bind ?_
  obtain ⟨hg, hdbg, hm | ⟨hm, hv, hnn⟩⟩ := hc
  · exact ld_glob (X := X.suite a ((a, oe) :: (X.pn ++ pins))) S hg hm (look.here hq) hdbg
  · exact ld_blt (X := X.suite a ((a, oe) :: (X.pn ++ pins))) S hg hm hv (look.here hq) hnn hdbg
theorem Got.asks' (G : Got X pins σ H s a cls d B sI h3) (hf : X.env.frame = some X.env.locals) {x : Str} {c : Value} {np : Pos} (hc : Names X x c) {Q : Value → Shared → Prop} {E : Value → Shared → Prop} (hq : Q c { s with heap := h3 }) :
    wpAny (model X.prog X.w) (X.A.mark (some (.ref a))) (eval (.Name x np) X.env) Q E { s with heap := h3 } := by
  obtain ⟨oe, hz, hd, he, J, S⟩ := G.enter hf G.fl (fun b o e n => ⟨o.slots, e⟩)
  obtain ⟨hg, hdbg, hm | ⟨hm, hv, hnn⟩⟩ := hc
  · exact ld_glob (X := X.suite a ((a, oe) :: (X.pn ++ pins))) S hg hm hq hdbg
  · exact ld_blt (X := X.suite a ((a, oe) :: (X.pn ++ pins))) S hg hm hv hq hnn hdbg
theorem Got.look (G : Got X pins σ H s a cls d B sI h3) (hf : X.env.frame = some X.env.locals) {c : Value} {b : Bool} (hb : PySem.W.exmOne X.K cls c = some b) : PySem.W.Looks (model X.prog X.w) h3 (excMatches (.ref a) c) b := by
  obtain ⟨oe, hz, hd, he, J, S⟩ := G.enter hf G.fl (fun b o e n => ⟨o.slots, e⟩)
  exact PySem.W.exm_one (M := model X.prog X.w) J.kIn (fun A Q E s2 keep k => wpAny_typeOf_ref (keep _ _ he) (by rw [hz.1]; exact k)) hb
/-- no clause is left: the error flies on -/
theorem Got.none_left (G : Got X pins σ H s a cls d B sI h3) (hs : X.stack = X.env :: X.outer) (hf : X.env.frame = some X.env.locals) (tk : Takes X Wout) (w : Wout cls d σ H) :
    wpAny (model X.prog X.w) X.A (handleBy (.ref a) X.env []) (SP X pins D) X.xe { s with heap := h3 } := by
  refine wpAny_handleBy_nil ?_
  obtain ⟨-, -, -, oe, vs, T, oT, ts, he, -, hd, h1, -⟩ := id G.fl
  have off : wpAny (model X.prog X.w) X.A (setFlight (.ref a) X.env.frame) (fun _ s4 => wpAny (model X.prog X.w) X.A (throw (.ref a) : Sem Flow) (SP X pins D) X.xe s4) X.xe { s with heap := h3 } := by
    rw [hf]
    exact HandSPX.setFlight_upZ G.fl fun h4 held up4 => wpAny_throw (tk _ _ ⟨a, B, sI, pins, σ, H, cls, d, rfl, G.inv, G.low, G.up.trans up4, .inr (.inr (hs ▸ held)), G.na, G.os, G.ag, w⟩)
  unfold PySem.passOn
  refine wpAny_bind (wpAny_field he hd h1 ?_)
  rw [if_neg (by simp)]
  first
    | exact wpAny_bind (wpAny_pure (wpAny_bind off))
    | exact wpAny_bind off
theorem Got.run (G : Got X pins σ H s a cls d B sI h3) (hs : X.stack = X.env :: X.outer) (hf : X.env.frame = some X.env.locals) (hN : X.N.Nodup) (tk : Takes X Wout) {hds : List ExceptHandler} {l : List Cls1} (hk : Cla X hds l) (w : wList X.K Wout D l cls d σ H) :
    wpAny (model X.prog X.w) X.A (handleBy (.ref a) X.env hds) (SP X pins D) X.xe { s with heap := h3 } := by
  induction hk with
  | nil => exact G.none_left hs hf tk w
  | cons0 hc hsu r ih =>
    obtain ⟨b, hb, yes, no⟩ := w
    refine wpAny_handleBy_cons (codeAny_handlers_test ?_) (fun q => nomatch q)
    refine G.asks' hf hc ((G.look hf hb).here ?_)
    cases b with
    | false => exact ih (no rfl)
    | true =>
      refine codeAny_handlers_suite (HandSPX.lands_againZ G.fl fun h4 fl4 up4 => ?_)
      obtain ⟨oe, hz, hd, -, J, S⟩ := G.enter hf fl4 up4
      refine wpAny_mono ((hsu a oe cls d (X.pn ++ pins) hz hd).run [] _ _ H D S (yes rfl a G.na)) (fun f s6 e6 => ?_) (fun _ _ z => z.elim)
      cases f with
      | ret u => obtain ⟨v, σ6, H6, I6, r6, q6⟩ := e6; exact ⟨v, σ6, H6, I6.unsuite G.inv.ok, r6, q6⟩
      | _ => obtain ⟨σ6, H6, I6, q6⟩ := e6; exact ⟨σ6, H6, I6.unsuite G.inv.ok, q6⟩
  | @cons1 x n i c ts b₀ suite np pos' hds2 l2 hc hi hl hsu r ih =>
    obtain ⟨b, hb, yes, no⟩ := w
    refine wpAny_handleBy_cons (codeAny_handlers_test ?_) (fun q => nomatch q)
    refine G.asks' hf hc ((G.look hf hb).here ?_)
    cases b with
    | false => exact ih (no rfl)
    | true =>
      refine codeAny_handlers_suite_as (HandSPX.lands_againZ G.fl fun h4 fl4 up4 => ?_)
      obtain ⟨oe, hz, hd, -, J, S⟩ := G.enter hf fl4 up4
      refine store_ok (X := X.suite a ((a, oe) :: (X.pn ++ pins))) (v := .ref a) S hN hi (.inl hl) rfl (fun s5 S5 => ?_) (.inr hl)
      refine wpAny_mono ((hsu a oe cls d (X.pn ++ pins) hz hd).run [] _ _ H _ S5 (yes rfl a G.na)) (fun f s6 e6 => ?_) (fun _ _ z => z.elim)
      have gone : ∀ {σ6 : St} {H6 : Hp} {Q : Shared → Prop}, Inv (X.suite a ((a, oe) :: (X.pn ++ pins))) [] σ6 H6 s6 → (∀ s7, Inv X pins (σ6.set i none) H6 s7 → Q s7) →
          wpAny (model X.prog X.w) X.A (do bindName X.env n .none; unbindBehindTheSuite X.env n pos') (fun _ s7 => Q s7) X.xe s6 := fun I6 k => gone_ok (I6.unsuite G.inv.ok) hN hi hl k
      cases f with
      | ret u => obtain ⟨v, σ6, H6, I6, r6, q6⟩ := e6; exact gone I6 fun s7 J7 => ⟨v, _, _, J7, r6, q6⟩
      | next => obtain ⟨σ6, H6, I6, q6⟩ := e6; exact gone I6 fun s7 J7 => ⟨_, _, J7, q6⟩
      | brk => obtain ⟨σ6, H6, I6, q6⟩ := e6; exact gone I6 fun s7 J7 => ⟨_, _, J7, q6⟩
      | cont => obtain ⟨σ6, H6, I6, q6⟩ := e6; exact gone I6 fun s7 J7 => ⟨_, _, J7, q6⟩
end
theorem ps_tryC {X : Cx} {body : List Stmt} {h₀ : ExceptHandler} {hds : List ExceptHandler} {l : List Cls1} {pos : Pos} {tb : WX → TS} {Wout : WX} (hs : X.stack = X.env :: X.outer) (hf : X.env.frame = some X.env.locals) (hN : X.N.Nodup) (tk : Takes X Wout)
    (hb : ∀ (W : WX) (pn : List (Addr × Obj)) (xe : Value → Shared → Prop), Takes (X.tr pn xe) W → PassesOwn (model X.prog X.w) X.A X.env xe → PSs (X.tr pn xe) body (tb W))
    (hh : Cla X (h₀ :: hds) l) : PS X (.Try body (h₀ :: hds) [] [] pos) (fun D σ H => tb (wList X.K Wout D l) D σ H) := by
  refine ⟨fun pins s σ H D I h => wpAny_Try_except ?_⟩
  have ok := I.ok
  have hfr : X.A.frames = some (X.env :: X.outer) := ok.frames.trans (congrArg some hs)
  have run := (hb (wList X.K Wout D l) (X.pn ++ pins) (fun e s₁ => wpAny (model X.prog X.w) X.A (noteFrame e X.env) (fun _ s₂ => wpAny (model X.prog X.w) X.A (setFlight e none) (fun _ s₃ =>
    wpAny (model X.prog X.w) X.A (handleBy e X.env (h₀ :: hds)) (SP X pins D) X.xe s₃) X.xe s₂) X.xe s₁) (fun u s' xx => ?_) PassesOwn.looking).run [] s σ H D (I.toTry _) h
  · refine wpAny_mono run (fun f s1 e1 => ?_) (fun e s1 z => z)
    cases f with
    | ret u => obtain ⟨v, σ1, H1, I1, r1, q1⟩ := e1; exact ⟨v, σ1, H1, I1.ofTry ok, r1, q1⟩
    | next => obtain ⟨σ1, H1, I1, q1⟩ := e1; exact wpAny_execs_nil ⟨σ1, H1, I1.ofTry ok, q1⟩
    | brk => obtain ⟨σ1, H1, I1, q1⟩ := e1; exact ⟨σ1, H1, I1.ofTry ok, q1⟩
    | cont => obtain ⟨σ1, H1, I1, q1⟩ := e1; exact ⟨σ1, H1, I1.ofTry ok, q1⟩
  · obtain ⟨a, B, sI, pins2, σ1, H1, cls, d, rfl, I1, low, up, sky, na, os, ag, w⟩ := xx
    have sky2 : Sky B (X.env :: X.outer) a (Zc cls d) X.env.locals s'.heap := hs ▸ sky
    exact Sky.land Zc.steady hfr hf sky2 fun h3 fl3 up3 => Got.run ⟨I1.ofTry ok, low, up.trans up3, os, ag, fl3, na⟩ hs hf hN tk hh w
end Mi
/-! The mirror layer, part Z: named clauses: what a suite asks of its error; errors with fields. -/
namespace Mi
open PySem L2
/-- the error in hand: slot i holds it, its fields are fs -/
def Hand (K : PySem.W.Frag) (β : Bt) (H : Hp) (σ : St) (i : Nat) (a : Addr) (fs : Fl) (d : Option Addr) : Prop :=
  σ[i]? = some (some (.ref a)) ∧ ((fs = [] ∧ d = none) ∨ ∃ dd gs, d = some dd ∧ dd ∈ β.pr ∧ H dd = some (.xd gs) ∧ RF K β H fs gs)
theorem Hand.ext {K : PySem.W.Frag} {β β' : Bt} {H H' : Hp} {σ : St} {i : Nat} {a : Addr} {fs : Fl} {d : Option Addr} (h : Hand K β H σ i a fs d) (e : Ext K β H β' H') : Hand K β' H' σ i a fs d := by
  refine ⟨h.1, h.2.imp (fun x => x) ?_⟩
  rintro ⟨dd, gs, h1, h2, h3, h4⟩
  obtain ⟨q1, q2⟩ := e.prot dd h2 _ h3
  exact ⟨dd, gs, h1, q1, q2, h4.ext e⟩
structure QE (X : Cx) (Cl : Nat → Addr) (i : Nat) (a : Addr) (fs : Fl) (d : Option Addr) (e : Expr) (m : ME) : Prop where
  ex : ∃ t, PE X e t ∧ ∀ β H σ s st Q, HR X.K Cl β H st → SR X.K β H s σ → Hand X.K β H σ i a fs d → Po X.K Cl E0 β H Q (m s st) → t σ H Q
structure QA (X : Cx) (Cl : Nat → Addr) (i : Nat) (a : Addr) (fs : Fl) (d : Option Addr) (es : List Expr) (m : MA) : Prop where
  ex : ∃ t, PA X es t ∧ ∀ β H σ s st Q, HR X.K Cl β H st → SR X.K β H s σ → Hand X.K β H σ i a fs d → PoL X.K Cl E0 β H Q (m s st) → t σ H Q
structure QT (X : Cx) (Cl : Nat → Addr) (i : Nat) (a : Addr) (fs : Fl) (d : Option Addr) (e : Expr) (m : MT) : Prop where
  ex : ∃ t, PT X e t ∧ ∀ β H σ s st Q, HR X.K Cl β H st → SR X.K β H s σ → Hand X.K β H σ i a fs d → PoB X.K Cl E0 β H Q (m s st) → t σ H Q
structure QW (X : Cx) (Cl : Nat → Addr) (i : Nat) (a : Addr) (fs : Fl) (d : Option Addr) (e : Expr) (m : MT) : Prop where
  ex : ∃ t, PW X e t ∧ ∀ β H σ s st Q, HR X.K Cl β H st → SR X.K β H s σ → Hand X.K β H σ i a fs d → PoB X.K Cl E0 β H Q (m s st) → t σ H Q
structure QS (X : Cx) (Cl : Nat → Addr) (i : Nat) (a : Addr) (fs : Fl) (d : Option Addr) (es : List Stmt) (m : MS) : Prop where
  ex : ∃ t, PSs X es t ∧ ∀ β H σ s st D, HR X.K Cl β H st → SR X.K β H s σ → Hand X.K β H σ i a fs d → PoS X.K Cl E0 D β H (m s st) → t D σ H
section
variable {X : Cx} {Cl : Nat → Addr} {i : Nat} {a : Addr} {fs : Fl} {d : Option Addr} {pos : Pos}
theorem qe_of {e : Expr} {m : ME} (h : JE X Cl E0 e m) : QE X Cl i a fs d e m := by
  obtain ⟨t, p, q⟩ := h.ex
  exact ⟨t, p, fun β H σ s st Q hr hs _ h => q β H σ s st Q hr hs h⟩
theorem qe_cmp {x y : Expr} {mx my : ME} {op : CmpOp} {r : R2} {m : M2} (ho : OpR X (compareOp op) r ∧ SOp X.K Cl E0 r m) (hx : QE X Cl i a fs d x mx) (hy : QE X Cl i a fs d y my) (hm : behindInMarks op y = false) : QE X Cl i a fs d (.Compare x [op] [y] pos) (mOp m mx my) := by
  obtain ⟨_, p1, q1⟩ := hx.ex
  obtain ⟨_, p2, q2⟩ := hy.ex
  refine ⟨_, pe_cmpR ho.1 p1 p2 hm, fun β H σ s st Q hr hs hh h => q1 β H σ s st _ hr hs hh (h.bind fun x st1 β1 H1 v _ e1 hr1 rx h1 => q2 β1 H1 σ s st1 _ hr1 (hs.ext e1) (hh.ext e1) (h1.bind fun y st2 β2 H2 u _ e2 hr2 ry h2 => ?_))⟩
  exact ho.2 β2 H2 st2 x y v u Q hr2 (rx.ext e2) ry h2
theorem qe_one {op : BoolOp} {x : Expr} {mx : ME} (h : QE X Cl i a fs d x mx) : QE X Cl i a fs d (.BoolOp op [x] pos) mx := by
  obtain ⟨t, p, q⟩ := h.ex
  exact ⟨t, pe_one p, q⟩
theorem qe_and {x y : Expr} {rest : List Expr} {mx my : ME} (hx : QE X Cl i a fs d x mx) (hy : QE X Cl i a fs d (.BoolOp .And (y :: rest) pos) my) : QE X Cl i a fs d (.BoolOp .And (x :: y :: rest) pos) (mAndV mx my) := by
  obtain ⟨_, p1, q1⟩ := hx.ex
  obtain ⟨_, p2, q2⟩ := hy.ex
  refine ⟨_, pe_andT p1 p2, fun β H σ s st Q hr hs hh h => q1 β H σ s st _ hr hs hh (h.bind fun x st1 β1 H1 v _ e1 hr1 rx h1 => ?_)⟩
  split at h1
  · rename_i e
    exact ⟨true, truth_ok hr1 rx e, by rw [if_pos rfl]; exact q2 β1 H1 σ s st1 Q hr1 (hs.ext e1) (hh.ext e1) h1⟩
  · rename_i e
    exact ⟨false, truth_ok hr1 rx e, by rw [if_neg Bool.false_ne_true]; exact PoG.val h1 hr1 rx⟩
  · exact h1.elim
theorem qa_nil : QA X Cl i a fs d [] mNil := ⟨_, pa_nil, fun β H σ s st Q hr hs _ h => PoG.val h hr .nil⟩
theorem qa_cons {e : Expr} {es : List Expr} {ma : ME} {mr : MA} (ha : QE X Cl i a fs d e ma) (hr : QA X Cl i a fs d es mr) (hs : starEach (e :: es) X.env = (false, eval e X.env) :: starEach es X.env := by rfl) : QA X Cl i a fs d (e :: es) (mCons ma mr) := by
  obtain ⟨_, p1, q1⟩ := ha.ex
  obtain ⟨_, p2, q2⟩ := hr.ex
  refine ⟨_, pa_cons p1 p2 hs, fun β H σ s st Q hr hs hh h => q1 β H σ s st _ hr hs hh (h.bind fun x st1 β1 H1 v _ e1 hr1 rx h1 => q2 β1 H1 σ s st1 _ hr1 (hs.ext e1) (hh.ext e1) (h1.bind fun y st2 β2 H2 u _ e2 hr2 ry h2 => ?_))⟩
  exact PoG.val h2 hr2 (.cons (rx.ext e2) ry)
theorem qe_tup {k : Nat} {es : List Expr} {mr : MA} (h : QA X Cl i a fs d es mr) : QE X Cl i a fs d (.Tuple es k pos) (mTup mr) := by
  obtain ⟨_, p, q⟩ := h.ex
  refine ⟨_, pe_tup p, fun β H σ s st Q hr hs hh h => q β H σ s st _ hr hs hh (h.bind fun x st1 β1 H1 v _ e1 hr1 rx h1 => ?_)⟩
  split at h1
  · rename_i hz
    exact ⟨by rw [← rx.length]; exact hz, fun l hl => Po.tup h1 hr1 hl rx⟩
  · exact h1.elim
theorem qt_tru {e : Expr} {m : ME} (h : QE X Cl i a fs d e m) (he : ∀ whole, isTrue e X.env whole = (do let v ← whole; standAt e.pos; holding [v] (truthy v)) := by intro _; rfl) : QT X Cl i a fs d e (mTru m) := by
  obtain ⟨t, p1, q1⟩ := h.ex
  refine ⟨_, pt_truth p1 he, fun β H σ s st Q hr hs hh hp => q1 β H σ s st _ hr hs hh (hp.bind fun x st1 β1 H1 v _ e1 hr1 rx h1 => ?_)⟩
  split at h1
  · rename_i k e
    exact ⟨k, truth_ok hr1 rx e, PoG.val h1 hr1 rfl⟩
  · exact h1.elim
theorem qt_w {e : Expr} {m : MT} (h : QW X Cl i a fs d e m) : QT X Cl i a fs d e m := by
  obtain ⟨t, p, q⟩ := h.ex
  exact ⟨t, p.pt, q⟩
theorem qw_and1 {e : Expr} {m : MT} (h : QT X Cl i a fs d e m) : QW X Cl i a fs d (.BoolOp .And [e] pos) m := by
  obtain ⟨t, p, q⟩ := h.ex
  exact ⟨t, pw_and1 p, q⟩
theorem qw_and {x y : Expr} {rest : List Expr} {mx my : MT} (ha : QT X Cl i a fs d x mx) (hb : QW X Cl i a fs d (.BoolOp .And (y :: rest) pos) my) : QW X Cl i a fs d (.BoolOp .And (x :: y :: rest) pos) (mTAnd mx my) := by
  obtain ⟨_, p1, q1⟩ := ha.ex
  obtain ⟨_, p2, q2⟩ := hb.ex
  refine ⟨_, pw_and p1 p2, fun β H σ s st Q hr hs hh h => q1 β H σ s st _ hr hs hh (h.bind fun x st1 β1 H1 v _ e1 hr1 rx h1 => ?_)⟩
  cases rx
  cases x with
  | true => rw [if_pos rfl] at h1 ⊢; exact q2 β1 H1 σ s st1 Q hr1 (hs.ext e1) (hh.ext e1) h1
  | false => rw [if_neg Bool.false_ne_true] at h1 ⊢; exact PoG.val h1 hr1 rfl
theorem qs_of {es : List Stmt} {m : MS} (h : JSs X Cl E0 es m) : QS X Cl i a fs d es m := by
  obtain ⟨t, p, q⟩ := h.ex
  exact ⟨t, p, fun β H σ s st D hr hs _ h => q β H σ s st D hr hs h⟩
theorem qs_ret {e : Expr} {m : ME} (h : QE X Cl i a fs d e m) : QS X Cl i a fs d [.Return (some e) pos] (mRet m) := by
  obtain ⟨_, p, q⟩ := h.ex
  refine ⟨_, pss_one (ps_ret p), fun β H σ s st D hr hs hh h => q β H σ s st _ hr hs hh ?_⟩
  exact h.run fun w st1 β1 H1 v _ e1 hr1 rv h1 => h1 β1 H1 v (Ext.refl _ _ _) hr1 rv
/-- if test: suite, and what follows -/
theorem qs_if {c : Expr} {as rest : List Stmt} {mc : MT} {m1 m2 : MS} (hc : QT X Cl i a fs d c mc) (h1 : JSs X Cl E0 as m1) (h2 : JSs X Cl E0 rest m2) : QS X Cl i a fs d (.If c as [] pos :: rest) (mSeq (mIfS mc m1 mSkip) m2) := by
  obtain ⟨_, p, q⟩ := hc.ex
  obtain ⟨_, p1, q1⟩ := h1.ex
  obtain ⟨w2, p2, q2⟩ := h2.ex
  obtain ⟨_, p0, q0⟩ := (jss_nil (X := X) (Cl := Cl) (E := E0)).ex
  refine ⟨_, pss_cons (ps_if p p1 p0) p2, fun β H σ s st D hr hs hh h => ?_⟩
  refine q β H σ s st _ hr hs hh ?_
  simp only [mSeq, mIfS] at h
  cases e : mc s st with
  | stuck => rw [e] at h; exact h.elim
  | exc c fs2 st1 => rw [e] at h; exact h
  | ok k st1 =>
    rw [e] at h
    intro β1 H1 b e1 hr1 eb
    subst eb
    have h' := PoS.ext e1 h
    have thn : ∀ (o : SO) (t1 : TS), (∀ D', PoS X.K Cl E0 D' β1 H1 o → t1 D' σ H1) → PoS X.K Cl E0 D β1 H1 (o.then m2) → t1 { D with nx := w2 D } σ H1 := fun o t1 k1 k2 => k1 _ (by
      cases o with
      | nx s2 st2 => exact fun β2 H2 σ2 e2 hr2 hs2 => q2 β2 H2 σ2 s2 st2 D hr2 hs2 (PoS.ext e2 k2)
      | rt w2 st2 => exact k2
      | bk s2 st2 => exact k2
      | ct s2 st2 => exact k2
      | exc c fs2 st2 => exact k2
      | stuck => exact k2)
    cases k with
    | true =>
      rw [if_pos rfl]
      exact thn (m1 s st1) _ (fun D' z => q1 β1 H1 σ s st1 D' hr1 (hs.ext e1) z) h'
    | false =>
      rw [if_neg Bool.false_ne_true]
      exact thn (mSkip s st1) _ (fun D' z => q0 β1 H1 σ s st1 D' hr1 (hs.ext e1) z) h'
end
/-! ### isinstance(e, C), e.f -/
theorem kit_ref {K : PySem.W.Frag} {D C : Addr} (hd : PySem.W.hasDictIn K C = true) (ht : PySem.W.typeIn K (.ref C) = some (.type "type")) (hs : PySem.W.subIn K (.ref D) (.ref C) = some true) : PySem.W.kitOne K (.ref D) (.ref C) = some true := by
  unfold PySem.W.kitOne
  split
  · rfl
  · obtain ⟨cd, hc, -⟩ := PySem.W.any_some hd
    have h2 : (PySem.W.clsIn K C).isSome = true := by rw [hc]; rfl
    have h3 : ((PySem.W.clsIn K C).isSome && PySem.W.typeIn K (.ref C) == some (.type "type")) = true := by rw [h2, ht]; rfl
    show (if ((PySem.W.clsIn K C).isSome && PySem.W.typeIn K (.ref C) == some (.type "type")) = true then PySem.W.subIn K (.ref D) (.ref C) else none) = some true
    rw [if_pos h3]
    exact hs
theorem kit_typ {K : PySem.W.Frag} {D : Addr} {T : String} (hm : PySem.W.kitMeta T = true) (hs : PySem.W.subIn K (.ref D) (.type T) = some true) : PySem.W.kitOne K (.ref D) (.type T) = some true := by
  unfold PySem.W.kitOne
  split
  · rfl
  · unfold PySem.W.kitCls
    simp only [hm, if_true]
    exact hs
theorem call_isX {X : Cx} {a D : Addr} {oe : Obj} {d : Option Addr} {pn : List (Addr × Obj)} (T : ExcC X.K D) (hz : Zc (.ref D) d oe) (hf : ∃ vs, oe.data = .fields vs) :
    CallR (X.suite a ((a, oe) :: pn)) (.builtin "isinstance") (fun xs H Q => ∃ (c : V) (cv : Value) (b : Bool), xs = [.ref a, c] ∧ (∀ u, RelV c u → u = cv) ∧ PySem.W.kitOne X.K (.ref D) cv = some b ∧ (d = none ∨ ∃ dd gs, d = some dd ∧ H dd = some (.xd gs)) ∧ Q (.bl b) H) := by
  intro pins s σ H xs us Q I r h
  obtain ⟨c, cv, b, rfl, hcv, e, hd, q⟩ := h
  cases r with
  | cons rx rr =>
    cases rr with
    | cons rt rr =>
      cases rr
      cases rx
      cases hcv _ rt
      obtain ⟨hget, -⟩ := I.pin (a, oe) (List.mem_append_left _ List.mem_cons_self)
      obtain ⟨vs, hv⟩ := hf
      have nc : PySem.W.notCls oe := by unfold PySem.W.notCls; rw [hv] <;> trivial
      obtain ⟨od, J⟩ : ∃ od, PySem.W.InstAt s.heap a oe D od := by
        rcases hd with hd | ⟨dd, gs, hd, hx⟩
        · exact ⟨none, hget, hz.1, nc, by rw [hz.2, hd]; trivial⟩
        · have hx2 : ObjOk X.prog X.w H s.heap dd (.xd gs) := I.hok dd _ hx
          obtain ⟨mA, hns, -⟩ := hx2
          obtain ⟨od, ho, -⟩ := lookIn_ns hns
          exact ⟨some od, hget, hz.1, nc, by rw [hz.2, hd]; exact ho⟩
      obtain ⟨cd, hcd, -⟩ := PySem.W.any_some T.hd
      exact PySem.W.kia_one (PySem.W.kitx_exc (by rw [hcd]; rfl) T.hg T.hk T.hs T.ha T.hn T.ht T.hm) I.kIn J e (fun z => nomatch z) fun tk => ⟨.bl b, H, I.kept (t' := tk) fun _ _ z => z, rfl, q⟩
section
variable {X : Cx} {Cl : Nat → Addr} {i : Nat} {a D : Addr} {oe : Obj} {fs : Fl} {d : Option Addr} {pn : List (Addr × Obj)} {pos p1 p2 p3 : Pos} {x y : Str}
theorem hand_some {K : PySem.W.Frag} {β : Bt} {H : Hp} {σ : St} (h : Hand K β H σ i a fs d) : d = none ∨ ∃ dd gs, d = some dd ∧ H dd = some (.xd gs) := h.2.imp (fun z => z.2) fun ⟨dd, gs, h1, _, h3, _⟩ => ⟨dd, gs, h1, h3⟩
theorem qe_is {c : V} {cv : Value} {b : Bool} {e2 : Expr} (T : ExcC X.K D) (hz : Zc (.ref D) d oe) (hf : ∃ vs, oe.data = .fields vs) (hm : X.mg "isinstance" = none) (hv : PE (X.suite a ((a, oe) :: pn)) e2 (tC c)) (hcv : ∀ u, RelV c u → u = cv) (hk : PySem.W.kitOne X.K (.ref D) cv = some b)
    (hN : X.N[i]? = some x := by rfl) (hvis : Vis X.env.scope x := by first | exact Or.inl rfl | exact Or.inr (Or.inl rfl) | exact Or.inr (Or.inr rfl)) (hd : (x == ("__debug__" : Str)) = false := by decide) (hcd : (x == ("__classdict__" : Str)) = false := by decide) (hg : Gl X "isinstance" := by rfl)
    (he : starEach [.Name x p1, e2] (X.suite a ((a, oe) :: pn)).env = (false, eval (.Name x p1) (X.suite a ((a, oe) :: pn)).env) :: starEach [e2] (X.suite a ((a, oe) :: pn)).env := by rfl) (he2 : starEach [e2] (X.suite a ((a, oe) :: pn)).env = (false, eval e2 (X.suite a ((a, oe) :: pn)).env) :: starEach [] (X.suite a ((a, oe) :: pn)).env := by rfl)
    (hpl : (backTo pos (starEach [e2] (X.suite a ((a, oe) :: pn)).env)).any (·.1) = false := by rfl) :
    QE (X.suite a ((a, oe) :: pn)) Cl i a fs d (.Call (.Name "isinstance" p3) [.Name x p1, e2] [] pos) (mC (.bl b)) := by
  refine ⟨_, pe_callB (call_isX T hz hf) hg hm PyProof.Rows.boot_isinstance (pa_cons (hs := he) (pe_var (i := i) hN hvis hd hcd) (pa_cons (hs := he2) hv pa_nil)) (he := he) (hpl := hpl), fun β H σ s st Q hr hs hh h => ?_⟩
  exact ⟨.ref a, hh.1, c, cv, b, rfl, hcv, hk, hand_some hh, PoG.val h hr (.bl b)⟩
/-- what the top says of a class of errors whose fields are read -/
structure XFld (K : PySem.W.Frag) (D : Addr) (f : Str) : Prop where
  ga : PySem.W.findIn K (.ref D) "__getattribute__" = some (some (.builtin "BaseException.__getattribute__"))
  gg : PySem.W.findIn K (.ref D) "__getattr__" = some none
  ex : PySem.W.subIn K (.ref D) (.type "BaseException") = some true
  hd : PySem.W.hasDictIn K D = true
  no : PySem.W.findIn K (.ref D) f = some none
@[simp] def mXF (fs : Fl) (f : Str) : ME := fun _ st => match fs.lookup f with
  | some w => .ok w st
  | none => .stuck
theorem qe_fld {f : Str} (T : XFld X.K D f) (hz : Zc (.ref D) d oe) (hf : ∃ vs, oe.data = .fields vs)
    (hN : X.N[i]? = some x := by rfl) (hvis : Vis X.env.scope x := by first | exact Or.inl rfl | exact Or.inr (Or.inl rfl) | exact Or.inr (Or.inr rfl)) (hd : (x == ("__debug__" : Str)) = false := by decide) (hcd : (x == ("__classdict__" : Str)) = false := by decide)
    (hb : attributeBase (.Name x p1) f (X.suite a ((a, oe) :: pn)).env (eval (.Name x p1) (X.suite a ((a, oe) :: pn)).env) = eval (.Name x p1) (X.suite a ((a, oe) :: pn)).env := by rfl) :
    QE (X.suite a ((a, oe) :: pn)) Cl i a fs d (.Attribute (.Name x p1) f pos) (mXF fs f) := by
  refine ⟨fun σ H Q => σ[i]? = some (some (.ref a)) ∧ ∃ dd gs v, d = some dd ∧ H dd = some (.xd gs) ∧ gs.lookup f = some v ∧ Q v H, ⟨fun pins s σ H Q I h => ?_⟩, fun β H σ s st Q hr hs hh h => ?_⟩
  · obtain ⟨hσ, dd, gs, v, ed, ea, hl, q⟩ := h
    refine attr_of hb (thn ((pe_var (X := X.suite a ((a, oe) :: pn)) (i := i) (pos := p1) hN hvis hd hcd).run pins s σ H (fun u H1 => u = .ref a ∧ H1 = H) I ⟨.ref a, hσ, rfl, rfl⟩) fun u s1 hh => ?_)
    obtain ⟨w, H1, I1, rw1, ew, eH⟩ := hh
    subst ew
    subst eH
    cases (show u = Value.ref a from rw1)
    obtain ⟨ha, -⟩ := I1.pin (a, oe) (List.mem_append_left _ List.mem_cons_self)
    obtain ⟨vs, hdat⟩ := hf
    have ok : ObjOk X.prog X.w H1 s1.heap dd (.xd gs) := I1.hok dd _ ea
    obtain ⟨mA, hns, hrel⟩ := ok
    obtain ⟨od, ho, hlk⟩ := lookIn_ns hns
    obtain ⟨u2, hu, ru⟩ := RelO.some_of (v := v) (o := mA f) (by rw [← hl]; exact hrel f)
    have J : PySem.W.InstAt s1.heap a oe D (some od) := ⟨ha, hz.1, by unfold PySem.W.notCls; rw [hdat] <;> trivial, by rw [hz.2, ed]; exact ho⟩
    exact HandSPX.exc_get I1.kIn J T.ga T.gg T.ex (PySem.W.findObj_own T.hd T.no rfl (by rw [hlk, hu])) (handed_of ru) ⟨v, H1, I1.tok _, ru, q⟩
  · simp only [mXF] at h
    split at h
    · rename_i w ew
      rcases hh.2 with ⟨e1, -⟩ | ⟨dd, gs, e1, -, e3, e4⟩
      · rw [e1] at ew; cases ew
      · obtain ⟨v, hv, rv⟩ := e4.look ew
        exact ⟨hh.1, dd, gs, v, e1, e3, hv, PoG.val h hr rv⟩
    · exact h.elim
end
end Mi
/-! The mirror layer, part V: try: one call, and clauses; raise C(e, ..) where C keeps its arguments as fields. -/
namespace Mi
open PySem L2
abbrev MCl := (Nat → Option Bool) × Option Nat × (Nat → Fl → MS)
def dropO (o : SO) : Option Nat → SO
  | none => o
  | some i => match o with
    | .nx s st => .nx (s.set i none) st
    | .bk s st => .bk (s.set i none) st
    | .ct s st => .ct (s.set i none) st
    | o => o
def dropI (s : Slo) : Option Nat → Slo
  | none => s
  | some i => s.set i none
def inI (s : Slo) : Option Nat → Bool
  | none => true
  | some i => decide (i < s.length)
def mCla : List MCl → Nat → Fl → MS
  | [], c, fs => fun _ st => .exc c fs st
  | (sub, nm, ms) :: r, c, fs => fun s st => match sub c with
    | some true => if inI s nm = true then calmS (dropO (ms c fs (dropI s nm) st) nm) else .stuck
    | some false => mCla r c fs s st
    | none => .stuck
@[simp] def mTryC (body : MS) (cl : List MCl) : MS := fun s st => match body s st with
  | .exc c fs st1 => mCla cl c fs s st1
  | o => o
inductive JCla (X : Cx) (Cl : Nat → Addr) : List ExceptHandler → List MCl → Prop
  | nil : JCla X Cl [] []
  | cons0 {x : Str} {hc : Nat} {sub : Nat → Option Bool} {b₀ : Stmt} {suite : List Stmt} {np pos' : Pos} {hds : List ExceptHandler} {l : List MCl} {ms : MS} (hm : X.mg x = some (.ref (Cl hc)))
      (hsub : ∀ c b, sub c = some b → PySem.W.exmOne X.K (.ref (Cl c)) (.ref (Cl hc)) = some b)
      (hsu : ∀ (a : Addr) (oe : Obj) (pn : List (Addr × Obj)), JSs (X.suite a ((a, oe) :: pn)) Cl E0 (b₀ :: suite) ms) (r : JCla X Cl hds l) (hg : Gl X x := by rfl) (hdb : (x == ("__debug__" : Str)) = false := by decide) :
      JCla X Cl (.ExceptHandler (some (.Name x np)) none (b₀ :: suite) pos' :: hds) ((sub, none, fun _ _ => ms) :: l)
  | cons1 {x n : Str} {hc : Nat} (i : Nat) {sub : Nat → Option Bool} {b₀ : Stmt} {suite : List Stmt} {np pos' : Pos} {hds : List ExceptHandler} {l : List MCl} {ms : Nat → Fl → MS} (hm : X.mg x = some (.ref (Cl hc)))
      (hsub : ∀ c b, sub c = some b → PySem.W.exmOne X.K (.ref (Cl c)) (.ref (Cl hc)) = some b)
      (hsu : ∀ (c : Nat), sub c = some true → ∀ (fs : Fl) (a : Addr) (oe : Obj) (d : Option Addr) (pn : List (Addr × Obj)), Zc (.ref (Cl c)) d oe → (∃ vs, oe.data = .fields vs) → QS (X.suite a ((a, oe) :: pn)) Cl i a fs d (b₀ :: suite) (ms c fs)) (r : JCla X Cl hds l)
      (hi : X.N[i]? = some n := by rfl) (hl : X.env.kindOf n = some .local := by rfl) (hg : Gl X x := by rfl) (hdb : (x == ("__debug__" : Str)) = false := by decide) :
      JCla X Cl (.ExceptHandler (some (.Name x np)) (some n) (b₀ :: suite) pos' :: hds) ((sub, some i, ms) :: l)
/-! ### an error's own dict, guarded -/
theorem ext_guardX {K : PySem.W.Frag} {β : Bt} {H : Hp} {dd : Addr} {gs : List (Str × V)} (hx : H dd = some (.xd gs)) : Ext K β H (β.guard dd) H where
  tup := fun _ _ h => h
  lst := fun q vs hq n => ⟨hq, n.1, fun z => by
    rcases List.mem_cons.mp z with z | z
    · subst z; rw [hx] at hq; cases hq
    · exact n.2 z⟩
  frz := fun _ _ _ h => h
  live := fun _ _ h => .inl h
  prot := fun q hq o ho => ⟨List.mem_cons_of_mem _ hq, ho⟩
theorem hr_guardX {K : PySem.W.Frag} {Cl : Nat → Addr} {β : Bt} {H : Hp} {st : Sto} {dd : Addr} {gs : List (Str × V)} (h : HR K Cl β H st) (hx : H dd = some (.xd gs)) : HR K Cl (β.guard dd) H st where
  len := h.len
  inj := h.inj
  ob := fun i a ob hi ho => (h.ob i a ob hi ho).ext (ext_guardX hx) rfl
  dead := h.dead
  prot := fun q hq => by
    rcases List.mem_cons.mp hq with e | hq
    · subst e
      refine ⟨⟨_, hx⟩, fun i hi => ?_⟩
      obtain ⟨ob, ho⟩ : ∃ ob, st[i]? = some ob := ⟨_, List.getElem?_eq_getElem (h.len' hi)⟩
      obtain ⟨u, hu, hm⟩ := (h.ob i q ob hi ho).some
      rw [hx] at hu
      cases hu
      exact hm
    · exact h.prot q hq
theorem sr_unset {K : PySem.W.Frag} {β : Bt} {H : Hp} {s : Slo} {σ : L2.St} (h : SR K β H s σ) (i : Nat) (x : Option V) : SR K β H (s.set i none) (σ.set i x) := by
  refine ⟨by rw [List.length_set, List.length_set, h.1], fun k w hk => ?_⟩
  by_cases e : i = k
  · subst e
    by_cases hl : i < s.length
    · rw [List.getElem?_set_self hl] at hk; cases hk
    · rw [List.getElem?_eq_none (by rw [List.length_set]; omega)] at hk; cases hk
  · rw [List.getElem?_set_ne e] at hk ⊢
    exact h.2 k w hk
section
variable {X : Cx} {Cl : Nat → Addr} {E : XK}
theorem JCla.ex {hds : List ExceptHandler} {cl : List MCl} (h : JCla X Cl hds cl) : ∃ l : List Cls1, Cla X hds l ∧ ∀ (c : Nat) (fs : Fl) (d : Option Addr) (β : Bt) (H : Hp) (σ : L2.St) (s : Slo) (st : Sto) (D : Ends), HR X.K Cl β H st → SR X.K β H s σ → RX X.K β H fs d →
    PoS X.K Cl E D β H (mCla cl c fs s st) → wList X.K (fun cls d _ H => E cls d H) D l (.ref (Cl c)) d σ H := by
  induction h with
  | nil => exact ⟨[], .nil, fun c fs d β H σ s st D hr hs rx h => h β H d (Ext.refl _ _ _) hr rx⟩
  | @cons0 x hc sub b₀ suite np pos' hds l ms hm hsub hsu r hg hdb ih =>
    obtain ⟨l2, k2, q2⟩ := ih
    refine ⟨(.ref (Cl hc), none, fun _ _ _ D σ H => ∃ β s st, HR X.K Cl β H st ∧ SR X.K β H s σ ∧ PoS X.K Cl E0 D β H (ms s st)) :: l2, .cons0 ⟨hg, hdb, .inl hm⟩ (fun a oe cls d pn _ _ => ?_) k2, fun c fs d β H σ s st D hr hs rx h => ?_⟩
    · obtain ⟨t, p, q⟩ := (hsu a oe pn).ex
      exact pss_imp p fun D σ H ⟨β, s, st, hr, hs, h⟩ => q β H σ s st D hr hs h
    · simp only [mCla] at h
      cases es : sub c with
      | none => rw [es] at h; exact h.elim
      | some b =>
        rw [es] at h
        refine ⟨b, hsub c b es, fun hb a ha => ?_, fun hb => ?_⟩
        · subst hb
          refine ⟨β, s, st, hr, hs, ?_⟩
          simp only [inI, if_true, dropI, dropO] at h
          cases eo : ms s st with
          | exc c2 fs2 st2 => rw [eo] at h; exact h.elim
          | nx s2 st2 => rw [eo] at h; exact h
          | rt w st2 => rw [eo] at h; exact h
          | bk s2 st2 => rw [eo] at h; exact h
          | ct s2 st2 => rw [eo] at h; exact h
          | stuck => rw [eo] at h; exact h
        · subst hb
          exact q2 c fs d β H σ s st D hr hs rx h
  | @cons1 x n hc i sub b₀ suite np pos' hds l ms hm hsub hsu r hi hl hg hdb ih =>
    obtain ⟨l2, k2, q2⟩ := ih
    refine ⟨(.ref (Cl hc), some i, fun a cls d D σ H => ∃ c fs β s st, cls = .ref (Cl c) ∧ sub c = some true ∧ HR X.K Cl β H st ∧ SR X.K β H s σ ∧ Hand X.K β H σ i a fs d ∧ PoS X.K Cl E0 D β H (ms c fs s st)) :: l2, .cons1 ⟨hg, hdb, .inl hm⟩ hi hl (fun a oe cls d pn hz hf => ?_) k2, fun c fs d β H σ s st D hr hs rx h => ?_⟩
    · refine ⟨fun pins s0 σ H D I h => ?_⟩
      obtain ⟨c, fs, β, s, st, rfl, hc2, hr, hs, hh, hp⟩ := h
      obtain ⟨t, p, q⟩ := (hsu c hc2 fs a oe d pn hz hf).ex
      exact p.run pins s0 σ H D I (q β H σ s st D hr hs hh hp)
    · simp only [mCla] at h
      cases es : sub c with
      | none => rw [es] at h; exact h.elim
      | some b =>
        rw [es] at h
        refine ⟨b, hsub c b es, fun hb a ha => ?_, fun hb => ?_⟩
        · subst hb
          simp only [inI, dropI] at h
          by_cases hlen : i < s.length
          · simp only [hlen, decide_true, if_true] at h
            have hσ : (σ.set i (some (V.ref a)))[i]? = some (some (.ref a)) := List.getElem?_set_self (by rw [← hs.1]; exact hlen)
            obtain ⟨β2, e2, hr2, hh⟩ : ∃ β2, Ext X.K β H β2 H ∧ HR X.K Cl β2 H st ∧ Hand X.K β2 H (σ.set i (some (.ref a))) i a fs d := by
              rcases rx with rx | ⟨dd, gs, h1, h2, h3⟩
              · exact ⟨β, Ext.refl _ _ _, hr, hσ, .inl rx⟩
              · exact ⟨β.guard dd, ext_guardX h2, hr_guardX hr h2, hσ, .inr ⟨dd, gs, h1, List.mem_cons_self, h2, h3.ext (ext_guardX h2)⟩⟩
            refine ⟨c, fs, β2, s.set i none, st, rfl, es, hr2, sr_unset (hs.ext e2) i _, hh, ?_⟩
            have h' := PoS.ext e2 h
            simp only [dropO] at h'
            cases eo : ms c fs (s.set i none) st with
            | exc c2 fs2 st2 => rw [eo] at h'; exact h'.elim
            | nx s2 st2 => rw [eo] at h'; exact fun β3 H3 σ3 e3 hr3 hs3 => h' β3 H3 _ e3 hr3 (sr_unset hs3 i none)
            | bk s2 st2 => rw [eo] at h'; exact fun β3 H3 σ3 e3 hr3 hs3 => h' β3 H3 _ e3 hr3 (sr_unset hs3 i none)
            | ct s2 st2 => rw [eo] at h'; exact fun β3 H3 σ3 e3 hr3 hs3 => h' β3 H3 _ e3 hr3 (sr_unset hs3 i none)
            | rt w st2 => rw [eo] at h'; exact h'
            | stuck => rw [eo] at h'; exact h'
          · simp only [hlen, decide_false, Bool.false_eq_true, if_false] at h
            exact h.elim
        · subst hb
          exact q2 c fs d β H σ s st D hr hs rx h
theorem js_tryC {body : List Stmt} {h₀ : ExceptHandler} {hds : List ExceptHandler} {cl : List MCl} {pos : Pos} {mb : MS} (hN : X.N.Nodup) (tk : Takes X (fun cls d _ H => E cls d H))
    (hb : ∀ (W : WX) (pn : List (Addr × Obj)) (xe : Value → Shared → Prop), Takes (X.tr pn xe) W → JB (X.tr pn xe) Cl W body mb)
    (hh : JCla X Cl (h₀ :: hds) cl) (hs : X.stack = X.env :: X.outer := by rfl) (hf : X.env.frame = some X.env.locals := by rfl) :
    JS X Cl E (.Try body (h₀ :: hds) [] [] pos) (mTryC mb cl) := by
  obtain ⟨l, k, q⟩ := hh.ex (E := E)
  refine ⟨_, ps_tryC (tb := fun W => tBody X.K Cl mb W) hs hf hN tk (fun W pn xe t _ => (hb W pn xe t).ps) k, fun β H σ s st D hr hs h => ⟨β, s, st, hr, hs, ?_⟩⟩
  simp only [mTryC] at h
  cases ei : mb s st with
  | exc c fs st1 =>
    rw [ei] at h
    intro β1 H1 d e1 hr1 rx
    exact q c fs d β1 H1 σ s st1 D hr1 (hs.ext e1) rx (PoS.ext e1 h)
  | nx s1 st1 => rw [ei] at h; exact h
  | rt w st1 => rw [ei] at h; exact h
  | bk s1 st1 => rw [ei] at h; exact h
  | ct s1 st1 => rw [ei] at h; exact h
  | stuck => rw [ei] at h; exact h
end
/-- a clause that takes just the error D -/
def Only1 (sub : Nat → Option Bool) (D : Nat) : Prop := ∀ c, sub c = some true → c = D
theorem onlyN {D : Nat} : Only1 tabN D := fun c h => by cases h
theorem onlyT {D : Nat} {r : Nat → Option Bool} (h : Only1 r D) : Only1 (tabC D true r) D := fun c hc => by
  unfold tabC at hc
  split at hc
  · assumption
  · exact h c hc
theorem onlyF {D c0 : Nat} {r : Nat → Option Bool} (h : Only1 r D) : Only1 (tabC c0 false r) D := fun c hc => by
  unfold tabC at hc
  split at hc
  · cases hc
  · exact h c hc
theorem JCla.cons1D {X : Cx} {Cl : Nat → Addr} {x n : Str} {hc D : Nat} (i : Nat) {sub : Nat → Option Bool} {b₀ : Stmt} {suite : List Stmt} {np pos' : Pos} {hds : List ExceptHandler} {l : List MCl} {ms : Fl → MS} (hm : X.mg x = some (.ref (Cl hc)))
    (hsub : ∀ c b, sub c = some b → PySem.W.exmOne X.K (.ref (Cl c)) (.ref (Cl hc)) = some b) (ho : Only1 sub D)
    (hsu : ∀ (fs : Fl) (a : Addr) (oe : Obj) (d : Option Addr) (pn : List (Addr × Obj)), Zc (.ref (Cl D)) d oe → (∃ vs, oe.data = .fields vs) → QS (X.suite a ((a, oe) :: pn)) Cl i a fs d (b₀ :: suite) (ms fs)) (r : JCla X Cl hds l)
    (hi : X.N[i]? = some n := by rfl) (hl : X.env.kindOf n = some .local := by rfl) (hg : Gl X x := by rfl) (hdb : (x == ("__debug__" : Str)) = false := by decide) :
    JCla X Cl (.ExceptHandler (some (.Name x np)) (some n) (b₀ :: suite) pos' :: hds) ((sub, some i, fun _ fs => ms fs) :: l) :=
  .cons1 i hm hsub (fun c hc2 fs a oe d pn hz hf => by
    have := ho c hc2
    subst this
    exact hsu fs a oe d pn hz hf) r hi hl hg hdb
/-! ### errors that keep their arguments -/
/-- what __init__ leaves: one field; two fields -/
def spE1 (C : Addr) (f : Str) : Sp := fun vs H Q _ => ∃ a y, vs = [.ref a, y] ∧ H a = some (exo a C none) ∧ ∀ dx, H dx = none → dx ≠ a → Q .non (upd (upd H dx (exd dx [(f, y)])) a (exo a C (some dx)))
def spE2 (C : Addr) (f g : Str) : Sp := fun vs H Q _ => ∃ a y z, vs = [.ref a, y, z] ∧ H a = some (exo a C none) ∧ ∀ dx, H dx = none → dx ≠ a → Q .non (upd (upd (upd H dx (exd dx [(f, y)])) a (exo a C (some dx))) dx (exd dx [(g, z), (f, y)]))
structure XInit (K : PySem.W.Frag) (mg : Str → Option Value) (x : Str) (C fI : Addr) : Prop where
  g : mg x = some (.ref C)
  o : OexC K C
  i : PySem.W.findIn K (.ref C) "__init__" = some (some (.ref fI))
  t : PySem.W.typeIn K (.ref fI) = some (.type "function")
section
variable {P : Program} {w : World} {K : PySem.W.Frag} {mg : Str → Option Value} {base : Heap}
theorem init1_ok {qual : Str} {st : Stmt} {f C : Addr} {fd : FuncData} {N ps : List Str} {fl : Str} (F : Fun K "__init__" qual st f fd) (S : FnScope N ps (defScope st)) (hp : ps.length = 2) (hN : N.length = 2) (T : OexC K C) (hno : PySem.W.findIn K (.ref C) fl = some none)
    (hb : ∀ (cdv : Value) (A : Around) (outer : List Env) (s : Shared) (H : Hp) (E : XK), ∃ to te, PSs (cxOf CX0 P w K mg base N qual (defScope st) f cdv A outer s H E).nox (defBody st) (tOst K fl to te) ∧ (∀ σ H1 Q v, σ[0]? = some (some v) → Q v H1 → to σ H1 Q) ∧ (∀ σ H1 Q v, σ[1]? = some (some v) → Q v H1 → te σ H1 Q)) :
    FnOk P w K mg base CX0 1 f fd ps (spE1 C fl) := by
  refine F.ok S (fun vs H Q E h => ?_) (fun cdv A outer s H vs Q E hr h => ?_)
  · obtain ⟨a, y, rfl, -⟩ := h; exact hp.symm
  · obtain ⟨to, te, p, q0, q1⟩ := hb cdv A outer s H E
    obtain ⟨a, y, rfl, ha, k⟩ := h
    refine ⟨_, p, ?_⟩
    refine q1 _ _ _ y (by unfold L2.start; simp) (q0 _ _ _ (.ref a) (by unfold L2.start; simp) ⟨a, C, rfl, T, hno, .inl ⟨ha, fun dx h1 h2 => ?_⟩⟩)
    exact k dx h1 h2
end
section
variable {P : Program} {w : World} {K : PySem.W.Frag} {mg : Str → Option Value} {base : Heap}
theorem init2_ok {qual : Str} {st : Stmt} {f C : Addr} {fd : FuncData} {N ps : List Str} {fl gl : Str} (F : Fun K "__init__" qual st f fd) (S : FnScope N ps (defScope st)) (hp : ps.length = 3) (hN : N.length = 3) (T : OexC K C) (hno : PySem.W.findIn K (.ref C) fl = some none) (hno2 : PySem.W.findIn K (.ref C) gl = some none)
    (hb : ∀ (cdv : Value) (A : Around) (outer : List Env) (s : Shared) (H : Hp) (E : XK), ∃ to te te2, PSs (cxOf CX0 P w K mg base N qual (defScope st) f cdv A outer s H E).nox (defBody st) (tSeq (tOst K fl to te) (tOst K gl to te2)) ∧ (∀ σ H1 Q v, σ[0]? = some (some v) → Q v H1 → to σ H1 Q) ∧ (∀ σ H1 Q v, σ[1]? = some (some v) → Q v H1 → te σ H1 Q) ∧ (∀ σ H1 Q v, σ[2]? = some (some v) → Q v H1 → te2 σ H1 Q)) :
    FnOk P w K mg base CX0 1 f fd ps (spE2 C fl gl) := by
  refine F.ok S (fun vs H Q E h => ?_) (fun cdv A outer s H vs Q E hr h => ?_)
  · obtain ⟨a, y, z, rfl, -⟩ := h; exact hp.symm
  · obtain ⟨to, te, te2, p, q0, q1, q2⟩ := hb cdv A outer s H E
    obtain ⟨a, y, z, rfl, ha, k⟩ := h
    refine ⟨_, p, ?_⟩
    refine q1 _ _ _ y (by unfold L2.start; simp) (q0 _ _ _ (.ref a) (by unfold L2.start; simp) ⟨a, C, rfl, T, hno, .inl ⟨ha, fun dx h1 h2 => ?_⟩⟩)
    refine q2 _ _ _ z (by unfold L2.start; simp) (q0 _ _ _ (.ref a) (by unfold L2.start; simp) ⟨a, C, rfl, T, hno2, .inr ⟨dx, [(fl, y)], upd_same, ?_, by simp, k dx h1 h2⟩⟩)
    rw [upd_ne h2, upd_same]
end
/-- the promise of an __init__ that keeps its arguments under the names ns -/
def KeepsF (C : Addr) (ns : List Str) (sp : Sp) : Prop := ∀ (vs : List V) (H1 : Hp) (a : Addr) (Q : XK), vs.length = ns.length → H1 a = none → (∀ d, H1 d = none → Q (.ref C) (some d) (upd H1 d (.xd (List.zip ns vs).reverse))) →
  sp (.ref a :: (vs ++ [])) (upd H1 a (exo a C none)) (fun v H2 => v = .non ∧ ∃ (d : Addr) (fs : List (Str × V)), H2 a = some (exo a C (some d)) ∧ H2 d = some (exd d fs) ∧ H1 d = none ∧ Q (.ref C) (some d) (upd (del H2 a) d (.xd fs))) (fun _ _ _ => False)
theorem keeps1 {C : Addr} {f : Str} : KeepsF C [f] (spE1 C f) := fun vs H1 a Q hl ha k => by
  match vs, hl with
  | [y], _ =>
    refine ⟨a, y, rfl, upd_same, fun dx h1 h2 => ⟨rfl, dx, [(f, y)], upd_same, by rw [upd_ne h2, upd_same], by rwa [upd_ne h2] at h1, ?_⟩⟩
    have hd : H1 dx = none := by rwa [upd_ne h2] at h1
    have e : upd (del (upd (upd (upd H1 a (exo a C none)) dx (exd dx [(f, y)])) a (exo a C (some dx))) a) dx (.xd [(f, y)]) = upd H1 dx (.xd [(f, y)]) := by
      funext b
      by_cases hb : b = dx
      · subst hb; rw [upd_same, upd_same]
      · rw [upd_ne hb, upd_ne hb]
        by_cases hb2 : b = a
        · subst hb2; rw [del_same, ha]
        · rw [del_ne hb2, upd_ne hb2, upd_ne hb, upd_ne hb2]
    rw [e]
    exact k dx hd
theorem keeps2 {C : Addr} {f g : Str} : KeepsF C [f, g] (spE2 C f g) := fun vs H1 a Q hl ha k => by
  match vs, hl with
  | [y, z], _ =>
    refine ⟨a, y, z, rfl, upd_same, fun dx h1 h2 => ⟨rfl, dx, [(g, z), (f, y)], by rw [upd_ne h2.symm, upd_same], upd_same, by rwa [upd_ne h2] at h1, ?_⟩⟩
    have hd : H1 dx = none := by rwa [upd_ne h2] at h1
    have e : upd (del (upd (upd (upd (upd H1 a (exo a C none)) dx (exd dx [(f, y)])) a (exo a C (some dx))) dx (exd dx [(g, z), (f, y)])) a) dx (.xd [(g, z), (f, y)]) = upd H1 dx (.xd [(g, z), (f, y)]) := by
      funext b
      by_cases hb : b = dx
      · subst hb; rw [upd_same, upd_same]
      · rw [upd_ne hb, upd_ne hb]
        by_cases hb2 : b = a
        · subst hb2; rw [del_same, ha]
        · rw [del_ne hb2, upd_ne hb, upd_ne hb2, upd_ne hb, upd_ne hb2]
    rw [e]
    exact k dx hd
@[simp] def mRaiseF (c : Nat) (ns : List Str) (a : MA) : MS := fun s st => match a s st with
  | .ok ws st1 => if ws.length = ns.length then .exc c (List.zip ns ws).reverse st1 else .stuck
  | .exc c2 fs st1 => .exc c2 fs st1
  | .stuck => .stuck
theorem rf_append {K : PySem.W.Frag} {β : Bt} {H : Hp} {κ : Type} : ∀ {fs gs : List (κ × W)} {us vs : List (κ × V)}, RF K β H fs us → RF K β H gs vs → RF K β H (fs ++ gs) (us ++ vs)
  | _, _, _, _, .nil, s => s
  | _, _, _, _, .cons h r, s => .cons h (rf_append r s)
theorem rf_reverse {K : PySem.W.Frag} {β : Bt} {H : Hp} {κ : Type} : ∀ {fs : List (κ × W)} {us : List (κ × V)}, RF K β H fs us → RF K β H fs.reverse us.reverse
  | _, _, .nil => .nil
  | _, _, .cons h r => by
    rw [List.reverse_cons, List.reverse_cons]
    exact rf_append (rf_reverse r) (.cons h .nil)
theorem rf_zip {K : PySem.W.Frag} {β : Bt} {H : Hp} : ∀ (ns : List Str) {ws : List W} {vs : List V}, RVs K β H ws vs → RF K β H (List.zip ns ws) (List.zip ns vs)
  | [], _, _, _ => .nil
  | _ :: _, _, _, .nil => .nil
  | n :: ns, _, _, .cons h r => .cons h (rf_zip ns r)
theorem js_raiseF {X : Cx} {Cl : Nat → Addr} {E : XK} {c k fI : Nat} {x : Str} {ns : List Str} {fd : FuncData} {ps : List Str} {sp : Sp} {e : Expr} {es : List Expr} {mr : MA} {p pos pos' : Pos} (T : XInit X.K X.mg x (Cl c) fI) (F1 : FnOk X.prog X.w X.K X.mg X.base CX0 k fI fd ps sp) (hk : KeepsF (Cl c) ns sp) (hr : Room (k + 1) X.A) (hb : Binds X.K fd ps [])
    (tk : Takes X (fun cls d _ H => E cls d H)) (ha : JA X Cl E (e :: es) mr) (hn : ns.length ≤ 1000 := by decide) (hc : X.calm = true := by rfl) (hg : Gl X x := by rfl) (hdb : (x == ("__debug__" : Str)) = false := by decide) (he : starEach (e :: es) X.env = (false, eval e X.env) :: starEach es X.env := by rfl) (hpl : (backTo pos (starEach es X.env)).any (·.1) = false := by rfl) :
    JS X Cl E (.Raise (some (.Call (.Name x p) (e :: es) [] pos)) none pos') (mRaiseF c ns mr) := by
  obtain ⟨t, pr, q⟩ := ha.ex
  refine ⟨_, ps_raise hc tk (pmk_oex T.o T.i T.t F1 hr hb .nil pass0 hg T.g pr hdb he hpl), fun β H σ s st D hr hs h => q β H σ s st _ hr hs ?_⟩
  simp only [mRaiseF] at h
  cases ei : mr s st with
  | stuck => rw [ei] at h; exact h
  | exc c2 fs st1 => rw [ei] at h; exact h
  | ok ws st1 =>
    rw [ei] at h
    simp only at h
    intro β1 H1 vs e1 hr1 rv
    split at h
    · rename_i hl
      have hl2 : vs.length = ns.length := by rw [← rv.length]; exact hl
      refine ⟨by omega, fun a ha => ?_⟩
      refine hk vs H1 a (fun cls d H' => E cls d H') hl2 ha fun d hd => ?_
      have ex : Ext X.K β1 H1 β1 (upd H1 d (.xd (List.zip ns vs).reverse)) := Ext.new hd
      exact h β1 _ (some d) (e1.trans ex) (hr1.new hd) (.inr ⟨d, _, rfl, upd_same, rf_reverse (rf_zip ns (rv.ext ex))⟩)
    · exact h.elim
end Mi
/-! The mirror layer, part U: dicts with tuple keys: d[..] = v, len(d). -/
namespace Mi
open PySem L2
/-- d[(..)] = v -/
@[simp] def mTPut (d : ME) (k : MA) (e : ME) : MS := fun s st => (e s st).run fun w st1 => (d s st1).run fun x st2 => (k s st2).run fun ks st3 => match x with
  | .ref r => match st3[r]?, keysT ks with
    | some (.dT kvs), some k => if kvs.length < sizeLine ∧ ks.length ≤ sizeLine then .nx s (st3.set r (.dT (putKW kvs k w))) else .stuck
    | _, _ => .stuck
  | _ => .stuck
section
variable {X : Cx} {Cl : Nat → Addr} {E : XK} {pos pos' tpos : Pos}
theorem js_tput {o e : Expr} {es : List Expr} {k : Nat} {md ma : ME} {mk : MA} (hu : X.A.units + 1 < cLine) (ho : JE X Cl E o md) (hi : JA X Cl E es mk) (he : JE X Cl E e ma) (hs : swapsWith e (some (.Subscript o (.Tuple es k tpos) pos')) pos.line X.env = pure false := by rfl) :
    JS X Cl E (.Assign [.Subscript o (.Tuple es k tpos) pos'] e pos) (mTPut md mk ma) := by
  obtain ⟨_, p1, q1⟩ := he.ex
  obtain ⟨_, p2, q2⟩ := ho.ex
  obtain ⟨_, p3, q3⟩ := hi.ex
  refine ⟨_, ps_dput hu p2 (pe_tup p3) p1 hs, fun β H σ s st D hr hs h => q1 β H σ s st _ hr hs (h.run fun x st1 β1 H1 v _ e1 hr1 rx h1 => q2 β1 H1 σ s st1 _ hr1 (hs.ext e1) (h1.run fun y st2 β2 H2 u _ e2 hr2 ry0 h2 =>
    q3 β2 H2 σ s st2 _ hr2 ((hs.ext e1).ext e2) (h2.run fun ks st3 β3 H3 vs _ e3 hr3 rk h3 => ?_)))⟩
  have ry := ry0.ext e3
  cases y with
  | ref r =>
    simp only at h3
    split at h3
    · rename_i kvs k es ek
      split at h3
      · rename_i hl
        refine ⟨by rw [← rk.length]; exact hl.2, fun p hp => ?_⟩
        have e4 : Ext X.K β3 H3 β3 (upd H3 p (.tup vs)) := Ext.new hp
        have hr4 : HR X.K Cl β3 (upd H3 p (.tup vs)) st3 := hr3.new hp
        obtain ⟨a, rfl, hb, gs, hv, hrs⟩ := (ry.ext e4).atRef hr4 es (by intro z; cases z)
        have em : Ext X.K β3 (upd H3 p (.tup vs)) β3 (upd (upd H3 p (.tup vs)) a (.dT (putK gs k v))) := Ext.mut hr4 hb hv trivial
        exact ⟨a, _, rfl, .inr ⟨gs, k, p, hv, rfl, by rw [upd_same, keysT_ok rk ek], by rw [← hrs.length]; exact hl.1, rfl⟩, h3 β3 _ σ (e4.trans em) (hr4.mut hb hv trivial ⟨_, upd_same, (hrs.put k (((rx.ext e2).ext e3).ext e4)).ext em⟩) (((((hs.ext e1).ext e2).ext e3).ext e4).ext em)⟩
      · exact h3.elim
    · exact h3.elim
  | _ => exact h3.elim
/-- len of a dict, whatever its keys are -/
theorem len_raw {prog : Program} {w : World} {A : Around} {E : Value → Shared → Prop} {s : Shared} {d : Addr} {es : Array DictEntry} {ep : Nat} {Q : Value → Shared → Prop} (hd : (d == sysModules) = false) (ty : s.TypeIs (.ref d) "dict") (hm : s.heap.DictRaw d es ep) (hfit : (es.size : Int) < 2 ^ 63)
    (h : ∀ t, Q (.int es.size t) { s with toks := t + 1 }) : wpAny (model prog w) A (call (.builtin "len") [.ref d]) Q E s := by
  have inner : ∀ A : Around, wpAny (model prog w) A (callSpecial? (.ref d) (Str.ofString "__len__")) (fun r s2 => r = some (.int es.size s.toks) ∧ s2 = { s with toks := s.toks + 1 }) E s := fun A =>
    wpAny_callSpecial?_slot (name := Str.ofString "__len__") ty F.slot_dict_len (PySem.call_len_raw hd hm ⟨rfl, rfl⟩)
  have body : ∀ A : Around, wpAny (model prog w) A (Builtin.«len» ⟨[.ref d], []⟩) (fun fin s' => ∃ r, fin = .done (.ret r) ∧ Q r s') E s := by
    intro A
    unfold Builtin.«len»
    refine wpAny_bind (wpAny_pure (wpAny_bind (wpAny_mono (inner A) (fun r s2 e2 => ?_) fun _ _ z => z)))
    obtain ⟨rfl, rfl⟩ := e2
    refine wpAny_bind (wpAny_holding (wpAny_pure (wpAny_bind (wpAny_letGo ?_))))
    show wpAny _ _ (if ((es.size : Nat) : Int) < 0 then _ else if ((es.size : Nat) : Int) ≥ 2 ^ 63 then _ else _) _ _ _
    rw [if_neg (by omega), if_neg (by omega)]
    exact wpAny_bind (wpAny_mkInt (wpAny_pure ⟨_, rfl, h _⟩))
  exact Calls.call_function_entry kind_len plain_len entry_len (args_len1 _) (body _)
/-- len(d), a dict with tuple keys -/
theorem call_lenT {X : Cx} : CallR X (.builtin "len") (fun xs H Q => ∃ a kvs, xs = [.ref a] ∧ H a = some (.dT kvs) ∧ Q (.int kvs.length) H) := by
  intro pins s σ H xs us Q I r h
  obtain ⟨a, kvs, rfl, ha, q⟩ := h
  cases r with
  | cons rx rr =>
    cases rr
    cases rx
    obtain ⟨z, hd, vs, rel, dd⟩ := dt_of I.hok ha
    have ty : s.TypeIs (.ref a) "dict" := dd.typeIs
    obtain ⟨es, ep, raw, rl, -⟩ := Heap.DictOfH.raw dd
    rw [rel.length] at q
    refine len_raw hd ty raw (by rw [rl]; have := rel.length; rw [sizeLine_eq] at z; omega) fun t => ?_
    rw [rl]
    exact ⟨.int vs.length, H, I.tok _, ⟨_, rfl⟩, q⟩
def mLenT : List W → Sto → Out W := fun xs st => match xs with
  | [.ref i] => match st[i]? with
    | some (.dT kvs) => .ok (.int (kvs.length : Nat)) st
    | _ => .stuck
  | _ => .stuck
theorem c_lenT : CallR X (.builtin "len") (fun xs H Q => ∃ a kvs, xs = [.ref a] ∧ H a = some (.dT kvs) ∧ Q (.int kvs.length) H) ∧ SCal X.K Cl E (fun xs H Q => ∃ a kvs, xs = [.ref a] ∧ H a = some (.dT kvs) ∧ Q (.int kvs.length) H) mLenT := by
  refine ⟨call_lenT, fun β H st xs vs Q hr r h => ?_⟩
  unfold mLenT at h
  split at h
  · rename_i i
    split at h
    · rename_i kvs es
      obtain ⟨v, rfl, rv⟩ := r.one
      obtain ⟨a, rfl, hb, gs, hv, hrs⟩ := rv.atRef hr es (by intro z; cases z)
      exact ⟨a, gs, rfl, hv, PoG.val h hr (by rw [hrs.length]; exact .int _)⟩
    · exact h.elim
  · exact h.elim
end
/-- list(range(e)) -/
def mListRg (a : ME) : ME := fun s st => (a s st).bind fun x st1 => match x with
  | .int n => if 0 ≤ n ∧ n ≤ 1000000 then .ok (.lst (rngW 0 n.toNat)) st1 else .stuck
  | _ => .stuck
theorem je_listRg {X : Cx} {Cl : Nat → Addr} {E : XK} {pos p p2 pos2 : Pos} {e : Expr} {m : ME} (hm : X.mg "list" = none) (hmr : X.mg "range" = none) (ha : JE X Cl E e m) (hc : X.calm = true := by rfl) (hg : Gl X "list" := by rfl) (hgr : Gl X "range" := by rfl)
    (n1 : starEach [e] X.env = (false, eval e X.env) :: starEach [] X.env := by rfl) (n2 : starEach [.Call (.Name "range" p2) [e] [] pos2] X.env = (false, eval (.Call (.Name "range" p2) [e] [] pos2) X.env) :: starEach [] X.env := by rfl) :
    JE X Cl E (.Call (.Name "list" p) [.Call (.Name "range" p2) [e] [] pos2] [] pos) (mListRg m) := by
  obtain ⟨_, p1, q1⟩ := ha.ex
  refine ⟨_, pe_listRg hc hg hm (prg_1 hgr hmr p1 n1) n2, fun β H σ s st Q hr hs h => q1 β H σ s st _ hr hs ?_⟩
  refine h.bind fun x st1 β1 H1 v eo e1 hr1 rx h1 => ?_
  clear eo
  split at h1
  · rename_i n
    cases rx
    split at h1
    · rename_i hn
      refine ⟨n, rfl, ⟨by omega, by omega, by omega, by omega⟩, fun l hl => ?_⟩
      have rv : RVs X.K β1 H1 (rngW 0 n.toNat) (rgV 0 n) := by
        unfold rngW rgV
        rw [Int.sub_zero]
        generalize List.range n.toNat = ks
        induction ks with
        | nil => exact .nil
        | cons k ks ih => exact .cons (.int _) ih
      exact Po.lst h1 hr1 hl rv
    · exact h1.elim
  · exact h1.elim
end Mi
/-! The mirror layer, part W: return [f(..)] in a try's body; t[::-1] of a tuple. -/
namespace HT
open PySem PySem.Spec PyProof.Rows
section
variable {prog : Program} {w : World} {A : Around} {E : Value → Shared → Prop} {s : Shared}
theorem adjust_rev (n : Nat) : Builtin.Slice.sliceAdjust none none (-1) (n : Int) = ((n : Int) - 1, -1) := rfl
theorem places_rev (n : Nat) : Builtin.Slice.slicePlaces ((n : Int) - 1) (-1) (-1) = n := by
  unfold Builtin.Slice.slicePlaces
  have h1 : ¬ ((-1 : Int) > 0) := by omega
  simp only [h1, if_false, Int.neg_neg, Int.ediv_one]
  split <;> omega
theorem sliceApplied_rev {sl : Addr} {tk : Tok} {n : Nat} {Q : Int × Int × Nat → Shared → Prop} (hs : s.heap.IsSliceOf sl .none .none (.int (-1) tk)) (h : Q ((n : Int) - 1, -1, n) s) : wpAny (model prog w) A (Builtin.Slice.sliceApplied (.ref sl) (pure (n : Int))) Q E s := by
  obtain ⟨os, hos, hcs, hds⟩ := id hs
  unfold Builtin.Slice.sliceApplied Builtin.Slice.sliceFields
  refine wpAny_bind (wpAny_bind (wpAny_field hos hds (x := .none) rfl (wpAny_bind (wpAny_field hos hds (x := .none) rfl (wpAny_bind (wpAny_field hos hds (x := .int (-1) tk) rfl (wpAny_pure ?_)))))))
  refine wpAny_bind (slicePart_int ?_)
  show wpAny _ _ (if ((-1 : Int) == 0) = true then _ else _) _ _ s
  rw [if_neg (by decide)]
  refine wpAny_bind (slicePart_none (wpAny_bind (slicePart_none (wpAny_bind (wpAny_pure ?_)))))
  show wpAny _ _ (match Builtin.Slice.sliceAdjust none none (-1) (n : Int) with | (lo, hi) => pure (lo, (-1 : Int), Builtin.Slice.slicePlaces lo hi (-1))) _ _ s
  rw [adjust_rev n]
  show wpAny _ _ (pure ((n : Int) - 1, (-1 : Int), Builtin.Slice.slicePlaces ((n : Int) - 1) (-1) (-1))) _ _ s
  rw [places_rev]
  exact wpAny_pure h
theorem fm_congr {α β : Type} {f g : α → Option β} : ∀ l : List α, (∀ x ∈ l, f x = g x) → l.filterMap f = l.filterMap g
  | [], _ => rfl
  | x :: l, h => by
    rw [List.filterMap_cons, List.filterMap_cons, h x (by simp), fm_congr l fun y hy => h y (by simp [hy])]
theorem pick_rev (xs : Array Value) : ((List.range xs.size).filterMap fun (m : Nat) => xs[(((xs.size : Int) - 1) + (m : Int) * (-1)).toNat]?).toArray = xs.toList.reverse.toArray := by
  congr 1
  have e : (List.range xs.size).map (fun k => xs.size - 1 - k) = (List.range xs.size).reverse := by
    apply List.ext_getElem
    · simp
    · intro i h1 h2
      rw [List.getElem_map, List.getElem_reverse]
      simp
  have e2 : (List.range xs.size).filterMap (fun (m : Nat) => xs[(((xs.size : Int) - 1) + (m : Int) * (-1)).toNat]?) = ((List.range xs.size).map (fun k => xs.size - 1 - k)).filterMap (fun k => xs[k]?) := by
    rw [List.filterMap_map]
    refine fm_congr _ fun m hm => ?_
    have := List.mem_range.mp hm
    have e3 : (((xs.size : Int) - 1) + (m : Int) * (-1)).toNat = xs.size - 1 - m := by omega
    simp only [e3, Function.comp]
  rw [e2, e, List.filterMap_reverse]
  have h := pick_run xs 0 xs.size
  have e4 : (List.range xs.size).map (0 + ·) = List.range xs.size := by
    rw [show ((0 + ·) : Nat → Nat) = id from funext fun k => Nat.zero_add k, List.map_id]
  rw [e4, List.drop_zero, List.take_of_length_le (by rw [Array.length_toList]; exact Nat.le_refl _)] at h
  rw [h]
theorem getItem_tuple_rev {t sl : Addr} {items : Array Value} {tk : Tok} {Q : Value → Shared → Prop} (ht : IsTup s.heap t items) (hs : s.heap.IsSliceOf sl .none .none (.int (-1) tk))
    (h : Q (.ref s.heap.objs.size) { s with heap := s.heap.push { cls := .type "tuple", data := .seq items.toList.reverse.toArray } })
    (hsz : items.size ≤ sizeLine) : wpAny (model prog w) A (getItem (.ref t) (.ref sl)) Q E s := by
  have htake : sizeOk (.seq items.toList.reverse.toArray) := by
    show items.toList.reverse.toArray.size ≤ sizeLine
    rw [List.size_toArray, List.length_reverse, Array.length_toList]
    exact hsz
  obtain ⟨os, hos, hcs, hds⟩ := id hs
  have hTs : s.TypeIs (.ref sl) "slice" := ⟨os, hos, hcs⟩
  unfold getItem
  try with_reducible refine wpAny_holding ?_
  first | refine wpAny_bind (wpAny_pure ?_) | skip
  refine wpAny_bind (wpAny_sequenceKey ht.typeIs (by decide) ?_)
  refine wpAny_bind (wpAny_callSpecial?_slot (name := Str.ofString "__getitem__") ht.typeIs PyProof.Rows.slot_tuple_getitem
    (wpAny_call_entry PyProof.Rows.slot_tuple_getitem ht.typeIs entry_tuple_getitem ?_ (args_tuple_getitem _ _)))
  show wpAny _ _ (Builtin.Tuple.tupleItemsOf (.ref t) >>= _) _ _ s
  refine wpAny_bind (tupleItemsOf_ ht ?_)
  refine wpAny_bind (wpAny_typeOf hTs ?_)
  rw [if_pos (by decide)]
  refine wpAny_bind (sliceApplied_rev hs ?_)
  have hno : ¬ ((((items.size : Int) - 1) == 0 && (-1 : Int) == 1 && items.size == items.size) = true) := by
    intro q
    rw [Bool.and_eq_true, Bool.and_eq_true] at q
    have := eq_of_beq q.1.2
    omega
  show wpAny _ _ (if (((items.size : Int) - 1) == 0 && (-1 : Int) == 1 && items.size == items.size) = true then _ else _) _ _ s
  rw [if_neg hno, pick_rev]
  first
    | exact wpAny_bind (m := Builtin.Tuple.tupleExact _) (wpAny_newObj_type (wpAny_pure ⟨_, rfl, wpAny_pure h⟩) htake)
    | exact wpAny_bind (m := Builtin.Tuple.tupleExact _) (wpAny_newObj_type (wpAny_bind (wpAny_pure (wpAny_pure ⟨_, rfl, wpAny_pure h⟩))) htake)
    | exact wpAny_bind (wpAny_bind (m := Builtin.Tuple.tupleExact _) (wpAny_newObj_type (wpAny_pure (wpAny_pure ⟨_, rfl, wpAny_pure h⟩)) htake))
    | exact wpAny_bind (wpAny_bind (m := Builtin.Tuple.tupleExact _) (wpAny_newObj_type (wpAny_pure ⟨_, rfl, wpAny_pure h⟩) htake))
end
end HT
namespace Mi
open PySem L2 PyProof.Rows HT
section
variable {X : Cx} {Cl : Nat → Addr} {W : WX} {e : Expr} {m : ME} {pos : Pos}
theorem jc_lst1 (h : JC X Cl W e m) (hs : starEach [e] X.env = (false, eval e X.env) :: starEach [] X.env := by rfl) : JC X Cl W (.List [e] pos) (mLst (mCons m mNil)) := by
  obtain ⟨t, p, q⟩ := h.ex
  refine ⟨_, pe_lst (pa_cons p pa_nil hs), fun β H σ s st Q hr hs h => q β H σ s st _ hr hs ?_⟩
  have h' : Po X.K Cl (WE W σ) β H Q ((m s st).bind fun x st1 => .ok (.lst [x]) st1) := by
    cases hm : m s st <;> simpa [mLst, mCons, mNil, hm, sizeLine_eq] using h
  exact h'.bind fun x st1 β1 H1 v _ e1 hr1 rx h1 => ⟨by simp [sizeLine_eq], fun l hl => Po.lst h1 hr1 hl (.cons rx .nil)⟩
end
def tRev (K : PySem.W.Frag) (te tk : TE) : TE := fun σ H Q => te σ H fun x H1 => tk σ H1 fun y H2 => y = .int (-1) ∧ ∃ a xs, x = .ref a ∧ SqT K H2 a xs ∧ ∀ p, H2 p = none → Q (.ref p) (upd H2 p (.tup xs.reverse))
theorem pe_rev {X : Cx} {e k : Expr} {te tk : TE} {pos p2 : Pos} (he : PE X e te) (hk : PE X k tk) : PE X (.Subscript e (.Slice none none (some k) p2) pos) (tRev X.K te tk) := by
  refine ⟨fun pins s σ H Q I h => ?_⟩
  refine Subscript_ (thn (he.run pins s σ H _ I h) fun v s1 ⟨x, H1, I1, r1, q1⟩ => ?_)
  refine wpAny_Slice ?_
  rw [evalPart_none]
  refine wpAny_pure ?_
  refine wpAny_pure ?_
  show wpAny _ _ (eval k X.env) _ _ s1
  refine thn (hk.run pins s1 σ H1 _ I1 q1) fun u s2 ⟨y, H2, I2, r2, q2⟩ => ?_
  obtain ⟨rfl, a, xs, rfl, hx, q⟩ := q2
  obtain ⟨tk', rfl⟩ := r2
  have I3 : Inv X pins σ H2 { s2 with heap := s2.heap.push { cls := .type "slice", data := .fields #[.none, .none, .int (-1) tk'] } } := I2.kept (t' := s2.toks) fun b ob q => Heap.get?_push_of_some _ q
  cases r1
  obtain ⟨its, r, ht, hz⟩ := I3.tuple hx
  have hlen : its.toArray.size = xs.length := by rw [List.size_toArray]; exact r.length.symm
  show wpAny (model X.prog X.w) X.A (subscriptTail e (.Slice none none (some k) p2) (.ref a) (.ref s2.heap.objs.size)) (EP X pins σ Q) X.xe _
  refine tail_any (ops := [.ref a, .ref s2.heap.objs.size]) ht.typeIs PyProof.Rows.slot_tuple_getitem.lookup ?_ (by with_unfolding_all rfl)
  refine getItem_tuple_rev ht (Heap.IsSliceOf.new ..) ?_ (by rw [hlen]; exact hz)
  refine ⟨.ref _, _, I3.laid (t' := s2.toks) (o := .tup xs.reverse) (fun b ob q => Heap.get?_push_of_some _ q) (Nat.le_refl _) ?_, rfl, q _ (I3.hok.fresh (Nat.le_refl _))⟩
  exact ⟨by rw [List.length_reverse]; exact hz, _, r.reverse, IsTup.new _ _⟩
@[simp] def mRev (a k : ME) : ME := fun s st => (a s st).bind fun x st1 => (k s st1).bind fun y st2 => match x, y with
  | .tup ws, .int i => if i = -1 then .ok (.tup ws.reverse) st2 else .stuck
  | _, _ => .stuck
section
variable {X : Cx} {Cl : Nat → Addr} {E : XK} {pos p2 : Pos} {ma mk : ME} {a k : Expr}
theorem je_rev (ha : JE X Cl E a ma) (hk : JE X Cl E k mk) : JE X Cl E (.Subscript a (.Slice none none (some k) p2) pos) (mRev ma mk) := by
  obtain ⟨_, p1, q1⟩ := ha.ex
  obtain ⟨_, p2, q2⟩ := hk.ex
  refine ⟨_, pe_rev p1 p2, fun β H σ s st Q hr hs h => q1 β H σ s st _ hr hs (h.bind fun x st1 β1 H1 v _ e1 hr1 rx1 h1 => q2 β1 H1 σ s st1 _ hr1 (hs.ext e1) (h1.bind fun y st2 β2 H2 u _ e2 hr2 ry h2 => ?_))⟩
  have rx := rx1.ext e2
  split at h2
  · split at h2
    · rename_i hi
      subst hi
      cases ry
      cases rx with
      | @tup p ws vs h3 r3 => exact ⟨rfl, p, vs, rfl, h3, fun l hl => Po.tup h2 hr2 hl r3.reverse⟩
    · exact h2.elim
  · exact h2.elim
end
/-- t * k of a tuple, k from 2 on -/
@[simp] def mMulT : M2 := fun x y st => match x, y with
  | .tup ws, .int k => if ws ≠ [] ∧ 2 ≤ k ∧ k ≤ 1000 ∧ ws.length ≤ 1000 then .ok (.tup (List.replicate k.toNat ws).flatten) st else .stuck
  | _, _ => .stuck
theorem o_mulT {X : Cx} {Cl : Nat → Addr} {E : XK} : OpR X (binaryOp .Mult) (rRepT X.K) ∧ SOp X.K Cl E (rRepT X.K) mMulT := by
  refine ⟨op_repT, fun β H st x y v u Q hr rx ry h => ?_⟩
  unfold mMulT at h
  split at h
  · split at h
    · rename_i hz
      cases ry
      cases rx with
      | @tup p ws vs h3 r3 => exact ⟨p, _, vs, rfl, rfl, h3, (fun e => hz.1 (by subst e; cases r3; rfl)), hz.2.1, hz.2.2.1, by rw [← r3.length]; exact hz.2.2.2, fun l hl => Po.tup h hr hl (r3.rep _)⟩
    · exact h.elim
  · exact h.elim
end Mi

namespace Gn
open PySem L2 Mi
/-! ### the text by places -/
def top (i : Nat) : Stmt := PySem.Challenge.pw_onestepcourt_k23_whole_runs_by_openings.main.body.getD i (.Pass ⟨0, 0, 0, 0⟩)
abbrev s_Machine_told : Stmt := inClass (top 37) 7
abbrev s_Memory_words : Stmt := inClass (top 17) 2
abbrev s_Machine_words : Stmt := inClass (top 37) 2
abbrev s_Memory_word : Stmt := inClass (top 17) 1
abbrev s_Machine_word : Stmt := inClass (top 37) 3
abbrev s_Machine_registers : Stmt := inClass (top 37) 1
abbrev s_Memory_root : Stmt := inClass (top 17) 3
abbrev s_Machine_root : Stmt := inClass (top 37) 5
abbrev s_Book_add : Stmt := inClass (top 8) 1
abbrev s_Digests_kept : Stmt := inClass (top 9) 7
abbrev s_Digests_state : Stmt := inClass (top 9) 6
abbrev s_Machine_digest : Stmt := inClass (top 37) 6
abbrev s_Memory_path : Stmt := inClass (top 17) 4
abbrev s_Machine_path : Stmt := inClass (top 37) 4
abbrev s_name_of : Stmt := top 30
abbrev s_data_of : Stmt := top 31
abbrev s_wrapped : Stmt := top 20
abbrev s_compared : Stmt := top 21
abbrev s_op : Stmt := top 22
abbrev s_mark_of : Stmt := top 33
abbrev s_halted : Stmt := top 32
abbrev s_Digests_fold : Stmt := inClass (top 9) 5
abbrev s_Digests_leaf : Stmt := inClass (top 9) 4
abbrev s_pc_behind : Stmt := top 35
abbrev s_acc_behind : Stmt := top 34
abbrev s_done_by : Stmt := top 36
abbrev s_Memory_change : Stmt := inClass (top 17) 5
abbrev s_Machine_step : Stmt := inClass (top 37) 8
abbrev s_L_bag : Stmt := top 47
abbrev s_L_draw : Stmt := top 48
abbrev s_Book_init : Stmt := inClass (top 8) 0
abbrev s_Digests_init : Stmt := inClass (top 9) 0
abbrev s_folded : Stmt := top 15
abbrev s_Memory_init : Stmt := inClass (top 17) 0
abbrev s_Machine_init : Stmt := inClass (top 37) 0
abbrev s_L_start : Stmt := top 51
abbrev s_L_word : Stmt := top 49
abbrev s_L_words : Stmt := top 50
abbrev s_opened : Stmt := top 39
abbrev s_must : Stmt := top 40
abbrev s_is_integer : Stmt := top 6
abbrev s_is_word : Stmt := top 7
abbrev s_Digests_is_digest : Stmt := inClass (top 9) 2
abbrev s_are_registers : Stmt := top 41
abbrev s_is_part : Stmt := top 42
abbrev s_is_opening : Stmt := top 43
abbrev s_root_by : Stmt := top 16
abbrev s_root_with : Stmt := top 44
abbrev s_step_of : Stmt := top 45
abbrev s_L_taken : Stmt := top 53
abbrev s_Book_has_collision : Stmt := inClass (top 8) 2
abbrev s_law : Stmt := top 54
/-! ### constants, mirrors -/
def w_FIRST_STATE : W := (W.int 3)
def w_ARGUMENTS : W := (W.int 1024)
def w_NAMES : W := (W.tup [(W.str "bad"), (W.str "halt"), (W.str "lit"), (W.str "load"), (W.str "store"), (W.str "loadx"), (W.str "storex"), (W.str "tox"), (W.str "index"), (W.str "bound"), (W.str "within"), (W.str "not"), (W.str "+"), (W.str "-"), (W.str "*"), (W.str "/"), (W.str "mod"), (W.str "=="), (W.str "!="), (W.str "<"), (W.str "<="), (W.str ">"), (W.str ">="), (W.str "jump"), (W.str "zero"), (W.str "some"), (W.str "call"), (W.str "back"), (W.str "tell")])
def w_PLACES : W := (W.int 256)
def w_CHANGERS : W := (W.tup [(W.str "store"), (W.str "storex"), (W.str "call")])
def w_READERS : W := (W.tup [(W.str "load"), (W.str "loadx"), (W.str "index"), (W.str "within"), (W.str "back")])
def w_SIGNS : W := (W.tup [(W.str "+"), (W.str "-"), (W.str "*"), (W.str "/"), (W.str "mod"), (W.str "=="), (W.str "!="), (W.str "<"), (W.str "<="), (W.str ">"), (W.str ">=")])
def w_MOST_WORD : W := (W.int 65535)
def w_MOST_TOLD : W := (W.int 16)
def w_MARKS : W := (W.tup [(W.str "long"), (W.str "done"), (W.str "divided"), (W.str "place"), (W.str "input"), (W.str "full"), (W.str "bad")])
def w_DEPTH : W := (W.int 8)
def z_MARKS : List Str := ["long", "done", "divided", "place", "input", "full", "bad"]
def b_Machine_told : MS :=
  (mRet (mFld 3 "_told" (mVar 0)))
def m_Machine_told : MF := mDef 1 0 b_Machine_told
def b_Memory_words : MS :=
  (mRet (mCB mTupleOf (mCons (mFld 2 "_words" (mVar 0)) mNil)))
def m_Memory_words : MF := mDef 1 0 b_Memory_words
def b_Machine_words : MS :=
  (mRet (mMeth 2 "words" 1 m_Memory_words (mFld 3 "_memory" (mVar 0)) mNil))
def m_Machine_words : MF := mDef 1 0 b_Machine_words
def b_Memory_word : MS :=
  (mRet (mOp mIx (mFld 2 "_words" (mVar 0)) (mVar 1)))
def m_Memory_word : MF := mDef 2 0 b_Memory_word
def b_Machine_word : MS :=
  (mRet (mMeth 2 "word" 2 m_Memory_word (mFld 3 "_memory" (mVar 0)) (mCons (mVar 1) mNil)))
def m_Machine_word : MF := mDef 2 0 b_Machine_word
def b_Machine_registers : MS :=
  (mRet (mFld 3 "_registers" (mVar 0)))
def m_Machine_registers : MF := mDef 1 0 b_Machine_registers
def b_Memory_root : MS :=
  (mRet (mOp mIx (mOp mIx (mFld 2 "_rows" (mVar 0)) (mUn mNeg (mC (W.int 1)))) (mC (W.int 0))))
def m_Memory_root : MF := mDef 1 0 b_Memory_root
def b_Machine_root : MS :=
  (mRet (mMeth 2 "root" 1 m_Memory_root (mFld 3 "_memory" (mVar 0)) mNil))
def m_Machine_root : MF := mDef 1 0 b_Machine_root
def b_Book_add : MS :=
  (mSeq (mAsg (mSetDef (mFld 1 "_texts" (mVar 0)) (mCons (mVar 1) (mCons (mVar 3) mNil))) (mGN 4))
  (mIfS (mTest (mOp mNotIn (mVar 2) (mVar 4))) (mSeq (mDrop (mLM mApp (mVar 4) (mCons (mVar 2) mNil)))
  (mSetF 1 "_collision" (mVar 0) (mOrV (mFld 1 "_collision" (mVar 0)) (mOp mGt (mCB mLen (mCons (mVar 4) mNil)) (mC (W.int 1)))))) mSkip))
def m_Book_add : MF := mDef 4 1 b_Book_add
def b_Digests_kept : MS :=
  (mSeq (mAsg (mOp mMod (mVar 3) (mFld 0 "_modulus" (mVar 0))) (mGN 4))
  (mSeq (mIfS (mTest (mOp mNotN (mFld 0 "_book" (mVar 0)) (mC W.non))) (mDrop (mMeth 1 "add" 4 m_Book_add (mFld 0 "_book" (mVar 0)) (mCons (mVar 1) (mCons (mVar 2) (mCons (mVar 4) mNil))))) mSkip)
  (mRet (mVar 4))))
def m_Digests_kept : MF := mDef 4 1 b_Digests_kept
def l0_Digests_state : MS :=
  (mAsg (mOp mMod (mOp mAdd (mOp mAdd (mOp mMul (mOp mAdd (mVar 2) (mVar 3)) (mOp mAdd (mVar 2) (mC (W.int 48611)))) (mOp mMul (mC (W.int 52774)) (mVar 3))) (mC (W.int 19))) (mFld 0 "_modulus" (mVar 0))) (mGN 2))
def b_Digests_state : MS :=
  (mSeq (mAsg (mC w_FIRST_STATE) (mGN 2))
  (mSeq (mFor (mITup (mVar 1)) (mGN 3) l0_Digests_state)
  (mRet (mMeth 0 "_kept" 4 m_Digests_kept (mVar 0) (mCons (mC (W.str "state")) (mCons (mVar 1) (mCons (mVar 2) mNil)))))))
def m_Digests_state : MF := mDef 2 2 b_Digests_state
def b_Machine_digest : MS :=
  (mRet (mMeth 0 "state" 2 m_Digests_state (mFld 3 "_digests" (mVar 0)) (mCons (mOp mAdd (mFld 3 "_registers" (mVar 0)) (mTup (mCons (mMeth 3 "root" 1 m_Machine_root (mVar 0) mNil) mNil))) mNil)))
def m_Machine_digest : MF := mDef 1 0 b_Machine_digest
def l0_Memory_path : MS :=
  (mSeq (mDrop (mLM mApp (mVar 2) (mCons (mOp mIx (mVar 3) (mOp mXor (mVar 1) (mC (W.int 1)))) mNil)))
  (mAsg (mOp mFdiv (mVar 1) (mC (W.int 2))) (mGN 1)))
def b_Memory_path : MS :=
  (mSeq (mAsg (mLstS mNil) (mGN 2))
  (mSeq (mFor (mILst (mSl (mFld 2 "_rows" (mVar 0)) mNoPart (mPart (mUn mNeg (mC (W.int 1)))))) (mGN 3) l0_Memory_path)
  (mRet (mCB mTupleOf (mCons (mVar 2) mNil)))))
def m_Memory_path : MF := mDef 2 2 b_Memory_path
def b_Machine_path : MS :=
  (mRet (mMeth 2 "path" 2 m_Memory_path (mFld 3 "_memory" (mVar 0)) (mCons (mVar 1) mNil)))
def m_Machine_path : MF := mDef 2 0 b_Machine_path
def b_name_of : MS :=
  (mSeq (mAsg (mOp mFdiv (mVar 0) (mC w_ARGUMENTS)) (mGN 1))
  (mSeq (mIfS (mTest (mOp mLt (mVar 1) (mCB mLen (mCons (mC w_NAMES) mNil)))) (mRet (mOp mIx (mC w_NAMES) (mVar 1))) mSkip)
  (mRet (mC (W.str "bad")))))
def m_name_of : MF := mDef 1 1 b_name_of
def b_data_of : MS :=
  (mSeq (mAsg (mCall 1 m_name_of (mCons (mVar 1) mNil)) (mGN 2))
  (mSeq (mAsg (mOp mMod (mVar 1) (mC w_PLACES)) (mGN 3))
  (mSeq (mIfS (mTest (mOp mIn (mVar 2) (mTup (mCons (mC (W.str "loadx")) (mCons (mC (W.str "storex")) mNil))))) (mAsg (mOp mMod (mOp mAdd (mVar 3) (mOp mIx (mVar 0) (mC (W.int 2)))) (mC w_PLACES)) (mGN 3)) mSkip)
  (mSeq (mIfS (mTest (mOp mIn (mVar 2) (mC w_CHANGERS))) (mRet (mTup (mCons (mVar 3) (mCons (mC (W.bl true)) mNil)))) mSkip)
  (mSeq (mIfS (mTOr (mTest (mOp mIn (mVar 2) (mC w_READERS))) (mTest (mOp mIn (mVar 2) (mC w_SIGNS)))) (mRet (mTup (mCons (mVar 3) (mCons (mC (W.bl false)) mNil)))) mSkip)
  (mRet (mC W.non)))))))
def m_data_of : MF := mDef 2 2 b_data_of
def b_wrapped : MS :=
  (mRet (mOp mMod (mVar 0) (mOp mAdd (mC w_MOST_WORD) (mC (W.int 1)))))
def m_wrapped : MF := mDef 1 0 b_wrapped
def b_compared : MS :=
  (mSeq (mIfS (mTest (mOp mIn (mVar 0) (mTup (mCons (mC (W.str "<")) (mCons (mC (W.str "<=")) mNil))))) (mRet (mCB mInt (mCons (mOrV (mOp mLt (mVar 1) (mVar 2)) (mAndV (mOp mEq (mVar 0) (mC (W.str "<="))) (mOp mEq (mVar 1) (mVar 2)))) mNil))) mSkip)
  (mSeq (mIfS (mTest (mOp mIn (mVar 0) (mTup (mCons (mC (W.str ">")) (mCons (mC (W.str ">=")) mNil))))) (mRet (mCB mInt (mCons (mOrV (mOp mGt (mVar 1) (mVar 2)) (mAndV (mOp mEq (mVar 0) (mC (W.str ">="))) (mOp mEq (mVar 1) (mVar 2)))) mNil))) mSkip)
  (mRet (mCB mInt (mCons (mOp mEq (mOp mEq (mVar 1) (mVar 2)) (mOp mEq (mVar 0) (mC (W.str "==")))) mNil)))))
def m_compared : MF := mDef 3 0 b_compared
def b_op : MS :=
  (mSeq (mIfS (mTest (mOp mEq (mVar 0) (mC (W.str "+")))) (mRet (mCall 1 m_wrapped (mCons (mOp mAdd (mVar 1) (mVar 2)) mNil))) mSkip)
  (mSeq (mIfS (mTest (mOp mEq (mVar 0) (mC (W.str "-")))) (mRet (mCall 1 m_wrapped (mCons (mOp mSub (mVar 1) (mVar 2)) mNil))) mSkip)
  (mSeq (mIfS (mTest (mOp mEq (mVar 0) (mC (W.str "*")))) (mRet (mCall 1 m_wrapped (mCons (mOp mMul (mVar 1) (mVar 2)) mNil))) mSkip)
  (mSeq (mIfS (mTest (mOp mNotIn (mVar 0) (mTup (mCons (mC (W.str "/")) (mCons (mC (W.str "mod")) mNil))))) (mRet (mCall 3 m_compared (mCons (mVar 0) (mCons (mVar 1) (mCons (mVar 2) mNil))))) mSkip)
  (mSeq (mIfS (mTest (mOp mEq (mVar 2) (mC (W.int 0)))) (mRet (mC W.non)) mSkip)
  (mSeq (mIfS (mTest (mOp mEq (mVar 0) (mC (W.str "/")))) (mRet (mOp mFdiv (mVar 1) (mVar 2))) mSkip)
  (mRet (mOp mMod (mVar 1) (mVar 2)))))))))
def m_op : MF := mDef 3 0 b_op
def b_mark_of : MS :=
  (mSeq (mAsg (mVar 0) (mGTup 6 (mGCons (mGN 3) (mGCons (mGN 4) (mGCons (mGN 5) (mGCons (mGN 3) (mGCons (mGN 3) (mGCons (mGN 6) mGNil))))))))
  (mSeq (mAsg (mCall 1 m_name_of (mCons (mVar 1) mNil)) (mGN 7))
  (mSeq (mIfS (mTest (mOp mEq (mVar 7) (mC (W.str "bad")))) (mRet (mC (W.str "bad"))) mSkip)
  (mSeq (mIfS (mTest (mOp mEq (mVar 7) (mC (W.str "halt")))) (mRet (mC (W.str "done"))) mSkip)
  (mSeq (mIfS (mTAnd (mTest (mOp mEq (mVar 7) (mC (W.str "bound")))) (mTest (mOp mGe (mVar 5) (mOp mMod (mVar 1) (mC w_ARGUMENTS))))) (mRet (mC (W.str "place"))) mSkip)
  (mSeq (mIfS (mTAnd (mTest (mOp mEq (mVar 7) (mC (W.str "within")))) (mTest (mOp mGe (mVar 5) (mVar 2)))) (mRet (mC (W.str "input"))) mSkip)
  (mSeq (mIfS (mTAnd (mTest (mOp mIn (mVar 7) (mC w_SIGNS))) (mTest (mOp mIsN (mCall 3 m_op (mCons (mVar 7) (mCons (mVar 4) (mCons (mVar 2) mNil)))) (mC W.non)))) (mRet (mC (W.str "divided"))) mSkip)
  (mSeq (mIfS (mTAnd (mTest (mOp mEq (mVar 7) (mC (W.str "tell")))) (mTest (mOp mEq (mVar 6) (mC w_MOST_TOLD)))) (mRet (mC (W.str "full"))) mSkip)
  (mRet (mC W.non))))))))))
def m_mark_of : MF := mDef 3 5 b_mark_of
def b_halted : MS :=
  (mSeq (mAsg (mVar 0) (mGTup 6 (mGCons (mGN 2) (mGCons (mGN 3) (mGCons (mGN 4) (mGCons (mGN 5) (mGCons (mGN 6) (mGCons (mGN 7) mGNil))))))))
  (mRet (mTup (mCons (mVar 2) (mCons (mVar 3) (mCons (mVar 4) (mCons (mTix z_MARKS (mVar 1)) (mCons (mVar 6) (mCons (mVar 7) mNil)))))))))
def m_halted : MF := mDef 2 6 b_halted
def b_Digests_fold : MS :=
  (mSeq (mAsg (mOp mAdd (mOp mAdd (mOp mMul (mC (W.int 69621)) (mVar 1)) (mOp mMul (mC (W.int 16807)) (mVar 2))) (mC (W.int 5))) (mGN 3))
  (mRet (mMeth 0 "_kept" 4 m_Digests_kept (mVar 0) (mCons (mC (W.str "fold")) (mCons (mTup (mCons (mVar 1) (mCons (mVar 2) mNil))) (mCons (mOp mAdd (mOp mAdd (mOp mAdd (mOp mAdd (mOp mMul (mVar 2) (mVar 2)) (mOp mMul (mC (W.int 3)) (mVar 1))) (mOp mMul (mC (W.int 7)) (mVar 2))) (mC (W.int 1))) (mOp mMul (mVar 3) (mVar 3))) mNil))))))
def m_Digests_fold : MF := mDef 3 1 b_Digests_fold
def b_Digests_leaf : MS :=
  (mRet (mMeth 0 "_kept" 4 m_Digests_kept (mVar 0) (mCons (mC (W.str "leaf")) (mCons (mVar 1) (mCons (mOp mAdd (mOp mMul (mC (W.int 48271)) (mVar 1)) (mC (W.int 11))) mNil)))))
def m_Digests_leaf : MF := mDef 2 0 b_Digests_leaf
def b_pc_behind : MS :=
  (mSeq (mAsg (mCall 1 m_name_of (mCons (mVar 2) mNil)) (mGN 4))
  (mSeq (mAsg (mOp mMod (mVar 2) (mC w_PLACES)) (mGN 5))
  (mSeq (mIfS (mTOr (mTest (mOp mEq (mVar 4) (mC (W.str "jump")))) (mTOr (mTAnd (mTest (mOp mEq (mVar 4) (mC (W.str "zero")))) (mTest (mOp mEq (mVar 1) (mC (W.int 0))))) (mTAnd (mTest (mOp mEq (mVar 4) (mC (W.str "some")))) (mTest (mOp mNe (mVar 1) (mC (W.int 0))))))) (mRet (mVar 5)) mSkip)
  (mSeq (mIfS (mTest (mOp mEq (mVar 4) (mC (W.str "call")))) (mRet (mOp mMod (mOp mAdd (mVar 5) (mC (W.int 1))) (mC w_PLACES))) mSkip)
  (mSeq (mIfS (mTest (mOp mEq (mVar 4) (mC (W.str "back")))) (mRet (mOp mMod (mVar 3) (mC w_PLACES))) mSkip)
  (mRet (mOp mMod (mOp mAdd (mVar 0) (mC (W.int 1))) (mC w_PLACES))))))))
def m_pc_behind : MF := mDef 4 2 b_pc_behind
def b_acc_behind : MS :=
  (mSeq (mIfS (mTest (mOp mEq (mVar 1) (mC (W.str "lit")))) (mRet (mVar 2)) mSkip)
  (mSeq (mIfS (mTest (mOp mIn (mVar 1) (mTup (mCons (mC (W.str "load")) (mCons (mC (W.str "loadx")) mNil))))) (mRet (mVar 3)) mSkip)
  (mSeq (mIfS (mTest (mOp mEq (mVar 1) (mC (W.str "not")))) (mRet (mCB mInt (mCons (mOp mEq (mVar 0) (mC (W.int 0))) mNil))) mSkip)
  (mSeq (mIfS (mTest (mOp mIn (mVar 1) (mC w_SIGNS))) (mRet (mCall 3 m_op (mCons (mVar 1) (mCons (mVar 0) (mCons (mVar 3) mNil))))) mSkip)
  (mRet (mVar 0))))))
def m_acc_behind : MF := mDef 4 0 b_acc_behind
def b_done_by : MS :=
  (mSeq (mAsg (mCall 3 m_mark_of (mCons (mVar 1) (mCons (mVar 2) (mCons (mVar 3) mNil)))) (mGN 4))
  (mSeq (mIfS (mTest (mOp mNotN (mVar 4) (mC W.non))) (mRet (mTup (mCons (mCall 2 m_halted (mCons (mVar 1) (mCons (mVar 4) mNil))) (mCons (mC W.non) mNil)))) mSkip)
  (mSeq (mAsg (mVar 1) (mGTup 6 (mGCons (mGN 5) (mGCons (mGN 6) (mGCons (mGN 7) (mGCons (mGN 8) (mGCons (mGN 9) (mGCons (mGN 10) mGNil))))))))
  (mSeq (mAsg (mCall 1 m_name_of (mCons (mVar 2) mNil)) (mGN 11))
  (mSeq (mAsg (mC W.non) (mGN 12))
  (mSeq (mIfS (mTest (mOp mIn (mVar 11) (mTup (mCons (mC (W.str "store")) (mCons (mC (W.str "storex")) mNil))))) (mAsg (mVar 6) (mGN 12)) mSkip)
  (mSeq (mIfS (mTest (mOp mEq (mVar 11) (mC (W.str "call")))) (mAsg (mOp mMod (mOp mAdd (mVar 5) (mC (W.int 1))) (mC w_PLACES)) (mGN 12)) mSkip)
  (mSeq (mIfS (mTest (mOp mEq (mVar 11) (mC (W.str "tox")))) (mAsg (mVar 6) (mGN 7)) mSkip)
  (mSeq (mIfS (mTest (mOp mEq (mVar 11) (mC (W.str "index")))) (mAsg (mVar 3) (mGN 7)) mSkip)
  (mSeq (mIfS (mTest (mOp mEq (mVar 11) (mC (W.str "tell")))) (mSeq (mAsg (mMeth 0 "fold" 3 m_Digests_fold (mVar 0) (mCons (mVar 9) (mCons (mMeth 0 "leaf" 2 m_Digests_leaf (mVar 0) (mCons (mVar 6) mNil)) mNil))) (mGN 9))
  (mAug 10 (mC (W.int 1)) (fun i j => i + j))) mSkip)
  (mSeq (mAsg (mCall 4 m_pc_behind (mCons (mVar 5) (mCons (mVar 6) (mCons (mVar 2) (mCons (mVar 3) mNil))))) (mGN 13))
  (mRet (mTup (mCons (mTup (mCons (mVar 13) (mCons (mCall 4 m_acc_behind (mCons (mVar 6) (mCons (mVar 11) (mCons (mOp mMod (mVar 2) (mC w_ARGUMENTS)) (mCons (mVar 3) mNil))))) (mCons (mVar 7) (mCons (mC (W.int 0)) (mCons (mVar 9) (mCons (mVar 10) mNil))))))) (mCons (mVar 12) mNil)))))))))))))))
def m_done_by : MF := mDef 4 10 b_done_by
def l0_Memory_change : MS :=
  (mSeq (mAsg (mVar 3) (mGSub (mVar 4) (mVar 1)))
  (mSeq (mAsg (mOp mSub (mVar 1) (mOp mMod (mVar 1) (mC (W.int 2)))) (mGN 5))
  (mSeq (mAsg (mMeth 0 "fold" 3 m_Digests_fold (mFld 2 "_digests" (mVar 0)) (mCons (mOp mIx (mVar 4) (mVar 5)) (mCons (mOp mIx (mVar 4) (mOp mAdd (mVar 5) (mC (W.int 1)))) mNil))) (mGN 3))
  (mAsg (mOp mFdiv (mVar 1) (mC (W.int 2))) (mGN 1)))))
def b_Memory_change : MS :=
  (mSeq (mAsg (mVar 2) (mGSub (mFld 2 "_words" (mVar 0)) (mVar 1)))
  (mSeq (mAsg (mMeth 0 "leaf" 2 m_Digests_leaf (mFld 2 "_digests" (mVar 0)) (mCons (mVar 2) mNil)) (mGN 3))
  (mSeq (mFor (mILst (mSl (mFld 2 "_rows" (mVar 0)) mNoPart (mPart (mUn mNeg (mC (W.int 1)))))) (mGN 4) l0_Memory_change)
  (mAsg (mLstS (mCons (mVar 3) mNil)) (mGSub (mFld 2 "_rows" (mVar 0)) (mUn mNeg (mC (W.int 1))))))))
def m_Memory_change : MF := mDef 3 3 b_Memory_change
def b_Machine_step : MS :=
  (mSeq (mAsg (mFld 3 "_registers" (mVar 0)) (mGN 1))
  (mSeq (mIfS (mTest (mOp mNe (mOp mIx (mVar 1) (mC (W.int 3))) (mC (W.int 0)))) mRetN mSkip)
  (mSeq (mAsg (mMeth 2 "word" 2 m_Memory_word (mFld 3 "_memory" (mVar 0)) (mCons (mOp mIx (mVar 1) (mC (W.int 0))) mNil)) (mGN 2))
  (mSeq (mAsg (mCall 2 m_data_of (mCons (mVar 1) (mCons (mVar 2) mNil))) (mGN 3))
  (mSeq (mAsg (mC W.non) (mGN 4))
  (mSeq (mIfS (mTest (mOp mNotN (mVar 3) (mC W.non))) (mAsg (mMeth 2 "word" 2 m_Memory_word (mFld 3 "_memory" (mVar 0)) (mCons (mOp mIx (mVar 3) (mC (W.int 0))) mNil)) (mGN 4)) mSkip)
  (mSeq (mAsg (mCall 4 m_done_by (mCons (mFld 3 "_digests" (mVar 0)) (mCons (mVar 1) (mCons (mVar 2) (mCons (mVar 4) mNil))))) (mGTup 2 (mGCons (mGFld 3 "_registers" (mVar 0)) (mGCons (mGN 5) mGNil))))
  (mSeq (mIfS (mTest (mOp mNotN (mVar 5) (mC W.non))) (mDrop (mMeth 2 "change" 3 m_Memory_change (mFld 3 "_memory" (mVar 0)) (mCons (mOp mIx (mVar 3) (mC (W.int 0))) (mCons (mVar 5) mNil)))) mSkip)
  (mIfS (mTest (mOp mGt (mOp mIx (mFld 3 "_registers" (mVar 0)) (mC (W.int 5))) (mOp mIx (mVar 1) (mC (W.int 5))))) (mSetF 3 "_told" (mVar 0) (mOp mAdd (mFld 3 "_told" (mVar 0)) (mTup (mCons (mOp mIx (mVar 1) (mC (W.int 1))) mNil)))) mSkip)))))))))
def m_Machine_step : MF := mDef 1 5 b_Machine_step
def b_L_bag : MS :=
  (mRet (mLstS (mCons (mC (W.int 0)) (mCons (mC (W.int 7)) (mCons (mC (W.int 0)) (mCons (mC (W.int 0)) (mCons (mCB mListOf (mCons (mVar 0) mNil)) mNil)))))))
def m_L_bag : MF := mDef 1 0 b_L_bag
def b_L_draw : MS :=
  (mSeq (mIfS (mTest (mOp mEq (mOp mIx (mVar 0) (mC (W.int 0))) (mC (W.int 0)))) (mSeq (mAsg (mCB mInt (mCons (mOp mIx (mVar 0) (mC (W.int 3))) mNil)) (mGN 2))
  (mSeq (mAsg (mOp mIx (mVar 0) (mC (W.int 4))) (mGN 3))
  (mSeq (mIfS (mTest (mOp mLt (mOp mIx (mVar 0) (mC (W.int 2))) (mCB mLen (mCons (mVar 3) mNil)))) (mAsg (mCB mInt (mCons (mOp mIx (mVar 3) (mOp mIx (mVar 0) (mC (W.int 2)))) mNil)) (mGN 2)) mSkip)
  (mSeq (mAsg (mOp mAdd (mOp mIx (mVar 0) (mC (W.int 2))) (mC (W.int 1))) (mGSub (mVar 0) (mC (W.int 2))))
  (mSeq (mAsg (mOp mMod (mCB mInt (mCons (mOp mAdd (mOp mAdd (mOp mAdd (mOp mMul (mOp mIx (mVar 0) (mC (W.int 1))) (mC (W.int 48271))) (mOp mMul (mVar 2) (mC (W.int 69621)))) (mOp mMul (mOp mIx (mVar 0) (mC (W.int 2))) (mC (W.int 16807)))) (mC (W.int 11))) mNil)) (mC (W.int 2147483647))) (mGN 4))
  (mSeq (mAsg (mOp mAdd (mOp mMul (mVar 4) (mC (W.int 2147483629))) (mOp mMod (mCB mInt (mCons (mOp mAdd (mOp mMul (mVar 4) (mVar 4)) (mVar 2)) mNil)) (mC (W.int 2147483629)))) (mGSub (mVar 0) (mC (W.int 0))))
  (mSeq (mIfS (mTest (mOp mGe (mVar 2) (mOp mPow (mC (W.int 10)) (mC (W.int 18))))) (mAsg (mVar 2) (mGSub (mVar 0) (mC (W.int 0)))) mSkip)
  (mAsg (mVar 4) (mGSub (mVar 0) (mC (W.int 1))))))))))) mSkip)
  (mSeq (mAsg (mOp mIx (mVar 0) (mC (W.int 0))) (mGN 5))
  (mSeq (mAsg (mOp mFdiv (mVar 5) (mVar 1)) (mGSub (mVar 0) (mC (W.int 0))))
  (mRet (mOp mMod (mCB mInt (mCons (mVar 5) mNil)) (mVar 1))))))
def m_L_draw : MF := mDef 2 4 b_L_draw
def b_Book_init : MS :=
  (mSeq (mSetF 1 "_texts" (mVar 0) mDNewT)
  (mSetF 1 "_collision" (mVar 0) (mC (W.bl false))))
def m_Book_init : MF := mDef 1 0 b_Book_init
def b_Digests_init : MS :=
  (mSeq (mSetF 0 "_bits" (mVar 0) (mVar 1))
  (mSeq (mSetF 0 "_modulus" (mVar 0) (mOp mSub (mOp mShl (mC (W.int 1)) (mVar 1)) (mC (W.int 1))))
  (mSetF 0 "_book" (mVar 0) (mVar 2))))
def m_Digests_init : MF := mDef 3 0 b_Digests_init
def e0_folded : ME :=
  (mMeth 0 "fold" 3 m_Digests_fold (mVar 0) (mCons (mOp mIx (mVar 1) (mVar 2)) (mCons (mOp mIx (mVar 1) (mOp mAdd (mVar 2) (mC (W.int 1)))) mNil)))
def b_folded : MS :=
  (mRet (mLcS (mIRngC (mCons (mC (W.int 0)) (mCons (mCB mLen (mCons (mVar 1) mNil)) (mCons (mC (W.int 2)) mNil)))) (.nm 2) mYes e0_folded [2]))
def m_folded : MF := mDef 2 1 b_folded
def e0_Memory_init : ME :=
  (mMeth 0 "leaf" 2 m_Digests_leaf (mVar 1) (mCons (mVar 3) mNil))
def t1_Memory_init : MT :=
  (mTest (mOp mGt (mCB mLen (mCons (mOp mIx (mFld 2 "_rows" (mVar 0)) (mUn mNeg (mC (W.int 1)))) mNil)) (mC (W.int 1))))
def l2_Memory_init : MS :=
  (mDrop (mLM mApp (mFld 2 "_rows" (mVar 0)) (mCons (mCall 2 m_folded (mCons (mVar 1) (mCons (mOp mIx (mFld 2 "_rows" (mVar 0)) (mUn mNeg (mC (W.int 1)))) mNil))) mNil)))
def b_Memory_init : MS :=
  (mSeq (mSetF 2 "_digests" (mVar 0) (mVar 1))
  (mSeq (mSetF 2 "_words" (mVar 0) (mOp mAddS (mCB mListOf (mCons (mVar 2) mNil)) (mOp mMul (mLst (mCons (mC (W.int 0)) mNil)) (mOp mSub (mC w_PLACES) (mCB mLen (mCons (mVar 2) mNil))))))
  (mSeq (mSetF 2 "_rows" (mVar 0) (mLstS (mCons (mLcS (mILst (mFld 2 "_words" (mVar 0))) (.nm 3) mYes e0_Memory_init [3]) mNil)))
  (mWhileN t1_Memory_init l2_Memory_init 9))))
def m_Memory_init : MF := mDef 3 1 b_Memory_init
def b_Machine_init : MS :=
  (mSeq (mSetF 3 "_digests" (mVar 0) (mVar 1))
  (mSeq (mSetF 3 "_registers" (mVar 0) (mVar 2))
  (mSeq (mSetF 3 "_memory" (mVar 0) (mMake 2 3 m_Memory_init (mCons (mVar 1) (mCons (mVar 3) mNil))))
  (mSetF 3 "_told" (mVar 0) (mTup mNil)))))
def m_Machine_init : MF := mDef 4 0 b_Machine_init
def b_L_start : MS :=
  (mSeq (mAsg (mLst (mCons (mC (W.int 0)) (mCons (mC (W.int 1)) (mCons (mC (W.int 3)) (mCons (mC (W.int 255)) (mCons (mC (W.int 256)) (mCons (mC (W.int 65535)) (mCons (mCall 2 m_L_draw (mCons (mVar 0) (mCons (mC (W.int 65536)) mNil))) mNil)))))))) (mGN 2))
  (mSeq (mAsg (mOp mIx (mLst (mCons (mC (W.int 0)) (mCons (mC (W.int 255)) (mCons (mCall 2 m_L_draw (mCons (mVar 0) (mCons (mC (W.int 16)) mNil))) (mCons (mCall 2 m_L_draw (mCons (mVar 0) (mCons (mC (W.int 256)) mNil))) mNil))))) (mCall 2 m_L_draw (mCons (mVar 0) (mCons (mC (W.int 4)) mNil)))) (mGN 3))
  (mSeq (mAsg (mOp mIx (mLst (mCons (mC (W.int 0)) (mCons (mC (W.int 15)) (mCons (mC (W.int 16)) (mCons (mCall 2 m_L_draw (mCons (mVar 0) (mCons (mC (W.int 17)) mNil))) mNil))))) (mCall 2 m_L_draw (mCons (mVar 0) (mCons (mC (W.int 4)) mNil)))) (mGN 4))
  (mSeq (mAsg (mOp mIx (mLst (mCons (mC (W.int 7)) (mCons (mOp mSub (mVar 1) (mC (W.int 1))) (mCons (mCall 2 m_L_draw (mCons (mVar 0) (mCons (mVar 1) mNil))) mNil)))) (mCall 2 m_L_draw (mCons (mVar 0) (mCons (mC (W.int 3)) mNil)))) (mGN 5))
  (mSeq (mAsg (mOp mIx (mLst (mCons (mC (W.int 0)) (mCons (mC (W.int 0)) (mCons (mC (W.int 0)) (mCons (mC (W.int 0)) (mCons (mC (W.int 0)) (mCons (mC (W.int 0)) (mCons (mC (W.int 0)) (mCons (mCall 2 m_L_draw (mCons (mVar 0) (mCons (mC (W.int 7)) mNil))) mNil))))))))) (mCall 2 m_L_draw (mCons (mVar 0) (mCons (mC (W.int 8)) mNil)))) (mGN 6))
  (mRet (mTup (mCons (mVar 3) (mCons (mOp mIx (mVar 2) (mCall 2 m_L_draw (mCons (mVar 0) (mCons (mC (W.int 7)) mNil)))) (mCons (mOp mIx (mVar 2) (mCall 2 m_L_draw (mCons (mVar 0) (mCons (mC (W.int 7)) mNil)))) (mCons (mVar 6) (mCons (mVar 5) (mCons (mVar 4) mNil)))))))))))))
def m_L_start : MF := mDef 2 5 b_L_start
def b_L_word : MS :=
  (mSeq (mAsg (mCall 2 m_L_draw (mCons (mVar 0) (mCons (mC (W.int 8)) mNil))) (mGN 1))
  (mSeq (mIfS (mTest (mOp mLt (mVar 1) (mC (W.int 5)))) (mRet (mOp mAdd (mOp mMul (mC (W.int 1024)) (mCall 2 m_L_draw (mCons (mVar 0) (mCons (mC (W.int 29)) mNil)))) (mOp mIx (mLst (mCons (mCall 2 m_L_draw (mCons (mVar 0) (mCons (mC (W.int 16)) mNil))) (mCons (mCall 2 m_L_draw (mCons (mVar 0) (mCons (mC (W.int 256)) mNil))) (mCons (mCall 2 m_L_draw (mCons (mVar 0) (mCons (mC (W.int 1024)) mNil))) mNil)))) (mCall 2 m_L_draw (mCons (mVar 0) (mCons (mC (W.int 3)) mNil)))))) mSkip)
  (mRet (mOp mIx (mLst (mCons (mC (W.int 0)) (mCons (mC (W.int 1)) (mCons (mC (W.int 15)) (mCons (mC (W.int 65535)) (mCons (mCall 2 m_L_draw (mCons (mVar 0) (mCons (mC (W.int 65536)) mNil))) mNil)))))) (mCall 2 m_L_draw (mCons (mVar 0) (mCons (mC (W.int 5)) mNil)))))))
def m_L_word : MF := mDef 1 1 b_L_word
def e0_L_words : ME :=
  (mCall 1 m_L_word (mCons (mVar 0) mNil))
def e1_L_words : ME :=
  (mOp mIx (mLst (mCons (mC (W.int 0)) (mCons (mC (W.int 65535)) (mCons (mC (W.int 3000)) mNil)))) (mCall 2 m_L_draw (mCons (mVar 0) (mCons (mC (W.int 3)) mNil))))
def b_L_words : MS :=
  (mSeq (mAsg (mOp mIx (mLst (mCons (mC (W.int 16)) (mCons (mC (W.int 40)) (mCons (mC (W.int 256)) mNil)))) (mCall 2 m_L_draw (mCons (mVar 0) (mCons (mC (W.int 3)) mNil)))) (mGN 1))
  (mSeq (mAsg (mLc (mIRng1 (mCons (mVar 1) mNil)) (.nm 3) mYes e0_L_words [3]) (mGN 2))
  (mRet (mCB mTupleOf (mCons (mSl (mOp mAdd (mVar 2) (mLc (mIRng1 (mCons (mC (W.int 256)) mNil)) (.nm 3) mYes e1_L_words [3])) mNoPart (mPart (mC (W.int 256)))) mNil)))))
def m_L_words : MF := mDef 1 3 b_L_words
def b_opened : MS :=
  (mSeq (mAsg (mMeth 3 "registers" 1 m_Machine_registers (mVar 0) mNil) (mGN 1))
  (mSeq (mAsg (mTup mNil) (mGN 2))
  (mSeq (mIfS (mTest (mOp mEq (mOp mIx (mVar 1) (mC (W.int 3))) (mC (W.int 0)))) (mSeq (mAsg (mMeth 3 "word" 2 m_Machine_word (mVar 0) (mCons (mOp mIx (mVar 1) (mC (W.int 0))) mNil)) (mGN 3))
  (mSeq (mAsg (mTup (mCons (mTup (mCons (mVar 3) (mCons (mMeth 3 "path" 2 m_Machine_path (mVar 0) (mCons (mOp mIx (mVar 1) (mC (W.int 0))) mNil)) mNil))) mNil)) (mGN 2))
  (mSeq (mAsg (mCall 2 m_data_of (mCons (mVar 1) (mCons (mVar 3) mNil))) (mGN 4))
  (mIfS (mTest (mOp mNotN (mVar 4) (mC W.non))) (mAsg (mOp mAdd (mVar 2) (mTup (mCons (mTup (mCons (mMeth 3 "word" 2 m_Machine_word (mVar 0) (mCons (mOp mIx (mVar 4) (mC (W.int 0))) mNil)) (mCons (mMeth 3 "path" 2 m_Machine_path (mVar 0) (mCons (mOp mIx (mVar 4) (mC (W.int 0))) mNil)) mNil))) mNil))) (mGN 2)) mSkip)))) mSkip)
  (mRet (mTup (mCons (mVar 1) (mCons (mMeth 3 "root" 1 m_Machine_root (mVar 0) mNil) (mCons (mVar 2) mNil))))))))
def m_opened : MF := mDef 1 4 b_opened
def b_must : MS :=
  (mIfS (mTNot (mTru (mVar 0))) (mRaise 29) mSkip)
def m_must : MF := mDefX 1 0 b_must
def b_is_integer : MS :=
  (mRet (mAndV (mIsi "int" (mVar 0)) (mAndV (mNotV (mIsi "bool" (mVar 0))) (mChain mLe mLe (mVar 1) (mVar 0) (mVar 2)))))
def m_is_integer : MF := mDef 3 0 b_is_integer
def b_is_word : MS :=
  (mRet (mCall 3 m_is_integer (mCons (mVar 0) (mCons (mC (W.int 0)) (mCons (mC w_MOST_WORD) mNil)))))
def m_is_word : MF := mDef 1 0 b_is_word
def b_Digests_is_digest : MS :=
  (mRet (mCall 3 m_is_integer (mCons (mVar 1) (mCons (mC (W.int 0)) (mCons (mOp mSub (mFld 0 "_modulus" (mVar 0)) (mC (W.int 1))) mNil)))))
def m_Digests_is_digest : MF := mDef 2 0 b_Digests_is_digest
def b_are_registers : MS :=
  (mSeq (mIfS (mTOr (mTNot (mTru (mIsi "tuple" (mVar 1)))) (mTest (mOp mNe (mCB mLen (mCons (mVar 1) mNil)) (mC (W.int 6))))) (mRet (mC (W.bl false))) mSkip)
  (mSeq (mAsg (mVar 1) (mGTup 6 (mGCons (mGN 2) (mGCons (mGN 3) (mGCons (mGN 4) (mGCons (mGN 5) (mGCons (mGN 6) (mGCons (mGN 7) mGNil))))))))
  (mSeq (mIfS (mTOr (mTNot (mTru (mCall 3 m_is_integer (mCons (mVar 2) (mCons (mC (W.int 0)) (mCons (mOp mSub (mC w_PLACES) (mC (W.int 1))) mNil)))))) (mTOr (mTNot (mTru (mCall 1 m_is_word (mCons (mVar 3) mNil)))) (mTNot (mTru (mCall 1 m_is_word (mCons (mVar 4) mNil)))))) (mRet (mC (W.bl false))) mSkip)
  (mRet (mAndV (mCall 3 m_is_integer (mCons (mVar 5) (mCons (mC (W.int 0)) (mCons (mOp mSub (mCB mLen (mCons (mC w_MARKS) mNil)) (mC (W.int 1))) mNil)))) (mAndV (mMeth 0 "is_digest" 2 m_Digests_is_digest (mVar 0) (mCons (mVar 6) mNil)) (mCall 3 m_is_integer (mCons (mVar 7) (mCons (mC (W.int 0)) (mCons (mC w_MOST_TOLD) mNil))))))))))
def m_are_registers : MF := mDef 2 6 b_are_registers
def e0_is_part : ME :=
  (mMeth 0 "is_digest" 2 m_Digests_is_digest (mVar 0) (mCons (mVar 2) mNil))
def b_is_part : MS :=
  (mSeq (mIfS (mTOr (mTNot (mTru (mIsi "tuple" (mVar 1)))) (mTOr (mTest (mOp mNe (mCB mLen (mCons (mVar 1) mNil)) (mC (W.int 2)))) (mTNot (mTru (mCall 1 m_is_word (mCons (mOp mIx (mVar 1) (mC (W.int 0))) mNil)))))) (mRet (mC (W.bl false))) mSkip)
  (mSeq (mIfS (mTOr (mTNot (mTru (mIsi "tuple" (mOp mIx (mVar 1) (mC (W.int 1)))))) (mTest (mOp mNe (mCB mLen (mCons (mOp mIx (mVar 1) (mC (W.int 1))) mNil)) (mC w_DEPTH)))) (mRet (mC (W.bl false))) mSkip)
  (mRet (mCB mAll (mCons (mLc (mITup (mOp mIx (mVar 1) (mC (W.int 1)))) (.nm 2) mYes e0_is_part [2]) mNil)))))
def m_is_part : MF := mDef 2 1 b_is_part
def e0_is_opening : ME :=
  (mCall 2 m_is_part (mCons (mVar 0) (mCons (mVar 2) mNil)))
def b_is_opening : MS :=
  (mSeq (mIfS (mTOr (mTNot (mTru (mIsi "tuple" (mVar 1)))) (mTOr (mTest (mOp mNe (mCB mLen (mCons (mVar 1) mNil)) (mC (W.int 3)))) (mTNot (mTru (mIsi "tuple" (mOp mIx (mVar 1) (mC (W.int 2)))))))) (mRet (mC (W.bl false))) mSkip)
  (mSeq (mIfS (mTOr (mTNot (mTru (mCall 2 m_are_registers (mCons (mVar 0) (mCons (mOp mIx (mVar 1) (mC (W.int 0))) mNil))))) (mTNot (mTru (mMeth 0 "is_digest" 2 m_Digests_is_digest (mVar 0) (mCons (mOp mIx (mVar 1) (mC (W.int 1))) mNil))))) (mRet (mC (W.bl false))) mSkip)
  (mRet (mCB mAll (mCons (mLc (mITup (mOp mIx (mVar 1) (mC (W.int 2)))) (.nm 2) mYes e0_is_opening [2]) mNil)))))
def m_is_opening : MF := mDef 2 1 b_is_opening
def l0_root_by : MS :=
  (mSeq (mIfS (mTest (mOp mEq (mOp mMod (mVar 1) (mC (W.int 2))) (mC (W.int 0)))) (mAsg (mMeth 0 "fold" 3 m_Digests_fold (mVar 0) (mCons (mVar 4) (mCons (mVar 5) mNil))) (mGN 4)) (mAsg (mMeth 0 "fold" 3 m_Digests_fold (mVar 0) (mCons (mVar 5) (mCons (mVar 4) mNil))) (mGN 4)))
  (mAsg (mOp mFdiv (mVar 1) (mC (W.int 2))) (mGN 1)))
def b_root_by : MS :=
  (mSeq (mAsg (mVar 2) (mGN 4))
  (mSeq (mFor (mITup (mVar 3)) (mGN 5) l0_root_by)
  (mRet (mVar 4))))
def m_root_by : MF := mDef 4 2 b_root_by
def b_root_with : MS :=
  (mRet (mCall 4 m_root_by (mCons (mVar 0) (mCons (mVar 1) (mCons (mMeth 0 "leaf" 2 m_Digests_leaf (mVar 0) (mCons (mVar 2) mNil)) (mCons (mVar 3) mNil))))))
def m_root_with : MF := mDef 4 0 b_root_with
def b_step_of : MS :=
  (mSeq (mDrop (mCall 1 m_must (mCons (mCall 2 m_is_opening (mCons (mVar 0) (mCons (mVar 2) mNil))) mNil)))
  (mSeq (mAsg (mVar 2) (mGTup 3 (mGCons (mGN 3) (mGCons (mGN 4) (mGCons (mGN 5) mGNil)))))
  (mSeq (mDrop (mCall 1 m_must (mCons (mOp mEq (mMeth 0 "state" 2 m_Digests_state (mVar 0) (mCons (mOp mAdd (mVar 3) (mTup (mCons (mVar 4) mNil))) mNil)) (mVar 1)) mNil)))
  (mSeq (mIfS (mTest (mOp mNe (mOp mIx (mVar 3) (mC (W.int 3))) (mC (W.int 0)))) (mSeq (mDrop (mCall 1 m_must (mCons (mOp mEq (mVar 5) (mTup mNil)) mNil)))
  (mRet (mVar 1))) mSkip)
  (mSeq (mDrop (mCall 1 m_must (mCons (mOp mNe (mVar 5) (mTup mNil)) mNil)))
  (mSeq (mAsg (mOp mIx (mVar 5) (mC (W.int 0))) (mGTup 2 (mGCons (mGN 6) (mGCons (mGN 7) mGNil))))
  (mSeq (mAsg (mCall 2 m_data_of (mCons (mVar 3) (mCons (mVar 6) mNil))) (mGN 8))
  (mSeq (mDrop (mCall 1 m_must (mCons (mOp mEq (mCB mLen (mCons (mVar 5) mNil)) (mOp mAdd (mC (W.int 1)) (mCB mInt (mCons (mOp mNotN (mVar 8) (mC W.non)) mNil)))) mNil)))
  (mSeq (mDrop (mCall 1 m_must (mCons (mOp mEq (mCall 4 m_root_with (mCons (mVar 0) (mCons (mOp mIx (mVar 3) (mC (W.int 0))) (mCons (mVar 6) (mCons (mVar 7) mNil))))) (mVar 4)) mNil)))
  (mSeq (mAsg (mC W.non) (mGN 9))
  (mSeq (mIfS (mTest (mOp mNotN (mVar 8) (mC W.non))) (mSeq (mAsg (mOp mIx (mVar 5) (mC (W.int 1))) (mGTup 2 (mGCons (mGN 9) (mGCons (mGN 7) mGNil))))
  (mDrop (mCall 1 m_must (mCons (mOp mEq (mCall 4 m_root_with (mCons (mVar 0) (mCons (mOp mIx (mVar 8) (mC (W.int 0))) (mCons (mVar 9) (mCons (mVar 7) mNil))))) (mVar 4)) mNil)))) mSkip)
  (mSeq (mAsg (mCall 4 m_done_by (mCons (mVar 0) (mCons (mVar 3) (mCons (mVar 6) (mCons (mVar 9) mNil))))) (mGTup 2 (mGCons (mGN 10) (mGCons (mGN 11) mGNil))))
  (mSeq (mIfS (mTest (mOp mNotN (mVar 11) (mC W.non))) (mAsg (mCall 4 m_root_with (mCons (mVar 0) (mCons (mOp mIx (mVar 8) (mC (W.int 0))) (mCons (mVar 11) (mCons (mVar 7) mNil))))) (mGN 4)) mSkip)
  (mRet (mMeth 0 "state" 2 m_Digests_state (mVar 0) (mCons (mOp mAdd (mVar 10) (mTup (mCons (mVar 4) mNil))) mNil))))))))))))))))
def m_step_of : MF := mDefX 3 9 b_step_of
def b_L_taken : MS :=
  (mSeq (mTry1 (mDrop (mCallX 3 m_step_of (mCons (mVar 0) (mCons (mVar 1) (mCons (mVar 2) mNil))))) (tabC 29 true tabN) (mRet (mC (W.bl false))))
  (mRet (mC (W.bl true))))
def m_L_taken : MF := mDef 3 0 b_L_taken
def b_Book_has_collision : MS :=
  (mRet (mFld 1 "_collision" (mVar 0)))
def m_Book_has_collision : MF := mDef 1 0 b_Book_has_collision
def l0_law : MS :=
  (mSeq (mDrop (mLM mApp (mVar 8) (mCons (mTup (mCons (mMeth 3 "registers" 1 m_Machine_registers (mVar 6) mNil) (mCons (mMeth 3 "words" 1 m_Machine_words (mVar 6) mNil) mNil))) mNil)))
  (mSeq (mDrop (mLM mApp (mVar 9) (mCons (mCall 1 m_opened (mCons (mVar 6) mNil)) mNil)))
  (mSeq (mDrop (mLM mApp (mVar 10) (mCons (mVar 7) mNil)))
  (mSeq (mAsg (mCall 3 m_step_of (mCons (mVar 5) (mCons (mVar 7) (mCons (mOp mIx (mVar 9) (mUn mNeg (mC (W.int 1)))) mNil)))) (mGN 7))
  (mSeq (mDrop (mMeth 3 "step" 1 m_Machine_step (mVar 6) mNil))
  (mIfS (mTOr (mTest (mOp mNe (mVar 7) (mMeth 3 "digest" 1 m_Machine_digest (mVar 6) mNil))) (mTAnd (mTest (mOp mNe (mOp mIx (mOp mIx (mOp mIx (mVar 8) (mUn mNeg (mC (W.int 1)))) (mC (W.int 0))) (mC (W.int 3))) (mC (W.int 0)))) (mTest (mOp mNe (mVar 7) (mOp mIx (mVar 10) (mUn mNeg (mC (W.int 1)))))))) (mRet (mC (W.bl false))) mSkip))))))
def l1_law : MS :=
  (mSeq (mAsg (mCall 2 m_L_draw (mCons (mVar 1) (mCons (mCB mLen (mCons (mVar 10) mNil)) mNil))) (mGN 12))
  (mSeq (mAsg (mCall 2 m_L_draw (mCons (mVar 1) (mCons (mCB mLen (mCons (mVar 10) mNil)) mNil))) (mGN 13))
  (mSeq (mAsg (mCall 3 m_L_taken (mCons (mVar 5) (mCons (mOp mIx (mVar 10) (mVar 12)) (mCons (mOp mIx (mVar 9) (mVar 13)) mNil)))) (mGN 14))
  (mSeq (mIfS (mTest (mOp mNe (mVar 14) (mOp mEq (mOp mIx (mVar 10) (mVar 12)) (mOp mIx (mVar 10) (mVar 13))))) (mRet (mC (W.bl false))) mSkip)
  (mIfS (mTAnd (mTru (mVar 14)) (mTAnd (mTest (mOp mNe (mOp mIx (mVar 8) (mVar 12)) (mOp mIx (mVar 8) (mVar 13)))) (mTNot (mTru (mMeth 1 "has_collision" 1 m_Book_has_collision (mVar 4) mNil))))) (mRet (mC (W.bl false))) mSkip)))))
def b_law : MS :=
  (mSeq (mAsg (mCall 1 m_L_bag (mCons (mVar 0) mNil)) (mGN 1))
  (mSeq (mAsg (mOp mIx (mLst (mCons (mC (W.int 61)) (mCons (mC (W.int 31)) (mCons (mC (W.int 13)) (mCons (mC (W.int 7)) mNil))))) (mCall 2 m_L_draw (mCons (mVar 1) (mCons (mC (W.int 4)) mNil)))) (mGN 2))
  (mSeq (mAsg (mOp mIx (mLst (mCons (mOp mSub (mOp mPow (mC (W.int 2)) (mC (W.int 61))) (mC (W.int 1))) (mCons (mOp mSub (mOp mPow (mC (W.int 2)) (mC (W.int 31))) (mC (W.int 1))) (mCons (mOp mSub (mOp mPow (mC (W.int 2)) (mC (W.int 13))) (mC (W.int 1))) (mCons (mOp mSub (mOp mPow (mC (W.int 2)) (mC (W.int 7))) (mC (W.int 1))) mNil))))) (mLM mIndex (mLst (mCons (mC (W.int 61)) (mCons (mC (W.int 31)) (mCons (mC (W.int 13)) (mCons (mC (W.int 7)) mNil))))) (mCons (mVar 2) mNil))) (mGN 3))
  (mSeq (mAsg (mMake 1 1 m_Book_init mNil) (mGN 4))
  (mSeq (mAsg (mMake 0 3 m_Digests_init (mCons (mVar 2) (mCons (mVar 4) mNil))) (mGN 5))
  (mSeq (mAsg (mMake 3 4 m_Machine_init (mCons (mVar 5) (mCons (mCall 2 m_L_start (mCons (mVar 1) (mCons (mVar 3) mNil))) (mCons (mCall 1 m_L_words (mCons (mVar 1) mNil)) mNil)))) (mGN 6))
  (mSeq (mAsg (mMeth 3 "digest" 1 m_Machine_digest (mVar 6) mNil) (mGN 7))
  (mSeq (mAsg (mLstS mNil) (mGN 8))
  (mSeq (mAsg (mLstS mNil) (mGN 9))
  (mSeq (mAsg (mLstS mNil) (mGN 10))
  (mSeq (mFor (mIRng1 (mCons (mOp mAdd (mC (W.int 1)) (mCall 2 m_L_draw (mCons (mVar 1) (mCons (mC (W.int 60)) mNil)))) mNil)) (mGN 11) l0_law)
  (mSeq (mFor (mIRng1 (mCons (mC (W.int 20)) mNil)) (mGN 11) l1_law)
  (mRet (mC (W.bl true)))))))))))))))
def m_law : MF := mDefX 1 14 b_law
/-! ### what the top has made -/
structure Tx (K : PySem.W.Frag) (mg : Str → Option Value) (Cl : Nat → Addr) where
  a_Machine_told : Addr
  d_Machine_told : FuncData
  F_Machine_told : Fun K "told" "Machine.told" s_Machine_told a_Machine_told d_Machine_told
  m_Machine_told : Meth K (Cl 3) "told" a_Machine_told
  a_Memory_words : Addr
  d_Memory_words : FuncData
  F_Memory_words : Fun K "words" "Memory.words" s_Memory_words a_Memory_words d_Memory_words
  m_Memory_words : Meth K (Cl 2) "words" a_Memory_words
  a_Machine_words : Addr
  d_Machine_words : FuncData
  F_Machine_words : Fun K "words" "Machine.words" s_Machine_words a_Machine_words d_Machine_words
  m_Machine_words : Meth K (Cl 3) "words" a_Machine_words
  a_Memory_word : Addr
  d_Memory_word : FuncData
  F_Memory_word : Fun K "word" "Memory.word" s_Memory_word a_Memory_word d_Memory_word
  m_Memory_word : Meth K (Cl 2) "word" a_Memory_word
  a_Machine_word : Addr
  d_Machine_word : FuncData
  F_Machine_word : Fun K "word" "Machine.word" s_Machine_word a_Machine_word d_Machine_word
  m_Machine_word : Meth K (Cl 3) "word" a_Machine_word
  a_Machine_registers : Addr
  d_Machine_registers : FuncData
  F_Machine_registers : Fun K "registers" "Machine.registers" s_Machine_registers a_Machine_registers d_Machine_registers
  m_Machine_registers : Meth K (Cl 3) "registers" a_Machine_registers
  a_Memory_root : Addr
  d_Memory_root : FuncData
  F_Memory_root : Fun K "root" "Memory.root" s_Memory_root a_Memory_root d_Memory_root
  m_Memory_root : Meth K (Cl 2) "root" a_Memory_root
  a_Machine_root : Addr
  d_Machine_root : FuncData
  F_Machine_root : Fun K "root" "Machine.root" s_Machine_root a_Machine_root d_Machine_root
  m_Machine_root : Meth K (Cl 3) "root" a_Machine_root
  a_Book_add : Addr
  d_Book_add : FuncData
  F_Book_add : Fun K "add" "Book.add" s_Book_add a_Book_add d_Book_add
  m_Book_add : Meth K (Cl 1) "add" a_Book_add
  a_Digests_kept : Addr
  d_Digests_kept : FuncData
  F_Digests_kept : Fun K "_kept" "Digests._kept" s_Digests_kept a_Digests_kept d_Digests_kept
  m_Digests_kept : Meth K (Cl 0) "_kept" a_Digests_kept
  a_Digests_state : Addr
  d_Digests_state : FuncData
  F_Digests_state : Fun K "state" "Digests.state" s_Digests_state a_Digests_state d_Digests_state
  m_Digests_state : Meth K (Cl 0) "state" a_Digests_state
  a_Machine_digest : Addr
  d_Machine_digest : FuncData
  F_Machine_digest : Fun K "digest" "Machine.digest" s_Machine_digest a_Machine_digest d_Machine_digest
  m_Machine_digest : Meth K (Cl 3) "digest" a_Machine_digest
  a_Memory_path : Addr
  d_Memory_path : FuncData
  F_Memory_path : Fun K "path" "Memory.path" s_Memory_path a_Memory_path d_Memory_path
  m_Memory_path : Meth K (Cl 2) "path" a_Memory_path
  a_Machine_path : Addr
  d_Machine_path : FuncData
  F_Machine_path : Fun K "path" "Machine.path" s_Machine_path a_Machine_path d_Machine_path
  m_Machine_path : Meth K (Cl 3) "path" a_Machine_path
  a_name_of : Addr
  d_name_of : FuncData
  F_name_of : Fun K "name_of" "name_of" s_name_of a_name_of d_name_of
  g_name_of : mg "name_of" = some (.ref a_name_of)
  a_data_of : Addr
  d_data_of : FuncData
  F_data_of : Fun K "data_of" "data_of" s_data_of a_data_of d_data_of
  g_data_of : mg "data_of" = some (.ref a_data_of)
  a_wrapped : Addr
  d_wrapped : FuncData
  F_wrapped : Fun K "wrapped" "wrapped" s_wrapped a_wrapped d_wrapped
  g_wrapped : mg "wrapped" = some (.ref a_wrapped)
  a_compared : Addr
  d_compared : FuncData
  F_compared : Fun K "compared" "compared" s_compared a_compared d_compared
  g_compared : mg "compared" = some (.ref a_compared)
  a_op : Addr
  d_op : FuncData
  F_op : Fun K "op" "op" s_op a_op d_op
  g_op : mg "op" = some (.ref a_op)
  a_mark_of : Addr
  d_mark_of : FuncData
  F_mark_of : Fun K "mark_of" "mark_of" s_mark_of a_mark_of d_mark_of
  g_mark_of : mg "mark_of" = some (.ref a_mark_of)
  a_halted : Addr
  d_halted : FuncData
  F_halted : Fun K "halted" "halted" s_halted a_halted d_halted
  g_halted : mg "halted" = some (.ref a_halted)
  a_Digests_fold : Addr
  d_Digests_fold : FuncData
  F_Digests_fold : Fun K "fold" "Digests.fold" s_Digests_fold a_Digests_fold d_Digests_fold
  m_Digests_fold : Meth K (Cl 0) "fold" a_Digests_fold
  a_Digests_leaf : Addr
  d_Digests_leaf : FuncData
  F_Digests_leaf : Fun K "leaf" "Digests.leaf" s_Digests_leaf a_Digests_leaf d_Digests_leaf
  m_Digests_leaf : Meth K (Cl 0) "leaf" a_Digests_leaf
  a_pc_behind : Addr
  d_pc_behind : FuncData
  F_pc_behind : Fun K "pc_behind" "pc_behind" s_pc_behind a_pc_behind d_pc_behind
  g_pc_behind : mg "pc_behind" = some (.ref a_pc_behind)
  a_acc_behind : Addr
  d_acc_behind : FuncData
  F_acc_behind : Fun K "acc_behind" "acc_behind" s_acc_behind a_acc_behind d_acc_behind
  g_acc_behind : mg "acc_behind" = some (.ref a_acc_behind)
  a_done_by : Addr
  d_done_by : FuncData
  F_done_by : Fun K "done_by" "done_by" s_done_by a_done_by d_done_by
  g_done_by : mg "done_by" = some (.ref a_done_by)
  a_Memory_change : Addr
  d_Memory_change : FuncData
  F_Memory_change : Fun K "change" "Memory.change" s_Memory_change a_Memory_change d_Memory_change
  m_Memory_change : Meth K (Cl 2) "change" a_Memory_change
  a_Machine_step : Addr
  d_Machine_step : FuncData
  F_Machine_step : Fun K "step" "Machine.step" s_Machine_step a_Machine_step d_Machine_step
  m_Machine_step : Meth K (Cl 3) "step" a_Machine_step
  a_L_bag : Addr
  d_L_bag : FuncData
  F_L_bag : Fun K "_law_bag" "_law_bag" s_L_bag a_L_bag d_L_bag
  g_L_bag : mg "_law_bag" = some (.ref a_L_bag)
  a_L_draw : Addr
  d_L_draw : FuncData
  F_L_draw : Fun K "_law_draw" "_law_draw" s_L_draw a_L_draw d_L_draw
  g_L_draw : mg "_law_draw" = some (.ref a_L_draw)
  a_Book_init : Addr
  d_Book_init : FuncData
  F_Book_init : Fun K "__init__" "Book.__init__" s_Book_init a_Book_init d_Book_init
  M_Book : Mk K (Cl 1) a_Book_init
  a_Digests_init : Addr
  d_Digests_init : FuncData
  F_Digests_init : Fun K "__init__" "Digests.__init__" s_Digests_init a_Digests_init d_Digests_init
  M_Digests : Mk K (Cl 0) a_Digests_init
  a_folded : Addr
  d_folded : FuncData
  F_folded : Fun K "folded" "folded" s_folded a_folded d_folded
  g_folded : mg "folded" = some (.ref a_folded)
  a_Memory_init : Addr
  d_Memory_init : FuncData
  F_Memory_init : Fun K "__init__" "Memory.__init__" s_Memory_init a_Memory_init d_Memory_init
  M_Memory : Mk K (Cl 2) a_Memory_init
  a_Machine_init : Addr
  d_Machine_init : FuncData
  F_Machine_init : Fun K "__init__" "Machine.__init__" s_Machine_init a_Machine_init d_Machine_init
  M_Machine : Mk K (Cl 3) a_Machine_init
  a_L_start : Addr
  d_L_start : FuncData
  F_L_start : Fun K "_law_start" "_law_start" s_L_start a_L_start d_L_start
  g_L_start : mg "_law_start" = some (.ref a_L_start)
  a_L_word : Addr
  d_L_word : FuncData
  F_L_word : Fun K "_law_word" "_law_word" s_L_word a_L_word d_L_word
  g_L_word : mg "_law_word" = some (.ref a_L_word)
  a_L_words : Addr
  d_L_words : FuncData
  F_L_words : Fun K "_law_words" "_law_words" s_L_words a_L_words d_L_words
  g_L_words : mg "_law_words" = some (.ref a_L_words)
  a_opened : Addr
  d_opened : FuncData
  F_opened : Fun K "opened" "opened" s_opened a_opened d_opened
  g_opened : mg "opened" = some (.ref a_opened)
  a_must : Addr
  d_must : FuncData
  F_must : Fun K "must" "must" s_must a_must d_must
  g_must : mg "must" = some (.ref a_must)
  a_is_integer : Addr
  d_is_integer : FuncData
  F_is_integer : Fun K "is_integer" "is_integer" s_is_integer a_is_integer d_is_integer
  g_is_integer : mg "is_integer" = some (.ref a_is_integer)
  a_is_word : Addr
  d_is_word : FuncData
  F_is_word : Fun K "is_word" "is_word" s_is_word a_is_word d_is_word
  g_is_word : mg "is_word" = some (.ref a_is_word)
  a_Digests_is_digest : Addr
  d_Digests_is_digest : FuncData
  F_Digests_is_digest : Fun K "is_digest" "Digests.is_digest" s_Digests_is_digest a_Digests_is_digest d_Digests_is_digest
  m_Digests_is_digest : Meth K (Cl 0) "is_digest" a_Digests_is_digest
  a_are_registers : Addr
  d_are_registers : FuncData
  F_are_registers : Fun K "are_registers" "are_registers" s_are_registers a_are_registers d_are_registers
  g_are_registers : mg "are_registers" = some (.ref a_are_registers)
  a_is_part : Addr
  d_is_part : FuncData
  F_is_part : Fun K "is_part" "is_part" s_is_part a_is_part d_is_part
  g_is_part : mg "is_part" = some (.ref a_is_part)
  a_is_opening : Addr
  d_is_opening : FuncData
  F_is_opening : Fun K "is_opening" "is_opening" s_is_opening a_is_opening d_is_opening
  g_is_opening : mg "is_opening" = some (.ref a_is_opening)
  a_root_by : Addr
  d_root_by : FuncData
  F_root_by : Fun K "root_by" "root_by" s_root_by a_root_by d_root_by
  g_root_by : mg "root_by" = some (.ref a_root_by)
  a_root_with : Addr
  d_root_with : FuncData
  F_root_with : Fun K "root_with" "root_with" s_root_with a_root_with d_root_with
  g_root_with : mg "root_with" = some (.ref a_root_with)
  a_step_of : Addr
  d_step_of : FuncData
  F_step_of : Fun K "step_of" "step_of" s_step_of a_step_of d_step_of
  g_step_of : mg "step_of" = some (.ref a_step_of)
  a_L_taken : Addr
  d_L_taken : FuncData
  F_L_taken : Fun K "_law_taken" "_law_taken" s_L_taken a_L_taken d_L_taken
  g_L_taken : mg "_law_taken" = some (.ref a_L_taken)
  a_Book_has_collision : Addr
  d_Book_has_collision : FuncData
  F_Book_has_collision : Fun K "has_collision" "Book.has_collision" s_Book_has_collision a_Book_has_collision d_Book_has_collision
  m_Book_has_collision : Meth K (Cl 1) "has_collision" a_Book_has_collision
  a_law : Addr
  d_law : FuncData
  F_law : Fun K "law" "law" s_law a_law d_law
  g_law : mg "law" = some (.ref a_law)
  k_Book : Cls K (Cl 1)
  g_Book : mg "Book" = some (.ref (Cl 1))
  n_Book__texts : NoAttr K (Cl 1) "_texts"
  n_Book__collision : NoAttr K (Cl 1) "_collision"
  k_Digests : Cls K (Cl 0)
  g_Digests : mg "Digests" = some (.ref (Cl 0))
  n_Digests__modulus : NoAttr K (Cl 0) "_modulus"
  n_Digests__book : NoAttr K (Cl 0) "_book"
  n_Digests__bits : NoAttr K (Cl 0) "_bits"
  k_Memory : Cls K (Cl 2)
  g_Memory : mg "Memory" = some (.ref (Cl 2))
  n_Memory__words : NoAttr K (Cl 2) "_words"
  n_Memory__rows : NoAttr K (Cl 2) "_rows"
  n_Memory__digests : NoAttr K (Cl 2) "_digests"
  k_Machine : Cls K (Cl 3)
  g_Machine : mg "Machine" = some (.ref (Cl 3))
  n_Machine__told : NoAttr K (Cl 3) "_told"
  n_Machine__memory : NoAttr K (Cl 3) "_memory"
  n_Machine__registers : NoAttr K (Cl 3) "_registers"
  n_Machine__digests : NoAttr K (Cl 3) "_digests"
  g_CourtError : mg "CourtError" = some (.ref (Cl 24))
  g_BadOpening : mg "BadOpening" = some (.ref (Cl 29))
  x_BadOpening : XCls K mg "BadOpening" (Cl 29)
  e_BadOpening_BadOpening : PySem.W.exmOne K (.ref (Cl 29)) (.ref (Cl 29)) = some true
  c_FIRST_STATE : GC K mg "FIRST_STATE" w_FIRST_STATE
  c_ARGUMENTS : GC K mg "ARGUMENTS" w_ARGUMENTS
  c_NAMES : GC K mg "NAMES" w_NAMES
  c_PLACES_machine : GC K mg "PLACES_machine" w_PLACES
  c_CHANGERS : GC K mg "CHANGERS" w_CHANGERS
  c_READERS : GC K mg "READERS" w_READERS
  c_SIGNS : GC K mg "SIGNS" w_SIGNS
  c_MOST_WORD : GC K mg "MOST_WORD" w_MOST_WORD
  c_MOST_TOLD : GC K mg "MOST_TOLD" w_MOST_TOLD
  c_PLACES_trees : GC K mg "PLACES_trees" w_PLACES
  c_MARKS : GC K mg "MARKS" w_MARKS
  c_DEPTH : GC K mg "DEPTH" w_DEPTH
  x_MARKS : GTp K mg "MARKS" z_MARKS
  b_all : mg "all" = none
  b_bool : mg "bool" = none
  b_int : mg "int" = none
  b_isinstance : mg "isinstance" = none
  b_len : mg "len" = none
  b_list : mg "list" = none
  b_range : mg "range" = none
  b_tuple : mg "tuple" = none
section
variable {P : Program} {w : World} {K : PySem.W.Frag} {Cl : Nat → Addr} {mg : Str → Option Value} {base : Heap}
theorem sc_Machine_told : FnScope ["self"] ["self"] (defScope s_Machine_told) := ⟨rfl, rfl, rfl, by decide +kernel, rfl, by decide +kernel, by decide +kernel⟩
theorem bi_Machine_told (T : Tx K mg Cl) : Binds K T.d_Machine_told ["self"] [] := T.F_Machine_told.binds fun _ _ _ _ _ _ us hl => match us, hl with | [_], _ => rfl
theorem ok_Machine_told (T : Tx K mg Cl) : FnOk P w K mg base CX0 1 T.a_Machine_told T.d_Machine_told ["self"] (spM K Cl 1 m_Machine_told) := by
  refine fn_ok T.F_Machine_told sc_Machine_told rfl rfl fun cdv A outer s H E hr => ?_
  have hN := (sc_Machine_told).nd
  exact (jss_one (js_ret (je_fld T.k_Machine T.n_Machine__told (je_var 0))))
theorem sc_Memory_words : FnScope ["self"] ["self"] (defScope s_Memory_words) := ⟨rfl, rfl, rfl, by decide +kernel, rfl, by decide +kernel, by decide +kernel⟩
theorem bi_Memory_words (T : Tx K mg Cl) : Binds K T.d_Memory_words ["self"] [] := T.F_Memory_words.binds fun _ _ _ _ _ _ us hl => match us, hl with | [_], _ => rfl
theorem ok_Memory_words (T : Tx K mg Cl) : FnOk P w K mg base CX0 1 T.a_Memory_words T.d_Memory_words ["self"] (spM K Cl 1 m_Memory_words) := by
  refine fn_ok T.F_Memory_words sc_Memory_words rfl rfl fun cdv A outer s H E hr => ?_
  have hN := (sc_Memory_words).nd
  exact (jss_one (js_ret (je_callTy c_tuple T.b_tuple PyProof.Rows.boot_tuple (ja_cons (je_fld T.k_Memory T.n_Memory__words (je_var 0)) ja_nil))))
theorem sc_Machine_words : FnScope ["self"] ["self"] (defScope s_Machine_words) := ⟨rfl, rfl, rfl, by decide +kernel, rfl, by decide +kernel, by decide +kernel⟩
theorem bi_Machine_words (T : Tx K mg Cl) : Binds K T.d_Machine_words ["self"] [] := T.F_Machine_words.binds fun _ _ _ _ _ _ us hl => match us, hl with | [_], _ => rfl
theorem ok_Machine_words (T : Tx K mg Cl) : FnOk P w K mg base CX0 2 T.a_Machine_words T.d_Machine_words ["self"] (spM K Cl 1 m_Machine_words) := by
  refine fn_ok T.F_Machine_words sc_Machine_words rfl rfl fun cdv A outer s H E hr => ?_
  have hN := (sc_Machine_words).nd
  exact (jss_one (js_ret (je_meth0 T.k_Memory T.m_Memory_words (ok_Memory_words T) (hr.mono (by decide)) (bi_Memory_words T) (let0 nox_def) (je_fld T.k_Machine T.n_Machine__memory (je_var 0)))))
theorem sc_Memory_word : FnScope ["self", "place"] ["self", "place"] (defScope s_Memory_word) := ⟨rfl, rfl, rfl, by decide +kernel, rfl, by decide +kernel, by decide +kernel⟩
theorem bi_Memory_word (T : Tx K mg Cl) : Binds K T.d_Memory_word ["self", "place"] [] := T.F_Memory_word.binds fun _ _ _ _ _ _ us hl => match us, hl with | [_, _], _ => rfl
theorem ok_Memory_word (T : Tx K mg Cl) : FnOk P w K mg base CX0 1 T.a_Memory_word T.d_Memory_word ["self", "place"] (spM K Cl 2 m_Memory_word) := by
  refine fn_ok T.F_Memory_word sc_Memory_word rfl rfl fun cdv A outer s H E hr => ?_
  have hN := (sc_Memory_word).nd
  exact (jss_one (js_ret (je_ix (je_fld T.k_Memory T.n_Memory__words (je_var 0)) (je_var 1))))
theorem sc_Machine_word : FnScope ["self", "place"] ["self", "place"] (defScope s_Machine_word) := ⟨rfl, rfl, rfl, by decide +kernel, rfl, by decide +kernel, by decide +kernel⟩
theorem bi_Machine_word (T : Tx K mg Cl) : Binds K T.d_Machine_word ["self", "place"] [] := T.F_Machine_word.binds fun _ _ _ _ _ _ us hl => match us, hl with | [_, _], _ => rfl
theorem ok_Machine_word (T : Tx K mg Cl) : FnOk P w K mg base CX0 2 T.a_Machine_word T.d_Machine_word ["self", "place"] (spM K Cl 2 m_Machine_word) := by
  refine fn_ok T.F_Machine_word sc_Machine_word rfl rfl fun cdv A outer s H E hr => ?_
  have hN := (sc_Machine_word).nd
  exact (jss_one (js_ret (je_meth T.k_Memory T.m_Memory_word (ok_Memory_word T) (hr.mono (by decide)) (bi_Memory_word T) (let0 nox_def) (je_fld T.k_Machine T.n_Machine__memory (je_var 0)) (ja_cons (je_var 1) ja_nil))))
theorem sc_Machine_registers : FnScope ["self"] ["self"] (defScope s_Machine_registers) := ⟨rfl, rfl, rfl, by decide +kernel, rfl, by decide +kernel, by decide +kernel⟩
theorem bi_Machine_registers (T : Tx K mg Cl) : Binds K T.d_Machine_registers ["self"] [] := T.F_Machine_registers.binds fun _ _ _ _ _ _ us hl => match us, hl with | [_], _ => rfl
theorem ok_Machine_registers (T : Tx K mg Cl) : FnOk P w K mg base CX0 1 T.a_Machine_registers T.d_Machine_registers ["self"] (spM K Cl 1 m_Machine_registers) := by
  refine fn_ok T.F_Machine_registers sc_Machine_registers rfl rfl fun cdv A outer s H E hr => ?_
  have hN := (sc_Machine_registers).nd
  exact (jss_one (js_ret (je_fld T.k_Machine T.n_Machine__registers (je_var 0))))
theorem sc_Memory_root : FnScope ["self"] ["self"] (defScope s_Memory_root) := ⟨rfl, rfl, rfl, by decide +kernel, rfl, by decide +kernel, by decide +kernel⟩
theorem bi_Memory_root (T : Tx K mg Cl) : Binds K T.d_Memory_root ["self"] [] := T.F_Memory_root.binds fun _ _ _ _ _ _ us hl => match us, hl with | [_], _ => rfl
theorem ok_Memory_root (T : Tx K mg Cl) : FnOk P w K mg base CX0 1 T.a_Memory_root T.d_Memory_root ["self"] (spM K Cl 1 m_Memory_root) := by
  refine fn_ok T.F_Memory_root sc_Memory_root rfl rfl fun cdv A outer s H E hr => ?_
  have hN := (sc_Memory_root).nd
  exact (jss_one (js_ret (je_ix (je_ix (je_fld T.k_Memory T.n_Memory__rows (je_var 0)) (je_un u_neg je_int)) je_int)))
theorem sc_Machine_root : FnScope ["self"] ["self"] (defScope s_Machine_root) := ⟨rfl, rfl, rfl, by decide +kernel, rfl, by decide +kernel, by decide +kernel⟩
theorem bi_Machine_root (T : Tx K mg Cl) : Binds K T.d_Machine_root ["self"] [] := T.F_Machine_root.binds fun _ _ _ _ _ _ us hl => match us, hl with | [_], _ => rfl
theorem ok_Machine_root (T : Tx K mg Cl) : FnOk P w K mg base CX0 2 T.a_Machine_root T.d_Machine_root ["self"] (spM K Cl 1 m_Machine_root) := by
  refine fn_ok T.F_Machine_root sc_Machine_root rfl rfl fun cdv A outer s H E hr => ?_
  have hN := (sc_Machine_root).nd
  exact (jss_one (js_ret (je_meth0 T.k_Memory T.m_Memory_root (ok_Memory_root T) (hr.mono (by decide)) (bi_Memory_root T) (let0 nox_def) (je_fld T.k_Machine T.n_Machine__memory (je_var 0)))))
theorem sc_Book_add : FnScope ["self", "kind", "text", "digest", "texts"] ["self", "kind", "text", "digest"] (defScope s_Book_add) := ⟨rfl, rfl, rfl, by decide +kernel, rfl, by decide +kernel, by decide +kernel⟩
theorem bi_Book_add (T : Tx K mg Cl) : Binds K T.d_Book_add ["self", "kind", "text", "digest"] [] := T.F_Book_add.binds fun _ _ _ _ _ _ us hl => match us, hl with | [_, _, _, _], _ => rfl
theorem ok_Book_add (T : Tx K mg Cl) : FnOk P w K mg base CX0 1 T.a_Book_add T.d_Book_add ["self", "kind", "text", "digest"] (spM K Cl 4 m_Book_add) := by
  refine fn_ok T.F_Book_add sc_Book_add rfl rfl fun cdv A outer s H E hr => ?_
  have hN := (sc_Book_add).nd
  exact (jss_cons (js_set 4 hN (je_setdef (room1 hr) (je_fld T.k_Book T.n_Book__texts (je_var 0)) (ja_cons (je_var 1) (ja_cons (je_var 3) ja_nil))))
    (jss_one (js_if (jt_cmp (o_notIn (room65 hr)) (je_var 2) (je_var 4) rfl) (jss_cons (js_expr (je_lm PySem.F.slot_list_append PySem.F.type_list_append m_app (je_var 4) (ja_cons (je_var 2) ja_nil)))
    (jss_one (js_fld T.k_Book T.n_Book__collision (je_var 0) (je_or (je_fld T.k_Book T.n_Book__collision (je_var 0)) (je_one (je_cmp o_gt (je_callB c_len T.b_len PySem.boot_len (ja_cons (je_var 4) ja_nil)) je_int (nomark _))))))) jss_nil)))
theorem sc_Digests_kept : FnScope ["self", "kind", "text", "number", "digest"] ["self", "kind", "text", "number"] (defScope s_Digests_kept) := ⟨rfl, rfl, rfl, by decide +kernel, rfl, by decide +kernel, by decide +kernel⟩
theorem bi_Digests_kept (T : Tx K mg Cl) : Binds K T.d_Digests_kept ["self", "kind", "text", "number"] [] := T.F_Digests_kept.binds fun _ _ _ _ _ _ us hl => match us, hl with | [_, _, _, _], _ => rfl
theorem ok_Digests_kept (T : Tx K mg Cl) : FnOk P w K mg base CX0 2 T.a_Digests_kept T.d_Digests_kept ["self", "kind", "text", "number"] (spM K Cl 4 m_Digests_kept) := by
  refine fn_ok T.F_Digests_kept sc_Digests_kept rfl rfl fun cdv A outer s H E hr => ?_
  have hN := (sc_Digests_kept).nd
  exact (jss_cons (js_set 4 hN (je_op o_mod (je_var 3) (je_fld T.k_Digests T.n_Digests__modulus (je_var 0))))
    (jss_cons (js_if (jt_cmp o_notN (je_fld T.k_Digests T.n_Digests__book (je_var 0)) je_non (nomark _)) (jss_one (js_expr (je_meth T.k_Book T.m_Book_add (ok_Book_add T) (hr.mono (by decide)) (bi_Book_add T) (let0 nox_def) (je_fld T.k_Digests T.n_Digests__book (je_var 0)) (ja_cons (je_var 1) (ja_cons (je_var 2) (ja_cons (je_var 4) ja_nil)))))) jss_nil)
    (jss_one (js_ret (je_var 4)))))
theorem sc_Digests_state : FnScope ["self", "numbers", "found", "number"] ["self", "numbers"] (defScope s_Digests_state) := ⟨rfl, rfl, rfl, by decide +kernel, rfl, by decide +kernel, by decide +kernel⟩
theorem bi_Digests_state (T : Tx K mg Cl) : Binds K T.d_Digests_state ["self", "numbers"] [] := T.F_Digests_state.binds fun _ _ _ _ _ _ us hl => match us, hl with | [_, _], _ => rfl
theorem ok_Digests_state (T : Tx K mg Cl) : FnOk P w K mg base CX0 3 T.a_Digests_state T.d_Digests_state ["self", "numbers"] (spM K Cl 2 m_Digests_state) := by
  refine fn_ok T.F_Digests_state sc_Digests_state rfl rfl fun cdv A outer s H E hr => ?_
  have hN := (sc_Digests_state).nd
  exact (jss_cons (js_set 2 hN (je_glob T.c_FIRST_STATE))
    (jss_cons (js_for PassesOwn.never rfl (ji_tup (je_var 1)) (jg_name 3 hN) (jss_one (js_set 2 hN (je_op o_mod (je_op o_add (je_op o_add (je_op o_mul (je_op o_add (je_var 2) (je_var 3)) (je_op o_add (je_var 2) je_int)) (je_op o_mul je_int (je_var 3))) je_int) (je_fld T.k_Digests T.n_Digests__modulus (je_var 0))))))
    (jss_one (js_ret (je_meth T.k_Digests T.m_Digests_kept (ok_Digests_kept T) (hr.mono (by decide)) (bi_Digests_kept T) (let0 nox_def) (je_var 0) (ja_cons je_str (ja_cons (je_var 1) (ja_cons (je_var 2) ja_nil))))))))
theorem sc_Machine_digest : FnScope ["self"] ["self"] (defScope s_Machine_digest) := ⟨rfl, rfl, rfl, by decide +kernel, rfl, by decide +kernel, by decide +kernel⟩
theorem bi_Machine_digest (T : Tx K mg Cl) : Binds K T.d_Machine_digest ["self"] [] := T.F_Machine_digest.binds fun _ _ _ _ _ _ us hl => match us, hl with | [_], _ => rfl
theorem ok_Machine_digest (T : Tx K mg Cl) : FnOk P w K mg base CX0 4 T.a_Machine_digest T.d_Machine_digest ["self"] (spM K Cl 1 m_Machine_digest) := by
  refine fn_ok T.F_Machine_digest sc_Machine_digest rfl rfl fun cdv A outer s H E hr => ?_
  have hN := (sc_Machine_digest).nd
  exact (jss_one (js_ret (je_meth T.k_Digests T.m_Digests_state (ok_Digests_state T) (hr.mono (by decide)) (bi_Digests_state T) (let0 nox_def) (je_fld T.k_Machine T.n_Machine__digests (je_var 0)) (ja_cons (je_op o_add (je_fld T.k_Machine T.n_Machine__registers (je_var 0)) (je_tup (ja_cons (je_meth0 T.k_Machine T.m_Machine_root (ok_Machine_root T) (hr.mono (by decide)) (bi_Machine_root T) (let0 nox_def) (je_var 0)) ja_nil))) ja_nil))))
theorem sc_Memory_path : FnScope ["self", "place", "path", "row"] ["self", "place"] (defScope s_Memory_path) := ⟨rfl, rfl, rfl, by decide +kernel, rfl, by decide +kernel, by decide +kernel⟩
theorem bi_Memory_path (T : Tx K mg Cl) : Binds K T.d_Memory_path ["self", "place"] [] := T.F_Memory_path.binds fun _ _ _ _ _ _ us hl => match us, hl with | [_, _], _ => rfl
theorem ok_Memory_path (T : Tx K mg Cl) : FnOk P w K mg base CX0 1 T.a_Memory_path T.d_Memory_path ["self", "place"] (spM K Cl 2 m_Memory_path) := by
  refine fn_ok T.F_Memory_path sc_Memory_path rfl rfl fun cdv A outer s H E hr => ?_
  have hN := (sc_Memory_path).nd
  exact (jss_cons (js_set 2 hN (je_lstS ja_nil))
    (jss_cons (js_for PassesOwn.never rfl (ji_lst (je_sl (je_fld T.k_Memory T.n_Memory__rows (je_var 0)) jo_none (jo_some (je_un u_neg je_int)))) (jg_name 3 hN) (jss_cons (js_expr (je_lm PySem.F.slot_list_append PySem.F.type_list_append m_app (je_var 2) (ja_cons (je_ix (je_var 3) (je_op o_xor (je_var 1) je_int)) ja_nil)))
    (jss_one (js_set 1 hN (je_op o_fdiv (je_var 1) je_int)))))
    (jss_one (js_ret (je_callTy c_tuple T.b_tuple PyProof.Rows.boot_tuple (ja_cons (je_var 2) ja_nil))))))
theorem sc_Machine_path : FnScope ["self", "place"] ["self", "place"] (defScope s_Machine_path) := ⟨rfl, rfl, rfl, by decide +kernel, rfl, by decide +kernel, by decide +kernel⟩
theorem bi_Machine_path (T : Tx K mg Cl) : Binds K T.d_Machine_path ["self", "place"] [] := T.F_Machine_path.binds fun _ _ _ _ _ _ us hl => match us, hl with | [_, _], _ => rfl
theorem ok_Machine_path (T : Tx K mg Cl) : FnOk P w K mg base CX0 2 T.a_Machine_path T.d_Machine_path ["self", "place"] (spM K Cl 2 m_Machine_path) := by
  refine fn_ok T.F_Machine_path sc_Machine_path rfl rfl fun cdv A outer s H E hr => ?_
  have hN := (sc_Machine_path).nd
  exact (jss_one (js_ret (je_meth T.k_Memory T.m_Memory_path (ok_Memory_path T) (hr.mono (by decide)) (bi_Memory_path T) (let0 nox_def) (je_fld T.k_Machine T.n_Machine__memory (je_var 0)) (ja_cons (je_var 1) ja_nil))))
theorem sc_name_of : FnScope ["word", "number"] ["word"] (defScope s_name_of) := ⟨rfl, rfl, rfl, by decide +kernel, rfl, by decide +kernel, by decide +kernel⟩
theorem bi_name_of (T : Tx K mg Cl) : Binds K T.d_name_of ["word"] [] := T.F_name_of.binds fun _ _ _ _ _ _ us hl => match us, hl with | [_], _ => rfl
theorem ok_name_of (T : Tx K mg Cl) : FnOk P w K mg base CX0 1 T.a_name_of T.d_name_of ["word"] (spM K Cl 1 m_name_of) := by
  refine fn_ok T.F_name_of sc_name_of rfl rfl fun cdv A outer s H E hr => ?_
  have hN := (sc_name_of).nd
  exact (jss_cons (js_set 1 hN (je_op o_fdiv (je_var 0) (je_glob T.c_ARGUMENTS)))
    (jss_cons (js_if (jt_cmp o_lt (je_var 1) (je_callB c_len T.b_len PySem.boot_len (ja_cons (je_glob T.c_NAMES) ja_nil)) (nomark _)) (jss_one (js_ret (je_ix (je_glob T.c_NAMES) (je_var 1)))) jss_nil)
    (jss_one (js_ret je_str))))
theorem sc_data_of : FnScope ["registers", "word", "name", "place"] ["registers", "word"] (defScope s_data_of) := ⟨rfl, rfl, rfl, by decide +kernel, rfl, by decide +kernel, by decide +kernel⟩
theorem bi_data_of (T : Tx K mg Cl) : Binds K T.d_data_of ["registers", "word"] [] := T.F_data_of.binds fun _ _ _ _ _ _ us hl => match us, hl with | [_, _], _ => rfl
theorem ok_data_of (T : Tx K mg Cl) : FnOk P w K mg base CX0 2 T.a_data_of T.d_data_of ["registers", "word"] (spM K Cl 2 m_data_of) := by
  refine fn_ok T.F_data_of sc_data_of rfl rfl fun cdv A outer s H E hr => ?_
  have hN := (sc_data_of).nd
  exact (jss_cons (js_set 2 hN (je_call (ok_name_of T) (hr.mono (by decide)) T.g_name_of T.F_name_of.kp (bi_name_of T) (let0 nox_def) (ja_cons (je_var 1) ja_nil)))
    (jss_cons (js_set 3 hN (je_op o_mod (je_var 1) (je_glob T.c_PLACES_machine)))
    (jss_cons (js_if (jt_cmp (o_in (room65 hr)) (je_var 2) (je_tup (ja_cons je_str (ja_cons je_str ja_nil))) rfl) (jss_one (js_set 3 hN (je_op o_mod (je_op o_add (je_var 3) (je_ix (je_var 0) je_int)) (je_glob T.c_PLACES_machine)))) jss_nil)
    (jss_cons (js_if (jt_cmp (o_in (room65 hr)) (je_var 2) (je_glob T.c_CHANGERS) rfl) (jss_one (js_ret (je_tup (ja_cons (je_var 3) (ja_cons je_bl ja_nil))))) jss_nil)
    (jss_cons (js_if (jt_w (jw_or (jt_cmp (o_in (room65 hr)) (je_var 2) (je_glob T.c_READERS) rfl) (jw_or1 (jt_cmp (o_in (room65 hr)) (je_var 2) (je_glob T.c_SIGNS) rfl)))) (jss_one (js_ret (je_tup (ja_cons (je_var 3) (ja_cons je_bl ja_nil))))) jss_nil)
    (jss_one (js_ret je_non)))))))
theorem sc_wrapped : FnScope ["number"] ["number"] (defScope s_wrapped) := ⟨rfl, rfl, rfl, by decide +kernel, rfl, by decide +kernel, by decide +kernel⟩
theorem bi_wrapped (T : Tx K mg Cl) : Binds K T.d_wrapped ["number"] [] := T.F_wrapped.binds fun _ _ _ _ _ _ us hl => match us, hl with | [_], _ => rfl
theorem ok_wrapped (T : Tx K mg Cl) : FnOk P w K mg base CX0 1 T.a_wrapped T.d_wrapped ["number"] (spM K Cl 1 m_wrapped) := by
  refine fn_ok T.F_wrapped sc_wrapped rfl rfl fun cdv A outer s H E hr => ?_
  have hN := (sc_wrapped).nd
  exact (jss_one (js_ret (je_op o_mod (je_var 0) (je_op o_add (je_glob T.c_MOST_WORD) je_int))))
theorem sc_compared : FnScope ["sign", "a", "b"] ["sign", "a", "b"] (defScope s_compared) := ⟨rfl, rfl, rfl, by decide +kernel, rfl, by decide +kernel, by decide +kernel⟩
theorem bi_compared (T : Tx K mg Cl) : Binds K T.d_compared ["sign", "a", "b"] [] := T.F_compared.binds fun _ _ _ _ _ _ us hl => match us, hl with | [_, _, _], _ => rfl
theorem ok_compared (T : Tx K mg Cl) : FnOk P w K mg base CX0 1 T.a_compared T.d_compared ["sign", "a", "b"] (spM K Cl 3 m_compared) := by
  refine fn_ok T.F_compared sc_compared rfl rfl fun cdv A outer s H E hr => ?_
  have hN := (sc_compared).nd
  exact (jss_cons (js_if (jt_cmp (o_in (room65 hr)) (je_var 0) (je_tup (ja_cons je_str (ja_cons je_str ja_nil))) rfl) (jss_one (js_ret (je_callTy c_int T.b_int PyProof.Rows.boot_int (ja_cons (je_or (je_cmp o_lt (je_var 1) (je_var 2) (nomark _)) (je_one (je_and (je_cmp (o_eq (room65 hr)) (je_var 0) je_str (nomark _)) (je_one (je_cmp (o_eq (room65 hr)) (je_var 1) (je_var 2) (nomark _)))))) ja_nil)))) jss_nil)
    (jss_cons (js_if (jt_cmp (o_in (room65 hr)) (je_var 0) (je_tup (ja_cons je_str (ja_cons je_str ja_nil))) rfl) (jss_one (js_ret (je_callTy c_int T.b_int PyProof.Rows.boot_int (ja_cons (je_or (je_cmp o_gt (je_var 1) (je_var 2) (nomark _)) (je_one (je_and (je_cmp (o_eq (room65 hr)) (je_var 0) je_str (nomark _)) (je_one (je_cmp (o_eq (room65 hr)) (je_var 1) (je_var 2) (nomark _)))))) ja_nil)))) jss_nil)
    (jss_one (js_ret (je_callTy c_int T.b_int PyProof.Rows.boot_int (ja_cons (je_cmp (o_eq (room65 hr)) (je_cmp (o_eq (room65 hr)) (je_var 1) (je_var 2) (nomark _)) (je_cmp (o_eq (room65 hr)) (je_var 0) je_str (nomark _)) (nomark _)) ja_nil))))))
theorem sc_op : FnScope ["sign", "a", "b"] ["sign", "a", "b"] (defScope s_op) := ⟨rfl, rfl, rfl, by decide +kernel, rfl, by decide +kernel, by decide +kernel⟩
theorem bi_op (T : Tx K mg Cl) : Binds K T.d_op ["sign", "a", "b"] [] := T.F_op.binds fun _ _ _ _ _ _ us hl => match us, hl with | [_, _, _], _ => rfl
theorem ok_op (T : Tx K mg Cl) : FnOk P w K mg base CX0 2 T.a_op T.d_op ["sign", "a", "b"] (spM K Cl 3 m_op) := by
  refine fn_ok T.F_op sc_op rfl rfl fun cdv A outer s H E hr => ?_
  have hN := (sc_op).nd
  exact (jss_cons (js_if (jt_cmp (o_eq (room65 hr)) (je_var 0) je_str (nomark _)) (jss_one (js_ret (je_call (ok_wrapped T) (hr.mono (by decide)) T.g_wrapped T.F_wrapped.kp (bi_wrapped T) (let0 nox_def) (ja_cons (je_op o_add (je_var 1) (je_var 2)) ja_nil)))) jss_nil)
    (jss_cons (js_if (jt_cmp (o_eq (room65 hr)) (je_var 0) je_str (nomark _)) (jss_one (js_ret (je_call (ok_wrapped T) (hr.mono (by decide)) T.g_wrapped T.F_wrapped.kp (bi_wrapped T) (let0 nox_def) (ja_cons (je_op o_sub (je_var 1) (je_var 2)) ja_nil)))) jss_nil)
    (jss_cons (js_if (jt_cmp (o_eq (room65 hr)) (je_var 0) je_str (nomark _)) (jss_one (js_ret (je_call (ok_wrapped T) (hr.mono (by decide)) T.g_wrapped T.F_wrapped.kp (bi_wrapped T) (let0 nox_def) (ja_cons (je_op o_mul (je_var 1) (je_var 2)) ja_nil)))) jss_nil)
    (jss_cons (js_if (jt_cmp (o_notIn (room65 hr)) (je_var 0) (je_tup (ja_cons je_str (ja_cons je_str ja_nil))) rfl) (jss_one (js_ret (je_call (ok_compared T) (hr.mono (by decide)) T.g_compared T.F_compared.kp (bi_compared T) (let0 nox_def) (ja_cons (je_var 0) (ja_cons (je_var 1) (ja_cons (je_var 2) ja_nil)))))) jss_nil)
    (jss_cons (js_if (jt_cmp (o_eq (room65 hr)) (je_var 2) je_int (nomark _)) (jss_one (js_ret je_non)) jss_nil)
    (jss_cons (js_if (jt_cmp (o_eq (room65 hr)) (je_var 0) je_str (nomark _)) (jss_one (js_ret (je_op o_fdiv (je_var 1) (je_var 2)))) jss_nil)
    (jss_one (js_ret (je_op o_mod (je_var 1) (je_var 2))))))))))
theorem sc_mark_of : FnScope ["registers", "word", "data", "_", "acc", "x", "count", "name"] ["registers", "word", "data"] (defScope s_mark_of) := ⟨rfl, rfl, rfl, by decide +kernel, rfl, by decide +kernel, by decide +kernel⟩
theorem bi_mark_of (T : Tx K mg Cl) : Binds K T.d_mark_of ["registers", "word", "data"] [] := T.F_mark_of.binds fun _ _ _ _ _ _ us hl => match us, hl with | [_, _, _], _ => rfl
theorem ok_mark_of (T : Tx K mg Cl) : FnOk P w K mg base CX0 3 T.a_mark_of T.d_mark_of ["registers", "word", "data"] (spM K Cl 3 m_mark_of) := by
  refine fn_ok T.F_mark_of sc_mark_of rfl rfl fun cdv A outer s H E hr => ?_
  have hN := (sc_mark_of).nd
  exact (jss_cons (js_asg (je_var 0) (jg_tup rfl (jgs_cons (jg_name 3 hN) (jgs_cons (jg_name 4 hN) (jgs_cons (jg_name 5 hN) (jgs_cons (jg_name 3 hN) (jgs_cons (jg_name 3 hN) (jgs_cons (jg_name 6 hN) jgs_nil))))))))
    (jss_cons (js_set 7 hN (je_call (ok_name_of T) (hr.mono (by decide)) T.g_name_of T.F_name_of.kp (bi_name_of T) (let0 nox_def) (ja_cons (je_var 1) ja_nil)))
    (jss_cons (js_if (jt_cmp (o_eq (room65 hr)) (je_var 7) je_str (nomark _)) (jss_one (js_ret je_str)) jss_nil)
    (jss_cons (js_if (jt_cmp (o_eq (room65 hr)) (je_var 7) je_str (nomark _)) (jss_one (js_ret je_str)) jss_nil)
    (jss_cons (js_if (jt_w (jw_and (jt_cmp (o_eq (room65 hr)) (je_var 7) je_str (nomark _)) (jw_and1 (jt_cmp o_ge (je_var 5) (je_op o_mod (je_var 1) (je_glob T.c_ARGUMENTS)) (nomark _))))) (jss_one (js_ret je_str)) jss_nil)
    (jss_cons (js_if (jt_w (jw_and (jt_cmp (o_eq (room65 hr)) (je_var 7) je_str (nomark _)) (jw_and1 (jt_cmp o_ge (je_var 5) (je_var 2) (nomark _))))) (jss_one (js_ret je_str)) jss_nil)
    (jss_cons (js_if (jt_w (jw_and (jt_cmp (o_in (room65 hr)) (je_var 7) (je_glob T.c_SIGNS) rfl) (jw_and1 (jt_cmp o_isN (je_call (ok_op T) (hr.mono (by decide)) T.g_op T.F_op.kp (bi_op T) (let0 nox_def) (ja_cons (je_var 7) (ja_cons (je_var 4) (ja_cons (je_var 2) ja_nil)))) je_non (nomark _))))) (jss_one (js_ret je_str)) jss_nil)
    (jss_cons (js_if (jt_w (jw_and (jt_cmp (o_eq (room65 hr)) (je_var 7) je_str (nomark _)) (jw_and1 (jt_cmp (o_eq (room65 hr)) (je_var 6) (je_glob T.c_MOST_TOLD) (nomark _))))) (jss_one (js_ret je_str)) jss_nil)
    (jss_one (js_ret je_non))))))))))
theorem sc_halted : FnScope ["registers", "mark", "pc", "acc", "x", "_", "out", "count"] ["registers", "mark"] (defScope s_halted) := ⟨rfl, rfl, rfl, by decide +kernel, rfl, by decide +kernel, by decide +kernel⟩
theorem bi_halted (T : Tx K mg Cl) : Binds K T.d_halted ["registers", "mark"] [] := T.F_halted.binds fun _ _ _ _ _ _ us hl => match us, hl with | [_, _], _ => rfl
theorem ok_halted (T : Tx K mg Cl) : FnOk P w K mg base CX0 1 T.a_halted T.d_halted ["registers", "mark"] (spM K Cl 2 m_halted) := by
  refine fn_ok T.F_halted sc_halted rfl rfl fun cdv A outer s H E hr => ?_
  have hN := (sc_halted).nd
  exact (jss_cons (js_asg (je_var 0) (jg_tup rfl (jgs_cons (jg_name 2 hN) (jgs_cons (jg_name 3 hN) (jgs_cons (jg_name 4 hN) (jgs_cons (jg_name 5 hN) (jgs_cons (jg_name 6 hN) (jgs_cons (jg_name 7 hN) jgs_nil))))))))
    (jss_one (js_ret (je_tup (ja_cons (je_var 2) (ja_cons (je_var 3) (ja_cons (je_var 4) (ja_cons (je_tix T.x_MARKS (je_var 1)) (ja_cons (je_var 6) (ja_cons (je_var 7) ja_nil))))))))))
theorem sc_Digests_fold : FnScope ["self", "left", "right", "mixed"] ["self", "left", "right"] (defScope s_Digests_fold) := ⟨rfl, rfl, rfl, by decide +kernel, rfl, by decide +kernel, by decide +kernel⟩
theorem bi_Digests_fold (T : Tx K mg Cl) : Binds K T.d_Digests_fold ["self", "left", "right"] [] := T.F_Digests_fold.binds fun _ _ _ _ _ _ us hl => match us, hl with | [_, _, _], _ => rfl
theorem ok_Digests_fold (T : Tx K mg Cl) : FnOk P w K mg base CX0 3 T.a_Digests_fold T.d_Digests_fold ["self", "left", "right"] (spM K Cl 3 m_Digests_fold) := by
  refine fn_ok T.F_Digests_fold sc_Digests_fold rfl rfl fun cdv A outer s H E hr => ?_
  have hN := (sc_Digests_fold).nd
  exact (jss_cons (js_set 3 hN (je_op o_add (je_op o_add (je_op o_mul je_int (je_var 1)) (je_op o_mul je_int (je_var 2))) je_int))
    (jss_one (js_ret (je_meth T.k_Digests T.m_Digests_kept (ok_Digests_kept T) (hr.mono (by decide)) (bi_Digests_kept T) (let0 nox_def) (je_var 0) (ja_cons je_str (ja_cons (je_tup (ja_cons (je_var 1) (ja_cons (je_var 2) ja_nil))) (ja_cons (je_op o_add (je_op o_add (je_op o_add (je_op o_add (je_op o_mul (je_var 2) (je_var 2)) (je_op o_mul je_int (je_var 1))) (je_op o_mul je_int (je_var 2))) je_int) (je_op o_mul (je_var 3) (je_var 3))) ja_nil)))))))
theorem sc_Digests_leaf : FnScope ["self", "word"] ["self", "word"] (defScope s_Digests_leaf) := ⟨rfl, rfl, rfl, by decide +kernel, rfl, by decide +kernel, by decide +kernel⟩
theorem bi_Digests_leaf (T : Tx K mg Cl) : Binds K T.d_Digests_leaf ["self", "word"] [] := T.F_Digests_leaf.binds fun _ _ _ _ _ _ us hl => match us, hl with | [_, _], _ => rfl
theorem ok_Digests_leaf (T : Tx K mg Cl) : FnOk P w K mg base CX0 3 T.a_Digests_leaf T.d_Digests_leaf ["self", "word"] (spM K Cl 2 m_Digests_leaf) := by
  refine fn_ok T.F_Digests_leaf sc_Digests_leaf rfl rfl fun cdv A outer s H E hr => ?_
  have hN := (sc_Digests_leaf).nd
  exact (jss_one (js_ret (je_meth T.k_Digests T.m_Digests_kept (ok_Digests_kept T) (hr.mono (by decide)) (bi_Digests_kept T) (let0 nox_def) (je_var 0) (ja_cons je_str (ja_cons (je_var 1) (ja_cons (je_op o_add (je_op o_mul je_int (je_var 1)) je_int) ja_nil))))))
theorem sc_pc_behind : FnScope ["pc", "acc", "word", "data", "name", "place"] ["pc", "acc", "word", "data"] (defScope s_pc_behind) := ⟨rfl, rfl, rfl, by decide +kernel, rfl, by decide +kernel, by decide +kernel⟩
theorem bi_pc_behind (T : Tx K mg Cl) : Binds K T.d_pc_behind ["pc", "acc", "word", "data"] [] := T.F_pc_behind.binds fun _ _ _ _ _ _ us hl => match us, hl with | [_, _, _, _], _ => rfl
theorem ok_pc_behind (T : Tx K mg Cl) : FnOk P w K mg base CX0 2 T.a_pc_behind T.d_pc_behind ["pc", "acc", "word", "data"] (spM K Cl 4 m_pc_behind) := by
  refine fn_ok T.F_pc_behind sc_pc_behind rfl rfl fun cdv A outer s H E hr => ?_
  have hN := (sc_pc_behind).nd
  exact (jss_cons (js_set 4 hN (je_call (ok_name_of T) (hr.mono (by decide)) T.g_name_of T.F_name_of.kp (bi_name_of T) (let0 nox_def) (ja_cons (je_var 2) ja_nil)))
    (jss_cons (js_set 5 hN (je_op o_mod (je_var 2) (je_glob T.c_PLACES_machine)))
    (jss_cons (js_if (jt_w (jw_or (jt_cmp (o_eq (room65 hr)) (je_var 4) je_str (nomark _)) (jw_or (jt_w (jw_and (jt_cmp (o_eq (room65 hr)) (je_var 4) je_str (nomark _)) (jw_and1 (jt_cmp (o_eq (room65 hr)) (je_var 1) je_int (nomark _))))) (jw_or1 (jt_w (jw_and (jt_cmp (o_eq (room65 hr)) (je_var 4) je_str (nomark _)) (jw_and1 (jt_cmp (o_ne (room65 hr)) (je_var 1) je_int (nomark _))))))))) (jss_one (js_ret (je_var 5))) jss_nil)
    (jss_cons (js_if (jt_cmp (o_eq (room65 hr)) (je_var 4) je_str (nomark _)) (jss_one (js_ret (je_op o_mod (je_op o_add (je_var 5) je_int) (je_glob T.c_PLACES_machine)))) jss_nil)
    (jss_cons (js_if (jt_cmp (o_eq (room65 hr)) (je_var 4) je_str (nomark _)) (jss_one (js_ret (je_op o_mod (je_var 3) (je_glob T.c_PLACES_machine)))) jss_nil)
    (jss_one (js_ret (je_op o_mod (je_op o_add (je_var 0) je_int) (je_glob T.c_PLACES_machine)))))))))
theorem sc_acc_behind : FnScope ["acc", "name", "argument", "data"] ["acc", "name", "argument", "data"] (defScope s_acc_behind) := ⟨rfl, rfl, rfl, by decide +kernel, rfl, by decide +kernel, by decide +kernel⟩
theorem bi_acc_behind (T : Tx K mg Cl) : Binds K T.d_acc_behind ["acc", "name", "argument", "data"] [] := T.F_acc_behind.binds fun _ _ _ _ _ _ us hl => match us, hl with | [_, _, _, _], _ => rfl
theorem ok_acc_behind (T : Tx K mg Cl) : FnOk P w K mg base CX0 3 T.a_acc_behind T.d_acc_behind ["acc", "name", "argument", "data"] (spM K Cl 4 m_acc_behind) := by
  refine fn_ok T.F_acc_behind sc_acc_behind rfl rfl fun cdv A outer s H E hr => ?_
  have hN := (sc_acc_behind).nd
  exact (jss_cons (js_if (jt_cmp (o_eq (room65 hr)) (je_var 1) je_str (nomark _)) (jss_one (js_ret (je_var 2))) jss_nil)
    (jss_cons (js_if (jt_cmp (o_in (room65 hr)) (je_var 1) (je_tup (ja_cons je_str (ja_cons je_str ja_nil))) rfl) (jss_one (js_ret (je_var 3))) jss_nil)
    (jss_cons (js_if (jt_cmp (o_eq (room65 hr)) (je_var 1) je_str (nomark _)) (jss_one (js_ret (je_callTy c_int T.b_int PyProof.Rows.boot_int (ja_cons (je_cmp (o_eq (room65 hr)) (je_var 0) je_int (nomark _)) ja_nil)))) jss_nil)
    (jss_cons (js_if (jt_cmp (o_in (room65 hr)) (je_var 1) (je_glob T.c_SIGNS) rfl) (jss_one (js_ret (je_call (ok_op T) (hr.mono (by decide)) T.g_op T.F_op.kp (bi_op T) (let0 nox_def) (ja_cons (je_var 1) (ja_cons (je_var 0) (ja_cons (je_var 3) ja_nil)))))) jss_nil)
    (jss_one (js_ret (je_var 0)))))))
theorem sc_done_by : FnScope ["digests", "registers", "word", "data", "mark", "pc", "acc", "x", "_", "out", "count", "name", "written", "behind"] ["digests", "registers", "word", "data"] (defScope s_done_by) := ⟨rfl, rfl, rfl, by decide +kernel, rfl, by decide +kernel, by decide +kernel⟩
theorem bi_done_by (T : Tx K mg Cl) : Binds K T.d_done_by ["digests", "registers", "word", "data"] [] := T.F_done_by.binds fun _ _ _ _ _ _ us hl => match us, hl with | [_, _, _, _], _ => rfl
theorem ok_done_by (T : Tx K mg Cl) : FnOk P w K mg base CX0 4 T.a_done_by T.d_done_by ["digests", "registers", "word", "data"] (spM K Cl 4 m_done_by) := by
  refine fn_ok T.F_done_by sc_done_by rfl rfl fun cdv A outer s H E hr => ?_
  have hN := (sc_done_by).nd
  exact (jss_cons (js_set 4 hN (je_call (ok_mark_of T) (hr.mono (by decide)) T.g_mark_of T.F_mark_of.kp (bi_mark_of T) (let0 nox_def) (ja_cons (je_var 1) (ja_cons (je_var 2) (ja_cons (je_var 3) ja_nil)))))
    (jss_cons (js_if (jt_cmp o_notN (je_var 4) je_non (nomark _)) (jss_one (js_ret (je_tup (ja_cons (je_call (ok_halted T) (hr.mono (by decide)) T.g_halted T.F_halted.kp (bi_halted T) (let0 nox_def) (ja_cons (je_var 1) (ja_cons (je_var 4) ja_nil))) (ja_cons je_non ja_nil))))) jss_nil)
    (jss_cons (js_asg (je_var 1) (jg_tup rfl (jgs_cons (jg_name 5 hN) (jgs_cons (jg_name 6 hN) (jgs_cons (jg_name 7 hN) (jgs_cons (jg_name 8 hN) (jgs_cons (jg_name 9 hN) (jgs_cons (jg_name 10 hN) jgs_nil))))))))
    (jss_cons (js_set 11 hN (je_call (ok_name_of T) (hr.mono (by decide)) T.g_name_of T.F_name_of.kp (bi_name_of T) (let0 nox_def) (ja_cons (je_var 2) ja_nil)))
    (jss_cons (js_set 12 hN je_non)
    (jss_cons (js_if (jt_cmp (o_in (room65 hr)) (je_var 11) (je_tup (ja_cons je_str (ja_cons je_str ja_nil))) rfl) (jss_one (js_set 12 hN (je_var 6))) jss_nil)
    (jss_cons (js_if (jt_cmp (o_eq (room65 hr)) (je_var 11) je_str (nomark _)) (jss_one (js_set 12 hN (je_op o_mod (je_op o_add (je_var 5) je_int) (je_glob T.c_PLACES_machine)))) jss_nil)
    (jss_cons (js_if (jt_cmp (o_eq (room65 hr)) (je_var 11) je_str (nomark _)) (jss_one (js_set 7 hN (je_var 6))) jss_nil)
    (jss_cons (js_if (jt_cmp (o_eq (room65 hr)) (je_var 11) je_str (nomark _)) (jss_one (js_set 7 hN (je_var 3))) jss_nil)
    (jss_cons (js_if (jt_cmp (o_eq (room65 hr)) (je_var 11) je_str (nomark _)) (jss_cons (js_set 9 hN (je_meth T.k_Digests T.m_Digests_fold (ok_Digests_fold T) (hr.mono (by decide)) (bi_Digests_fold T) (let0 nox_def) (je_var 0) (ja_cons (je_var 9) (ja_cons (je_meth T.k_Digests T.m_Digests_leaf (ok_Digests_leaf T) (hr.mono (by decide)) (bi_Digests_leaf T) (let0 nox_def) (je_var 0) (ja_cons (je_var 6) ja_nil)) ja_nil))))
    (jss_one (js_aug 10 hN ip_add je_int))) jss_nil)
    (jss_cons (js_set 13 hN (je_call (ok_pc_behind T) (hr.mono (by decide)) T.g_pc_behind T.F_pc_behind.kp (bi_pc_behind T) (let0 nox_def) (ja_cons (je_var 5) (ja_cons (je_var 6) (ja_cons (je_var 2) (ja_cons (je_var 3) ja_nil))))))
    (jss_one (js_ret (je_tup (ja_cons (je_tup (ja_cons (je_var 13) (ja_cons (je_call (ok_acc_behind T) (hr.mono (by decide)) T.g_acc_behind T.F_acc_behind.kp (bi_acc_behind T) (let0 nox_def) (ja_cons (je_var 6) (ja_cons (je_var 11) (ja_cons (je_op o_mod (je_var 2) (je_glob T.c_ARGUMENTS)) (ja_cons (je_var 3) ja_nil))))) (ja_cons (je_var 7) (ja_cons je_int (ja_cons (je_var 9) (ja_cons (je_var 10) ja_nil))))))) (ja_cons (je_var 12) ja_nil))))))))))))))))
theorem sc_Memory_change : FnScope ["self", "place", "word", "digest", "row", "pair"] ["self", "place", "word"] (defScope s_Memory_change) := ⟨rfl, rfl, rfl, by decide +kernel, rfl, by decide +kernel, by decide +kernel⟩
theorem bi_Memory_change (T : Tx K mg Cl) : Binds K T.d_Memory_change ["self", "place", "word"] [] := T.F_Memory_change.binds fun _ _ _ _ _ _ us hl => match us, hl with | [_, _, _], _ => rfl
theorem ok_Memory_change (T : Tx K mg Cl) : FnOk P w K mg base CX0 4 T.a_Memory_change T.d_Memory_change ["self", "place", "word"] (spM K Cl 3 m_Memory_change) := by
  refine fn_ok T.F_Memory_change sc_Memory_change rfl rfl fun cdv A outer s H E hr => ?_
  have hN := (sc_Memory_change).nd
  exact (jss_cons (js_asg (je_var 2) (jg_sub (E := E0) (je_fld T.k_Memory T.n_Memory__words (je_var 0)) (je_var 1)))
    (jss_cons (js_set 3 hN (je_meth T.k_Digests T.m_Digests_leaf (ok_Digests_leaf T) (hr.mono (by decide)) (bi_Digests_leaf T) (let0 nox_def) (je_fld T.k_Memory T.n_Memory__digests (je_var 0)) (ja_cons (je_var 2) ja_nil)))
    (jss_cons (js_for PassesOwn.never rfl (ji_lst (je_sl (je_fld T.k_Memory T.n_Memory__rows (je_var 0)) jo_none (jo_some (je_un u_neg je_int)))) (jg_name 4 hN) (jss_cons (js_asg (je_var 3) (jg_sub (E := E0) (je_var 4) (je_var 1)))
    (jss_cons (js_set 5 hN (je_op o_sub (je_var 1) (je_op o_mod (je_var 1) je_int)))
    (jss_cons (js_set 3 hN (je_meth T.k_Digests T.m_Digests_fold (ok_Digests_fold T) (hr.mono (by decide)) (bi_Digests_fold T) (let0 nox_def) (je_fld T.k_Memory T.n_Memory__digests (je_var 0)) (ja_cons (je_ix (je_var 4) (je_var 5)) (ja_cons (je_ix (je_var 4) (je_op o_add (je_var 5) je_int)) ja_nil))))
    (jss_one (js_set 1 hN (je_op o_fdiv (je_var 1) je_int)))))))
    (jss_one (js_asg (je_lstS (ja_cons (je_var 3) ja_nil)) (jg_sub (E := E0) (je_fld T.k_Memory T.n_Memory__rows (je_var 0)) (je_un u_neg je_int)))))))
theorem sc_Machine_step : FnScope ["self", "before", "word", "other", "data", "written"] ["self"] (defScope s_Machine_step) := ⟨rfl, rfl, rfl, by decide +kernel, rfl, by decide +kernel, by decide +kernel⟩
theorem bi_Machine_step (T : Tx K mg Cl) : Binds K T.d_Machine_step ["self"] [] := T.F_Machine_step.binds fun _ _ _ _ _ _ us hl => match us, hl with | [_], _ => rfl
theorem ok_Machine_step (T : Tx K mg Cl) : FnOk P w K mg base CX0 5 T.a_Machine_step T.d_Machine_step ["self"] (spM K Cl 1 m_Machine_step) := by
  refine fn_ok T.F_Machine_step sc_Machine_step rfl rfl fun cdv A outer s H E hr => ?_
  have hN := (sc_Machine_step).nd
  exact (jss_cons (js_set 1 hN (je_fld T.k_Machine T.n_Machine__registers (je_var 0)))
    (jss_cons (js_if (jt_cmp (o_ne (room65 hr)) (je_ix (je_var 1) je_int) je_int (nomark _)) (jss_one js_retN) jss_nil)
    (jss_cons (js_set 2 hN (je_meth T.k_Memory T.m_Memory_word (ok_Memory_word T) (hr.mono (by decide)) (bi_Memory_word T) (let0 nox_def) (je_fld T.k_Machine T.n_Machine__memory (je_var 0)) (ja_cons (je_ix (je_var 1) je_int) ja_nil)))
    (jss_cons (js_set 3 hN (je_call (ok_data_of T) (hr.mono (by decide)) T.g_data_of T.F_data_of.kp (bi_data_of T) (let0 nox_def) (ja_cons (je_var 1) (ja_cons (je_var 2) ja_nil))))
    (jss_cons (js_set 4 hN je_non)
    (jss_cons (js_if (jt_cmp o_notN (je_var 3) je_non (nomark _)) (jss_one (js_set 4 hN (je_meth T.k_Memory T.m_Memory_word (ok_Memory_word T) (hr.mono (by decide)) (bi_Memory_word T) (let0 nox_def) (je_fld T.k_Machine T.n_Machine__memory (je_var 0)) (ja_cons (je_ix (je_var 3) je_int) ja_nil)))) jss_nil)
    (jss_cons (js_asg (je_call (ok_done_by T) (hr.mono (by decide)) T.g_done_by T.F_done_by.kp (bi_done_by T) (let0 nox_def) (ja_cons (je_fld T.k_Machine T.n_Machine__digests (je_var 0)) (ja_cons (je_var 1) (ja_cons (je_var 2) (ja_cons (je_var 4) ja_nil))))) (jg_tup rfl (jgs_cons (jg_fld (E := E0) T.k_Machine T.n_Machine__registers (je_var 0)) (jgs_cons (jg_name 5 hN) jgs_nil))))
    (jss_cons (js_if (jt_cmp o_notN (je_var 5) je_non (nomark _)) (jss_one (js_expr (je_meth T.k_Memory T.m_Memory_change (ok_Memory_change T) (hr.mono (by decide)) (bi_Memory_change T) (let0 nox_def) (je_fld T.k_Machine T.n_Machine__memory (je_var 0)) (ja_cons (je_ix (je_var 3) je_int) (ja_cons (je_var 5) ja_nil))))) jss_nil)
    (jss_one (js_if (jt_cmp o_gt (je_ix (je_fld T.k_Machine T.n_Machine__registers (je_var 0)) je_int) (je_ix (je_var 1) je_int) (nomark _)) (jss_one (js_fld T.k_Machine T.n_Machine__told (je_var 0) (je_op o_add (je_fld T.k_Machine T.n_Machine__told (je_var 0)) (je_tup (ja_cons (je_ix (je_var 1) je_int) ja_nil))))) jss_nil))))))))))
theorem sc_L_bag : FnScope ["_law_script"] ["_law_script"] (defScope s_L_bag) := ⟨rfl, rfl, rfl, by decide +kernel, rfl, by decide +kernel, by decide +kernel⟩
theorem bi_L_bag (T : Tx K mg Cl) : Binds K T.d_L_bag ["_law_script"] [] := T.F_L_bag.binds fun _ _ _ _ _ _ us hl => match us, hl with | [_], _ => rfl
theorem ok_L_bag (T : Tx K mg Cl) : FnOk P w K mg base CX0 1 T.a_L_bag T.d_L_bag ["_law_script"] (spM K Cl 1 m_L_bag) := by
  refine fn_ok T.F_L_bag sc_L_bag rfl rfl fun cdv A outer s H E hr => ?_
  have hN := (sc_L_bag).nd
  exact (jss_one (js_ret (je_lstS (ja_cons je_int (ja_cons je_int (ja_cons je_int (ja_cons je_int (ja_cons (je_callTy c_list T.b_list PyProof.Rows.boot_list (ja_cons (je_var 0) ja_nil)) ja_nil))))))))
theorem sc_L_draw : FnScope ["_law_bag_here", "_law_many", "_law_cell", "_law_cells", "_law_seed", "_law_rest"] ["_law_bag_here", "_law_many"] (defScope s_L_draw) := ⟨rfl, rfl, rfl, by decide +kernel, rfl, by decide +kernel, by decide +kernel⟩
theorem bi_L_draw (T : Tx K mg Cl) : Binds K T.d_L_draw ["_law_bag_here", "_law_many"] [] := T.F_L_draw.binds fun _ _ _ _ _ _ us hl => match us, hl with | [_, _], _ => rfl
theorem ok_L_draw (T : Tx K mg Cl) : FnOk P w K mg base CX0 1 T.a_L_draw T.d_L_draw ["_law_bag_here", "_law_many"] (spM K Cl 2 m_L_draw) := by
  refine fn_ok T.F_L_draw sc_L_draw rfl rfl fun cdv A outer s H E hr => ?_
  have hN := (sc_L_draw).nd
  exact (jss_cons (js_if (jt_cmp (o_eq (room65 hr)) (je_ix (je_var 0) je_int) je_int (nomark _)) (jss_cons (js_set 2 hN (je_callTy c_int T.b_int PyProof.Rows.boot_int (ja_cons (je_ix (je_var 0) je_int) ja_nil)))
    (jss_cons (js_set 3 hN (je_ix (je_var 0) je_int))
    (jss_cons (js_if (jt_cmp o_lt (je_ix (je_var 0) je_int) (je_callB c_len T.b_len PySem.boot_len (ja_cons (je_var 3) ja_nil)) (nomark _)) (jss_one (js_set 2 hN (je_callTy c_int T.b_int PyProof.Rows.boot_int (ja_cons (je_ix (je_var 3) (je_ix (je_var 0) je_int)) ja_nil)))) jss_nil)
    (jss_cons (js_asg (je_op o_add (je_ix (je_var 0) je_int) je_int) (jg_sub (E := E0) (je_var 0) je_int))
    (jss_cons (js_set 4 hN (je_op o_mod (je_callTy c_int T.b_int PyProof.Rows.boot_int (ja_cons (je_op o_add (je_op o_add (je_op o_add (je_op o_mul (je_ix (je_var 0) je_int) je_int) (je_op o_mul (je_var 2) je_int)) (je_op o_mul (je_ix (je_var 0) je_int) je_int)) je_int) ja_nil)) je_int))
    (jss_cons (js_asg (je_op o_add (je_op o_mul (je_var 4) je_int) (je_op o_mod (je_callTy c_int T.b_int PyProof.Rows.boot_int (ja_cons (je_op o_add (je_op o_mul (je_var 4) (je_var 4)) (je_var 2)) ja_nil)) je_int)) (jg_sub (E := E0) (je_var 0) je_int))
    (jss_cons (js_if (jt_cmp o_ge (je_var 2) (je_op o_pow je_int je_int) (nomark _)) (jss_one (js_asg (je_var 2) (jg_sub (E := E0) (je_var 0) je_int))) jss_nil)
    (jss_one (js_asg (je_var 4) (jg_sub (E := E0) (je_var 0) je_int)))))))))) jss_nil)
    (jss_cons (js_set 5 hN (je_ix (je_var 0) je_int))
    (jss_cons (js_asg (je_op o_fdiv (je_var 5) (je_var 1)) (jg_sub (E := E0) (je_var 0) je_int))
    (jss_one (js_ret (je_op o_mod (je_callTy c_int T.b_int PyProof.Rows.boot_int (ja_cons (je_var 5) ja_nil)) (je_var 1)))))))
theorem sc_Book_init : FnScope ["self"] ["self"] (defScope s_Book_init) := ⟨rfl, rfl, rfl, by decide +kernel, rfl, by decide +kernel, by decide +kernel⟩
theorem bi_Book_init (T : Tx K mg Cl) : Binds K T.d_Book_init ["self"] [] := T.F_Book_init.binds fun _ _ _ _ _ _ us hl => match us, hl with | [_], _ => rfl
theorem ok_Book_init (T : Tx K mg Cl) : FnOk P w K mg base CX0 1 T.a_Book_init T.d_Book_init ["self"] (spM K Cl 1 m_Book_init) := by
  refine fn_ok T.F_Book_init sc_Book_init rfl rfl fun cdv A outer s H E hr => ?_
  have hN := (sc_Book_init).nd
  exact (jss_cons (js_fld T.k_Book T.n_Book__texts (je_var 0) je_dnewT)
    (jss_one (js_fld T.k_Book T.n_Book__collision (je_var 0) je_bl)))
theorem sc_Digests_init : FnScope ["self", "bits", "book"] ["self", "bits", "book"] (defScope s_Digests_init) := ⟨rfl, rfl, rfl, by decide +kernel, rfl, by decide +kernel, by decide +kernel⟩
theorem bi_Digests_init (T : Tx K mg Cl) : Binds K T.d_Digests_init ["self", "bits", "book"] [] := T.F_Digests_init.binds fun _ _ _ _ _ _ us hl => match us, hl with | [_, _, _], _ => rfl
theorem ok_Digests_init (T : Tx K mg Cl) : FnOk P w K mg base CX0 1 T.a_Digests_init T.d_Digests_init ["self", "bits", "book"] (spM K Cl 3 m_Digests_init) := by
  refine fn_ok T.F_Digests_init sc_Digests_init rfl rfl fun cdv A outer s H E hr => ?_
  have hN := (sc_Digests_init).nd
  exact (jss_cons (js_fld T.k_Digests T.n_Digests__bits (je_var 0) (je_var 1))
    (jss_cons (js_fld T.k_Digests T.n_Digests__modulus (je_var 0) (je_op o_sub (je_op o_shl je_int (je_var 1)) je_int))
    (jss_one (js_fld T.k_Digests T.n_Digests__book (je_var 0) (je_var 2)))))
theorem sc_folded : FnScope ["digests", "row", "place"] ["digests", "row"] (defScope s_folded) := ⟨rfl, rfl, rfl, by decide +kernel, rfl, by decide +kernel, by decide +kernel⟩
theorem bi_folded (T : Tx K mg Cl) : Binds K T.d_folded ["digests", "row"] [] := T.F_folded.binds fun _ _ _ _ _ _ us hl => match us, hl with | [_, _], _ => rfl
theorem ok_folded (T : Tx K mg Cl) : FnOk P w K mg base CX0 4 T.a_folded T.d_folded ["digests", "row"] (spM K Cl 2 m_folded) := by
  refine fn_ok T.F_folded sc_folded rfl rfl fun cdv A outer s H E hr => ?_
  have hN := (sc_folded).nd
  exact (jss_one (js_ret (je_lcS rfl hN (ji_rngC T.b_range (ja_cons je_int (ja_cons (je_callB c_len T.b_len PySem.boot_len (ja_cons (je_var 1) ja_nil)) (ja_cons je_int ja_nil)))) (blkOk_by (own := [("place", 2)]) (by show blkC ["digests", "row", "place"] (defScope s_folded) _ [("place", 2)] = true; decide +kernel)) (fun _ _ _ _ _ => (jn_nm 2 hN)) (fun _ _ _ _ _ => jts_nil) (fun _ _ _ _ _ => (je_meth T.k_Digests T.m_Digests_fold (ok_Digests_fold T) (hr.mono (by decide)) (bi_Digests_fold T) (let0 nox_def) (je_var 0) (ja_cons (je_ix (je_var 1) (je_var 2)) (ja_cons (je_ix (je_var 1) (je_op o_add (je_var 2) je_int)) ja_nil)))))))
theorem sc_Memory_init : FnScope ["self", "digests", "words", "word"] ["self", "digests", "words"] (defScope s_Memory_init) := ⟨rfl, rfl, rfl, by decide +kernel, rfl, by decide +kernel, by decide +kernel⟩
theorem bi_Memory_init (T : Tx K mg Cl) : Binds K T.d_Memory_init ["self", "digests", "words"] [] := T.F_Memory_init.binds fun _ _ _ _ _ _ us hl => match us, hl with | [_, _, _], _ => rfl
theorem ok_Memory_init (T : Tx K mg Cl) : FnOk P w K mg base CX0 5 T.a_Memory_init T.d_Memory_init ["self", "digests", "words"] (spM K Cl 3 m_Memory_init) := by
  refine fn_ok T.F_Memory_init sc_Memory_init rfl rfl fun cdv A outer s H E hr => ?_
  have hN := (sc_Memory_init).nd
  exact (jss_cons (js_fld T.k_Memory T.n_Memory__digests (je_var 0) (je_var 1))
    (jss_cons (js_fld T.k_Memory T.n_Memory__words (je_var 0) (je_op o_addS (je_callTy c_list T.b_list PyProof.Rows.boot_list (ja_cons (je_var 2) ja_nil)) (je_op o_mul (je_lst (ja_cons je_int ja_nil)) (je_op o_sub (je_glob T.c_PLACES_trees) (je_callB c_len T.b_len PySem.boot_len (ja_cons (je_var 2) ja_nil))))))
    (jss_cons (js_fld T.k_Memory T.n_Memory__rows (je_var 0) (je_lstS (ja_cons (je_lcS rfl hN (ji_lst (je_fld T.k_Memory T.n_Memory__words (je_var 0))) (blkOk_by (own := [("word", 3)]) (by show blkC ["self", "digests", "words", "word"] (defScope s_Memory_init) _ [("word", 3)] = true; decide +kernel)) (fun _ _ _ _ _ => (jn_nm 3 hN)) (fun _ _ _ _ _ => jts_nil) (fun _ _ _ _ _ => (je_meth T.k_Digests T.m_Digests_leaf (ok_Digests_leaf T) (hr.mono (by decide)) (bi_Digests_leaf T) (let0 nox_def) (je_var 1) (ja_cons (je_var 3) ja_nil)))) ja_nil)))
    (jss_one (js_while 9 PassesOwn.never (jt_cmp o_gt (je_callB c_len T.b_len PySem.boot_len (ja_cons (je_ix (je_fld T.k_Memory T.n_Memory__rows (je_var 0)) (je_un u_neg je_int)) ja_nil)) je_int (nomark _)) (jss_one (js_expr (je_lm PySem.F.slot_list_append PySem.F.type_list_append m_app (je_fld T.k_Memory T.n_Memory__rows (je_var 0)) (ja_cons (je_call (ok_folded T) (hr.mono (by decide)) T.g_folded T.F_folded.kp (bi_folded T) (let0 nox_def) (ja_cons (je_var 1) (ja_cons (je_ix (je_fld T.k_Memory T.n_Memory__rows (je_var 0)) (je_un u_neg je_int)) ja_nil))) ja_nil)))))))))
theorem sc_Machine_init : FnScope ["self", "digests", "registers", "words"] ["self", "digests", "registers", "words"] (defScope s_Machine_init) := ⟨rfl, rfl, rfl, by decide +kernel, rfl, by decide +kernel, by decide +kernel⟩
theorem bi_Machine_init (T : Tx K mg Cl) : Binds K T.d_Machine_init ["self", "digests", "registers", "words"] [] := T.F_Machine_init.binds fun _ _ _ _ _ _ us hl => match us, hl with | [_, _, _, _], _ => rfl
theorem ok_Machine_init (T : Tx K mg Cl) : FnOk P w K mg base CX0 7 T.a_Machine_init T.d_Machine_init ["self", "digests", "registers", "words"] (spM K Cl 4 m_Machine_init) := by
  refine fn_ok T.F_Machine_init sc_Machine_init rfl rfl fun cdv A outer s H E hr => ?_
  have hN := (sc_Machine_init).nd
  exact (jss_cons (js_fld T.k_Machine T.n_Machine__digests (je_var 0) (je_var 1))
    (jss_cons (js_fld T.k_Machine T.n_Machine__registers (je_var 0) (je_var 2))
    (jss_cons (js_fld T.k_Machine T.n_Machine__memory (je_var 0) (je_make T.M_Memory (ok_Memory_init T) (hr.mono (by decide)) T.g_Memory (bi_Memory_init T) (let0 nox_def) (ja_cons (je_var 1) (ja_cons (je_var 3) ja_nil))))
    (jss_one (js_fld T.k_Machine T.n_Machine__told (je_var 0) (je_tup ja_nil))))))
theorem sc_L_start : FnScope ["_law_bag_here", "_law_m", "_law_small", "_law_pc", "_law_count", "_law_out", "_law_mark"] ["_law_bag_here", "_law_m"] (defScope s_L_start) := ⟨rfl, rfl, rfl, by decide +kernel, rfl, by decide +kernel, by decide +kernel⟩
theorem bi_L_start (T : Tx K mg Cl) : Binds K T.d_L_start ["_law_bag_here", "_law_m"] [] := T.F_L_start.binds fun _ _ _ _ _ _ us hl => match us, hl with | [_, _], _ => rfl
theorem ok_L_start (T : Tx K mg Cl) : FnOk P w K mg base CX0 2 T.a_L_start T.d_L_start ["_law_bag_here", "_law_m"] (spM K Cl 2 m_L_start) := by
  refine fn_ok T.F_L_start sc_L_start rfl rfl fun cdv A outer s H E hr => ?_
  have hN := (sc_L_start).nd
  exact (jss_cons (js_set 2 hN (je_lst (ja_cons je_int (ja_cons je_int (ja_cons je_int (ja_cons je_int (ja_cons je_int (ja_cons je_int (ja_cons (je_call (ok_L_draw T) (hr.mono (by decide)) T.g_L_draw T.F_L_draw.kp (bi_L_draw T) (let0 nox_def) (ja_cons (je_var 0) (ja_cons je_int ja_nil))) ja_nil)))))))))
    (jss_cons (js_set 3 hN (je_ix (je_lst (ja_cons je_int (ja_cons je_int (ja_cons (je_call (ok_L_draw T) (hr.mono (by decide)) T.g_L_draw T.F_L_draw.kp (bi_L_draw T) (let0 nox_def) (ja_cons (je_var 0) (ja_cons je_int ja_nil))) (ja_cons (je_call (ok_L_draw T) (hr.mono (by decide)) T.g_L_draw T.F_L_draw.kp (bi_L_draw T) (let0 nox_def) (ja_cons (je_var 0) (ja_cons je_int ja_nil))) ja_nil))))) (je_call (ok_L_draw T) (hr.mono (by decide)) T.g_L_draw T.F_L_draw.kp (bi_L_draw T) (let0 nox_def) (ja_cons (je_var 0) (ja_cons je_int ja_nil)))))
    (jss_cons (js_set 4 hN (je_ix (je_lst (ja_cons je_int (ja_cons je_int (ja_cons je_int (ja_cons (je_call (ok_L_draw T) (hr.mono (by decide)) T.g_L_draw T.F_L_draw.kp (bi_L_draw T) (let0 nox_def) (ja_cons (je_var 0) (ja_cons je_int ja_nil))) ja_nil))))) (je_call (ok_L_draw T) (hr.mono (by decide)) T.g_L_draw T.F_L_draw.kp (bi_L_draw T) (let0 nox_def) (ja_cons (je_var 0) (ja_cons je_int ja_nil)))))
    (jss_cons (js_set 5 hN (je_ix (je_lst (ja_cons je_int (ja_cons (je_op o_sub (je_var 1) je_int) (ja_cons (je_call (ok_L_draw T) (hr.mono (by decide)) T.g_L_draw T.F_L_draw.kp (bi_L_draw T) (let0 nox_def) (ja_cons (je_var 0) (ja_cons (je_var 1) ja_nil))) ja_nil)))) (je_call (ok_L_draw T) (hr.mono (by decide)) T.g_L_draw T.F_L_draw.kp (bi_L_draw T) (let0 nox_def) (ja_cons (je_var 0) (ja_cons je_int ja_nil)))))
    (jss_cons (js_set 6 hN (je_ix (je_lst (ja_cons je_int (ja_cons je_int (ja_cons je_int (ja_cons je_int (ja_cons je_int (ja_cons je_int (ja_cons je_int (ja_cons (je_call (ok_L_draw T) (hr.mono (by decide)) T.g_L_draw T.F_L_draw.kp (bi_L_draw T) (let0 nox_def) (ja_cons (je_var 0) (ja_cons je_int ja_nil))) ja_nil))))))))) (je_call (ok_L_draw T) (hr.mono (by decide)) T.g_L_draw T.F_L_draw.kp (bi_L_draw T) (let0 nox_def) (ja_cons (je_var 0) (ja_cons je_int ja_nil)))))
    (jss_one (js_ret (je_tup (ja_cons (je_var 3) (ja_cons (je_ix (je_var 2) (je_call (ok_L_draw T) (hr.mono (by decide)) T.g_L_draw T.F_L_draw.kp (bi_L_draw T) (let0 nox_def) (ja_cons (je_var 0) (ja_cons je_int ja_nil)))) (ja_cons (je_ix (je_var 2) (je_call (ok_L_draw T) (hr.mono (by decide)) T.g_L_draw T.F_L_draw.kp (bi_L_draw T) (let0 nox_def) (ja_cons (je_var 0) (ja_cons je_int ja_nil)))) (ja_cons (je_var 6) (ja_cons (je_var 5) (ja_cons (je_var 4) ja_nil))))))))))))))
theorem sc_L_word : FnScope ["_law_bag_here", "_law_pick"] ["_law_bag_here"] (defScope s_L_word) := ⟨rfl, rfl, rfl, by decide +kernel, rfl, by decide +kernel, by decide +kernel⟩
theorem bi_L_word (T : Tx K mg Cl) : Binds K T.d_L_word ["_law_bag_here"] [] := T.F_L_word.binds fun _ _ _ _ _ _ us hl => match us, hl with | [_], _ => rfl
theorem ok_L_word (T : Tx K mg Cl) : FnOk P w K mg base CX0 2 T.a_L_word T.d_L_word ["_law_bag_here"] (spM K Cl 1 m_L_word) := by
  refine fn_ok T.F_L_word sc_L_word rfl rfl fun cdv A outer s H E hr => ?_
  have hN := (sc_L_word).nd
  exact (jss_cons (js_set 1 hN (je_call (ok_L_draw T) (hr.mono (by decide)) T.g_L_draw T.F_L_draw.kp (bi_L_draw T) (let0 nox_def) (ja_cons (je_var 0) (ja_cons je_int ja_nil))))
    (jss_cons (js_if (jt_cmp o_lt (je_var 1) je_int (nomark _)) (jss_one (js_ret (je_op o_add (je_op o_mul je_int (je_call (ok_L_draw T) (hr.mono (by decide)) T.g_L_draw T.F_L_draw.kp (bi_L_draw T) (let0 nox_def) (ja_cons (je_var 0) (ja_cons je_int ja_nil)))) (je_ix (je_lst (ja_cons (je_call (ok_L_draw T) (hr.mono (by decide)) T.g_L_draw T.F_L_draw.kp (bi_L_draw T) (let0 nox_def) (ja_cons (je_var 0) (ja_cons je_int ja_nil))) (ja_cons (je_call (ok_L_draw T) (hr.mono (by decide)) T.g_L_draw T.F_L_draw.kp (bi_L_draw T) (let0 nox_def) (ja_cons (je_var 0) (ja_cons je_int ja_nil))) (ja_cons (je_call (ok_L_draw T) (hr.mono (by decide)) T.g_L_draw T.F_L_draw.kp (bi_L_draw T) (let0 nox_def) (ja_cons (je_var 0) (ja_cons je_int ja_nil))) ja_nil)))) (je_call (ok_L_draw T) (hr.mono (by decide)) T.g_L_draw T.F_L_draw.kp (bi_L_draw T) (let0 nox_def) (ja_cons (je_var 0) (ja_cons je_int ja_nil))))))) jss_nil)
    (jss_one (js_ret (je_ix (je_lst (ja_cons je_int (ja_cons je_int (ja_cons je_int (ja_cons je_int (ja_cons (je_call (ok_L_draw T) (hr.mono (by decide)) T.g_L_draw T.F_L_draw.kp (bi_L_draw T) (let0 nox_def) (ja_cons (je_var 0) (ja_cons je_int ja_nil))) ja_nil)))))) (je_call (ok_L_draw T) (hr.mono (by decide)) T.g_L_draw T.F_L_draw.kp (bi_L_draw T) (let0 nox_def) (ja_cons (je_var 0) (ja_cons je_int ja_nil))))))))
theorem sc_L_words : FnScope ["_law_bag_here", "_law_size", "_law_row", "_law_k"] ["_law_bag_here"] (defScope s_L_words) := ⟨rfl, rfl, rfl, by decide +kernel, rfl, by decide +kernel, by decide +kernel⟩
theorem bi_L_words (T : Tx K mg Cl) : Binds K T.d_L_words ["_law_bag_here"] [] := T.F_L_words.binds fun _ _ _ _ _ _ us hl => match us, hl with | [_], _ => rfl
theorem ok_L_words (T : Tx K mg Cl) : FnOk P w K mg base CX0 3 T.a_L_words T.d_L_words ["_law_bag_here"] (spM K Cl 1 m_L_words) := by
  refine fn_ok T.F_L_words sc_L_words rfl rfl fun cdv A outer s H E hr => ?_
  have hN := (sc_L_words).nd
  exact (jss_cons (js_set 1 hN (je_ix (je_lst (ja_cons je_int (ja_cons je_int (ja_cons je_int ja_nil)))) (je_call (ok_L_draw T) (hr.mono (by decide)) T.g_L_draw T.F_L_draw.kp (bi_L_draw T) (let0 nox_def) (ja_cons (je_var 0) (ja_cons je_int ja_nil)))))
    (jss_cons (js_setLc 2 rfl hN (sw_true rfl rfl rfl (by decide +kernel)) (ji_rng1 T.b_range (ja_cons (je_var 1) ja_nil)) (blkOk_by (own := [("_law_k", 3)]) (by show blkC ["_law_bag_here", "_law_size", "_law_row", "_law_k"] (defScope s_L_words) _ [("_law_k", 3)] = true; decide +kernel)) (fun _ _ _ _ _ => (jn_nm 3 hN)) (fun _ _ _ _ _ => jts_nil) (fun _ _ _ _ _ => (je_call (ok_L_word T) (hr.mono (by decide)) T.g_L_word T.F_L_word.kp (bi_L_word T) (let0 nox_def) (ja_cons (je_var 0) ja_nil))))
    (jss_one (js_ret (je_callTy c_tuple T.b_tuple PyProof.Rows.boot_tuple (ja_cons (je_sl (je_op o_add (je_var 2) (je_lc rfl hN (ji_rng1 T.b_range (ja_cons je_int ja_nil)) (blkOk_by (own := [("_law_k", 3)]) (by show blkC ["_law_bag_here", "_law_size", "_law_row", "_law_k"] (defScope s_L_words) _ [("_law_k", 3)] = true; decide +kernel)) (fun _ _ _ _ _ => (jn_nm 3 hN)) (fun _ _ _ _ _ => jts_nil) (fun _ _ _ _ _ => (je_ix (je_lst (ja_cons je_int (ja_cons je_int (ja_cons je_int ja_nil)))) (je_call (ok_L_draw T) (hr.mono (by decide)) T.g_L_draw T.F_L_draw.kp (bi_L_draw T) (let0 nox_def) (ja_cons (je_var 0) (ja_cons je_int ja_nil))))))) jo_none (jo_some je_int)) ja_nil))))))
theorem sc_opened : FnScope ["machine", "registers", "parts", "word", "other"] ["machine"] (defScope s_opened) := ⟨rfl, rfl, rfl, by decide +kernel, rfl, by decide +kernel, by decide +kernel⟩
theorem bi_opened (T : Tx K mg Cl) : Binds K T.d_opened ["machine"] [] := T.F_opened.binds fun _ _ _ _ _ _ us hl => match us, hl with | [_], _ => rfl
theorem ok_opened (T : Tx K mg Cl) : FnOk P w K mg base CX0 3 T.a_opened T.d_opened ["machine"] (spM K Cl 1 m_opened) := by
  refine fn_ok T.F_opened sc_opened rfl rfl fun cdv A outer s H E hr => ?_
  have hN := (sc_opened).nd
  exact (jss_cons (js_set 1 hN (je_meth0 T.k_Machine T.m_Machine_registers (ok_Machine_registers T) (hr.mono (by decide)) (bi_Machine_registers T) (let0 nox_def) (je_var 0)))
    (jss_cons (js_set 2 hN (je_tup ja_nil))
    (jss_cons (js_if (jt_cmp (o_eq (room65 hr)) (je_ix (je_var 1) je_int) je_int (nomark _)) (jss_cons (js_set 3 hN (je_meth T.k_Machine T.m_Machine_word (ok_Machine_word T) (hr.mono (by decide)) (bi_Machine_word T) (let0 nox_def) (je_var 0) (ja_cons (je_ix (je_var 1) je_int) ja_nil)))
    (jss_cons (js_set 2 hN (je_tup (ja_cons (je_tup (ja_cons (je_var 3) (ja_cons (je_meth T.k_Machine T.m_Machine_path (ok_Machine_path T) (hr.mono (by decide)) (bi_Machine_path T) (let0 nox_def) (je_var 0) (ja_cons (je_ix (je_var 1) je_int) ja_nil)) ja_nil))) ja_nil)))
    (jss_cons (js_set 4 hN (je_call (ok_data_of T) (hr.mono (by decide)) T.g_data_of T.F_data_of.kp (bi_data_of T) (let0 nox_def) (ja_cons (je_var 1) (ja_cons (je_var 3) ja_nil))))
    (jss_one (js_if (jt_cmp o_notN (je_var 4) je_non (nomark _)) (jss_one (js_set 2 hN (je_op o_add (je_var 2) (je_tup (ja_cons (je_tup (ja_cons (je_meth T.k_Machine T.m_Machine_word (ok_Machine_word T) (hr.mono (by decide)) (bi_Machine_word T) (let0 nox_def) (je_var 0) (ja_cons (je_ix (je_var 4) je_int) ja_nil)) (ja_cons (je_meth T.k_Machine T.m_Machine_path (ok_Machine_path T) (hr.mono (by decide)) (bi_Machine_path T) (let0 nox_def) (je_var 0) (ja_cons (je_ix (je_var 4) je_int) ja_nil)) ja_nil))) ja_nil))))) jss_nil))))) jss_nil)
    (jss_one (js_ret (je_tup (ja_cons (je_var 1) (ja_cons (je_meth0 T.k_Machine T.m_Machine_root (ok_Machine_root T) (hr.mono (by decide)) (bi_Machine_root T) (let0 nox_def) (je_var 0)) (ja_cons (je_var 2) ja_nil)))))))))
theorem sc_must : FnScope ["condition"] ["condition"] (defScope s_must) := ⟨rfl, rfl, rfl, by decide +kernel, rfl, by decide +kernel, by decide +kernel⟩
theorem bi_must (T : Tx K mg Cl) : Binds K T.d_must ["condition"] [] := T.F_must.binds fun _ _ _ _ _ _ us hl => match us, hl with | [_], _ => rfl
theorem ok_must (T : Tx K mg Cl) : FnOk P w K mg base (L2.CX P w) 1 T.a_must T.d_must ["condition"] (spM K Cl 1 m_must) := by
  refine fn_okX T.F_must sc_must rfl rfl fun cdv A outer s H E hr => ?_
  have hN := (sc_must).nd
  exact (jss_one (js_if (jt_not (jt_tru (je_var 0))) (jss_one (js_raise0 T.x_BadOpening (takes_of rfl rfl rfl rfl))) jss_nil))
theorem sc_is_integer : FnScope ["value", "least", "greatest"] ["value", "least", "greatest"] (defScope s_is_integer) := ⟨rfl, rfl, rfl, by decide +kernel, rfl, by decide +kernel, by decide +kernel⟩
theorem bi_is_integer (T : Tx K mg Cl) : Binds K T.d_is_integer ["value", "least", "greatest"] [] := T.F_is_integer.binds fun _ _ _ _ _ _ us hl => match us, hl with | [_, _, _], _ => rfl
theorem ok_is_integer (T : Tx K mg Cl) : FnOk P w K mg base CX0 1 T.a_is_integer T.d_is_integer ["value", "least", "greatest"] (spM K Cl 3 m_is_integer) := by
  refine fn_ok T.F_is_integer sc_is_integer rfl rfl fun cdv A outer s H E hr => ?_
  have hN := (sc_is_integer).nd
  exact (jss_one (js_ret (je_and (je_isi T.b_isinstance T.b_int PyProof.Rows.boot_int (je_var 0)) (je_and (je_not (je_isi T.b_isinstance T.b_bool PyProof.Rows.boot_bool (je_var 0))) (je_one (je_chain o_le o_le (je_var 1) (je_var 0) (je_var 2)))))))
theorem sc_is_word : FnScope ["value"] ["value"] (defScope s_is_word) := ⟨rfl, rfl, rfl, by decide +kernel, rfl, by decide +kernel, by decide +kernel⟩
theorem bi_is_word (T : Tx K mg Cl) : Binds K T.d_is_word ["value"] [] := T.F_is_word.binds fun _ _ _ _ _ _ us hl => match us, hl with | [_], _ => rfl
theorem ok_is_word (T : Tx K mg Cl) : FnOk P w K mg base CX0 2 T.a_is_word T.d_is_word ["value"] (spM K Cl 1 m_is_word) := by
  refine fn_ok T.F_is_word sc_is_word rfl rfl fun cdv A outer s H E hr => ?_
  have hN := (sc_is_word).nd
  exact (jss_one (js_ret (je_call (ok_is_integer T) (hr.mono (by decide)) T.g_is_integer T.F_is_integer.kp (bi_is_integer T) (let0 nox_def) (ja_cons (je_var 0) (ja_cons je_int (ja_cons (je_glob T.c_MOST_WORD) ja_nil))))))
theorem sc_Digests_is_digest : FnScope ["self", "value"] ["self", "value"] (defScope s_Digests_is_digest) := ⟨rfl, rfl, rfl, by decide +kernel, rfl, by decide +kernel, by decide +kernel⟩
theorem bi_Digests_is_digest (T : Tx K mg Cl) : Binds K T.d_Digests_is_digest ["self", "value"] [] := T.F_Digests_is_digest.binds fun _ _ _ _ _ _ us hl => match us, hl with | [_, _], _ => rfl
theorem ok_Digests_is_digest (T : Tx K mg Cl) : FnOk P w K mg base CX0 2 T.a_Digests_is_digest T.d_Digests_is_digest ["self", "value"] (spM K Cl 2 m_Digests_is_digest) := by
  refine fn_ok T.F_Digests_is_digest sc_Digests_is_digest rfl rfl fun cdv A outer s H E hr => ?_
  have hN := (sc_Digests_is_digest).nd
  exact (jss_one (js_ret (je_call (ok_is_integer T) (hr.mono (by decide)) T.g_is_integer T.F_is_integer.kp (bi_is_integer T) (let0 nox_def) (ja_cons (je_var 1) (ja_cons je_int (ja_cons (je_op o_sub (je_fld T.k_Digests T.n_Digests__modulus (je_var 0)) je_int) ja_nil))))))
theorem sc_are_registers : FnScope ["digests", "value", "pc", "acc", "x", "mark", "out", "count"] ["digests", "value"] (defScope s_are_registers) := ⟨rfl, rfl, rfl, by decide +kernel, rfl, by decide +kernel, by decide +kernel⟩
theorem bi_are_registers (T : Tx K mg Cl) : Binds K T.d_are_registers ["digests", "value"] [] := T.F_are_registers.binds fun _ _ _ _ _ _ us hl => match us, hl with | [_, _], _ => rfl
theorem ok_are_registers (T : Tx K mg Cl) : FnOk P w K mg base CX0 3 T.a_are_registers T.d_are_registers ["digests", "value"] (spM K Cl 2 m_are_registers) := by
  refine fn_ok T.F_are_registers sc_are_registers rfl rfl fun cdv A outer s H E hr => ?_
  have hN := (sc_are_registers).nd
  exact (jss_cons (js_if (jt_w (jw_or (jt_not (jt_tru (je_isi T.b_isinstance T.b_tuple PyProof.Rows.boot_tuple (je_var 1)))) (jw_or1 (jt_cmp (o_ne (room65 hr)) (je_callB c_len T.b_len PySem.boot_len (ja_cons (je_var 1) ja_nil)) je_int (nomark _))))) (jss_one (js_ret je_bl)) jss_nil)
    (jss_cons (js_asg (je_var 1) (jg_tup rfl (jgs_cons (jg_name 2 hN) (jgs_cons (jg_name 3 hN) (jgs_cons (jg_name 4 hN) (jgs_cons (jg_name 5 hN) (jgs_cons (jg_name 6 hN) (jgs_cons (jg_name 7 hN) jgs_nil))))))))
    (jss_cons (js_if (jt_w (jw_or (jt_not (jt_tru (je_call (ok_is_integer T) (hr.mono (by decide)) T.g_is_integer T.F_is_integer.kp (bi_is_integer T) (let0 nox_def) (ja_cons (je_var 2) (ja_cons je_int (ja_cons (je_op o_sub (je_glob T.c_PLACES_machine) je_int) ja_nil)))))) (jw_or (jt_not (jt_tru (je_call (ok_is_word T) (hr.mono (by decide)) T.g_is_word T.F_is_word.kp (bi_is_word T) (let0 nox_def) (ja_cons (je_var 3) ja_nil)))) (jw_or1 (jt_not (jt_tru (je_call (ok_is_word T) (hr.mono (by decide)) T.g_is_word T.F_is_word.kp (bi_is_word T) (let0 nox_def) (ja_cons (je_var 4) ja_nil)))))))) (jss_one (js_ret je_bl)) jss_nil)
    (jss_one (js_ret (je_and (je_call (ok_is_integer T) (hr.mono (by decide)) T.g_is_integer T.F_is_integer.kp (bi_is_integer T) (let0 nox_def) (ja_cons (je_var 5) (ja_cons je_int (ja_cons (je_op o_sub (je_callB c_len T.b_len PySem.boot_len (ja_cons (je_glob T.c_MARKS) ja_nil)) je_int) ja_nil)))) (je_and (je_meth T.k_Digests T.m_Digests_is_digest (ok_Digests_is_digest T) (hr.mono (by decide)) (bi_Digests_is_digest T) (let0 nox_def) (je_var 0) (ja_cons (je_var 6) ja_nil)) (je_one (je_call (ok_is_integer T) (hr.mono (by decide)) T.g_is_integer T.F_is_integer.kp (bi_is_integer T) (let0 nox_def) (ja_cons (je_var 7) (ja_cons je_int (ja_cons (je_glob T.c_MOST_TOLD) ja_nil))))))))))))
theorem sc_is_part : FnScope ["digests", "value", "item"] ["digests", "value"] (defScope s_is_part) := ⟨rfl, rfl, rfl, by decide +kernel, rfl, by decide +kernel, by decide +kernel⟩
theorem bi_is_part (T : Tx K mg Cl) : Binds K T.d_is_part ["digests", "value"] [] := T.F_is_part.binds fun _ _ _ _ _ _ us hl => match us, hl with | [_, _], _ => rfl
theorem ok_is_part (T : Tx K mg Cl) : FnOk P w K mg base CX0 3 T.a_is_part T.d_is_part ["digests", "value"] (spM K Cl 2 m_is_part) := by
  refine fn_ok T.F_is_part sc_is_part rfl rfl fun cdv A outer s H E hr => ?_
  have hN := (sc_is_part).nd
  exact (jss_cons (js_if (jt_w (jw_or (jt_not (jt_tru (je_isi T.b_isinstance T.b_tuple PyProof.Rows.boot_tuple (je_var 1)))) (jw_or (jt_cmp (o_ne (room65 hr)) (je_callB c_len T.b_len PySem.boot_len (ja_cons (je_var 1) ja_nil)) je_int (nomark _)) (jw_or1 (jt_not (jt_tru (je_call (ok_is_word T) (hr.mono (by decide)) T.g_is_word T.F_is_word.kp (bi_is_word T) (let0 nox_def) (ja_cons (je_ix (je_var 1) je_int) ja_nil)))))))) (jss_one (js_ret je_bl)) jss_nil)
    (jss_cons (js_if (jt_w (jw_or (jt_not (jt_tru (je_isi T.b_isinstance T.b_tuple PyProof.Rows.boot_tuple (je_ix (je_var 1) je_int)))) (jw_or1 (jt_cmp (o_ne (room65 hr)) (je_callB c_len T.b_len PySem.boot_len (ja_cons (je_ix (je_var 1) je_int) ja_nil)) (je_glob T.c_DEPTH) (nomark _))))) (jss_one (js_ret je_bl)) jss_nil)
    (jss_one (js_ret (je_callB (c_all rfl) T.b_all PyProof.Rows.boot_all (ja_cons (je_lc rfl hN (ji_tup (je_ix (je_var 1) je_int)) (blkOk_by (own := [("item", 2)]) (by show blkC ["digests", "value", "item"] (defScope s_is_part) _ [("item", 2)] = true; decide +kernel)) (fun _ _ _ _ _ => (jn_nm 2 hN)) (fun _ _ _ _ _ => jts_nil) (fun _ _ _ _ _ => (je_meth T.k_Digests T.m_Digests_is_digest (ok_Digests_is_digest T) (hr.mono (by decide)) (bi_Digests_is_digest T) (let0 nox_def) (je_var 0) (ja_cons (je_var 2) ja_nil)))) ja_nil))))))
theorem sc_is_opening : FnScope ["digests", "value", "part"] ["digests", "value"] (defScope s_is_opening) := ⟨rfl, rfl, rfl, by decide +kernel, rfl, by decide +kernel, by decide +kernel⟩
theorem bi_is_opening (T : Tx K mg Cl) : Binds K T.d_is_opening ["digests", "value"] [] := T.F_is_opening.binds fun _ _ _ _ _ _ us hl => match us, hl with | [_, _], _ => rfl
theorem ok_is_opening (T : Tx K mg Cl) : FnOk P w K mg base CX0 4 T.a_is_opening T.d_is_opening ["digests", "value"] (spM K Cl 2 m_is_opening) := by
  refine fn_ok T.F_is_opening sc_is_opening rfl rfl fun cdv A outer s H E hr => ?_
  have hN := (sc_is_opening).nd
  exact (jss_cons (js_if (jt_w (jw_or (jt_not (jt_tru (je_isi T.b_isinstance T.b_tuple PyProof.Rows.boot_tuple (je_var 1)))) (jw_or (jt_cmp (o_ne (room65 hr)) (je_callB c_len T.b_len PySem.boot_len (ja_cons (je_var 1) ja_nil)) je_int (nomark _)) (jw_or1 (jt_not (jt_tru (je_isi T.b_isinstance T.b_tuple PyProof.Rows.boot_tuple (je_ix (je_var 1) je_int)))))))) (jss_one (js_ret je_bl)) jss_nil)
    (jss_cons (js_if (jt_w (jw_or (jt_not (jt_tru (je_call (ok_are_registers T) (hr.mono (by decide)) T.g_are_registers T.F_are_registers.kp (bi_are_registers T) (let0 nox_def) (ja_cons (je_var 0) (ja_cons (je_ix (je_var 1) je_int) ja_nil))))) (jw_or1 (jt_not (jt_tru (je_meth T.k_Digests T.m_Digests_is_digest (ok_Digests_is_digest T) (hr.mono (by decide)) (bi_Digests_is_digest T) (let0 nox_def) (je_var 0) (ja_cons (je_ix (je_var 1) je_int) ja_nil))))))) (jss_one (js_ret je_bl)) jss_nil)
    (jss_one (js_ret (je_callB (c_all rfl) T.b_all PyProof.Rows.boot_all (ja_cons (je_lc rfl hN (ji_tup (je_ix (je_var 1) je_int)) (blkOk_by (own := [("part", 2)]) (by show blkC ["digests", "value", "part"] (defScope s_is_opening) _ [("part", 2)] = true; decide +kernel)) (fun _ _ _ _ _ => (jn_nm 2 hN)) (fun _ _ _ _ _ => jts_nil) (fun _ _ _ _ _ => (je_call (ok_is_part T) (hr.mono (by decide)) T.g_is_part T.F_is_part.kp (bi_is_part T) (let0 nox_def) (ja_cons (je_var 0) (ja_cons (je_var 2) ja_nil))))) ja_nil))))))
theorem sc_root_by : FnScope ["digests", "place", "digest", "path", "root", "item"] ["digests", "place", "digest", "path"] (defScope s_root_by) := ⟨rfl, rfl, rfl, by decide +kernel, rfl, by decide +kernel, by decide +kernel⟩
theorem bi_root_by (T : Tx K mg Cl) : Binds K T.d_root_by ["digests", "place", "digest", "path"] [] := T.F_root_by.binds fun _ _ _ _ _ _ us hl => match us, hl with | [_, _, _, _], _ => rfl
theorem ok_root_by (T : Tx K mg Cl) : FnOk P w K mg base CX0 4 T.a_root_by T.d_root_by ["digests", "place", "digest", "path"] (spM K Cl 4 m_root_by) := by
  refine fn_ok T.F_root_by sc_root_by rfl rfl fun cdv A outer s H E hr => ?_
  have hN := (sc_root_by).nd
  exact (jss_cons (js_set 4 hN (je_var 2))
    (jss_cons (js_for PassesOwn.never rfl (ji_tup (je_var 3)) (jg_name 5 hN) (jss_cons (js_if (jt_cmp (o_eq (room65 hr)) (je_op o_mod (je_var 1) je_int) je_int (nomark _)) (jss_one (js_set 4 hN (je_meth T.k_Digests T.m_Digests_fold (ok_Digests_fold T) (hr.mono (by decide)) (bi_Digests_fold T) (let0 nox_def) (je_var 0) (ja_cons (je_var 4) (ja_cons (je_var 5) ja_nil))))) (jss_one (js_set 4 hN (je_meth T.k_Digests T.m_Digests_fold (ok_Digests_fold T) (hr.mono (by decide)) (bi_Digests_fold T) (let0 nox_def) (je_var 0) (ja_cons (je_var 5) (ja_cons (je_var 4) ja_nil))))))
    (jss_one (js_set 1 hN (je_op o_fdiv (je_var 1) je_int)))))
    (jss_one (js_ret (je_var 4)))))
theorem sc_root_with : FnScope ["digests", "place", "word", "path"] ["digests", "place", "word", "path"] (defScope s_root_with) := ⟨rfl, rfl, rfl, by decide +kernel, rfl, by decide +kernel, by decide +kernel⟩
theorem bi_root_with (T : Tx K mg Cl) : Binds K T.d_root_with ["digests", "place", "word", "path"] [] := T.F_root_with.binds fun _ _ _ _ _ _ us hl => match us, hl with | [_, _, _, _], _ => rfl
theorem ok_root_with (T : Tx K mg Cl) : FnOk P w K mg base CX0 5 T.a_root_with T.d_root_with ["digests", "place", "word", "path"] (spM K Cl 4 m_root_with) := by
  refine fn_ok T.F_root_with sc_root_with rfl rfl fun cdv A outer s H E hr => ?_
  have hN := (sc_root_with).nd
  exact (jss_one (js_ret (je_call (ok_root_by T) (hr.mono (by decide)) T.g_root_by T.F_root_by.kp (bi_root_by T) (let0 nox_def) (ja_cons (je_var 0) (ja_cons (je_var 1) (ja_cons (je_meth T.k_Digests T.m_Digests_leaf (ok_Digests_leaf T) (hr.mono (by decide)) (bi_Digests_leaf T) (let0 nox_def) (je_var 0) (ja_cons (je_var 2) ja_nil)) (ja_cons (je_var 3) ja_nil)))))))
theorem sc_step_of : FnScope ["digests", "digest", "opening", "registers", "root", "parts", "word", "path", "other", "data", "behind", "written"] ["digests", "digest", "opening"] (defScope s_step_of) := ⟨rfl, rfl, rfl, by decide +kernel, rfl, by decide +kernel, by decide +kernel⟩
theorem bi_step_of (T : Tx K mg Cl) : Binds K T.d_step_of ["digests", "digest", "opening"] [] := T.F_step_of.binds fun _ _ _ _ _ _ us hl => match us, hl with | [_, _, _], _ => rfl
theorem ok_step_of (T : Tx K mg Cl) : FnOk P w K mg base (L2.CX P w) 6 T.a_step_of T.d_step_of ["digests", "digest", "opening"] (spM K Cl 3 m_step_of) := by
  refine fn_okX T.F_step_of sc_step_of rfl rfl fun cdv A outer s H E hr => ?_
  have hN := (sc_step_of).nd
  exact (jss_cons (js_expr (je_call (ok_must T) (hr.mono (by decide)) T.g_must T.F_must.kp (bi_must T) (letX (passes_call (takes_of rfl rfl rfl rfl) (fun _ _ _ _ h => h))) (ja_cons (je_call (ok_is_opening T) (hr.mono (by decide)) T.g_is_opening T.F_is_opening.kp (bi_is_opening T) (let0 nox_def) (ja_cons (je_var 0) (ja_cons (je_var 2) ja_nil))) ja_nil)))
    (jss_cons (js_asg (je_var 2) (jg_tup rfl (jgs_cons (jg_name 3 hN) (jgs_cons (jg_name 4 hN) (jgs_cons (jg_name 5 hN) jgs_nil)))))
    (jss_cons (js_expr (je_call (ok_must T) (hr.mono (by decide)) T.g_must T.F_must.kp (bi_must T) (letX (passes_call (takes_of rfl rfl rfl rfl) (fun _ _ _ _ h => h))) (ja_cons (je_cmp (o_eq (room65 hr)) (je_meth T.k_Digests T.m_Digests_state (ok_Digests_state T) (hr.mono (by decide)) (bi_Digests_state T) (let0 nox_def) (je_var 0) (ja_cons (je_op o_add (je_var 3) (je_tup (ja_cons (je_var 4) ja_nil))) ja_nil)) (je_var 1) (nomark _)) ja_nil)))
    (jss_cons (js_if (jt_cmp (o_ne (room65 hr)) (je_ix (je_var 3) je_int) je_int (nomark _)) (jss_cons (js_expr (je_call (ok_must T) (hr.mono (by decide)) T.g_must T.F_must.kp (bi_must T) (letX (passes_call (takes_of rfl rfl rfl rfl) (fun _ _ _ _ h => h))) (ja_cons (je_cmp (o_eq (room65 hr)) (je_var 5) (je_tup ja_nil) (nomark _)) ja_nil)))
    (jss_one (js_ret (je_var 1)))) jss_nil)
    (jss_cons (js_expr (je_call (ok_must T) (hr.mono (by decide)) T.g_must T.F_must.kp (bi_must T) (letX (passes_call (takes_of rfl rfl rfl rfl) (fun _ _ _ _ h => h))) (ja_cons (je_cmp (o_ne (room65 hr)) (je_var 5) (je_tup ja_nil) (nomark _)) ja_nil)))
    (jss_cons (js_asg (je_ix (je_var 5) je_int) (jg_tup rfl (jgs_cons (jg_name 6 hN) (jgs_cons (jg_name 7 hN) jgs_nil))))
    (jss_cons (js_set 8 hN (je_call (ok_data_of T) (hr.mono (by decide)) T.g_data_of T.F_data_of.kp (bi_data_of T) (let0 nox_def) (ja_cons (je_var 3) (ja_cons (je_var 6) ja_nil))))
    (jss_cons (js_expr (je_call (ok_must T) (hr.mono (by decide)) T.g_must T.F_must.kp (bi_must T) (letX (passes_call (takes_of rfl rfl rfl rfl) (fun _ _ _ _ h => h))) (ja_cons (je_cmp (o_eq (room65 hr)) (je_callB c_len T.b_len PySem.boot_len (ja_cons (je_var 5) ja_nil)) (je_op o_add je_int (je_callTy c_int T.b_int PyProof.Rows.boot_int (ja_cons (je_cmp o_notN (je_var 8) je_non (nomark _)) ja_nil))) (nomark _)) ja_nil)))
    (jss_cons (js_expr (je_call (ok_must T) (hr.mono (by decide)) T.g_must T.F_must.kp (bi_must T) (letX (passes_call (takes_of rfl rfl rfl rfl) (fun _ _ _ _ h => h))) (ja_cons (je_cmp (o_eq (room65 hr)) (je_call (ok_root_with T) (hr.mono (by decide)) T.g_root_with T.F_root_with.kp (bi_root_with T) (let0 nox_def) (ja_cons (je_var 0) (ja_cons (je_ix (je_var 3) je_int) (ja_cons (je_var 6) (ja_cons (je_var 7) ja_nil))))) (je_var 4) (nomark _)) ja_nil)))
    (jss_cons (js_set 9 hN je_non)
    (jss_cons (js_if (jt_cmp o_notN (je_var 8) je_non (nomark _)) (jss_cons (js_asg (je_ix (je_var 5) je_int) (jg_tup rfl (jgs_cons (jg_name 9 hN) (jgs_cons (jg_name 7 hN) jgs_nil))))
    (jss_one (js_expr (je_call (ok_must T) (hr.mono (by decide)) T.g_must T.F_must.kp (bi_must T) (letX (passes_call (takes_of rfl rfl rfl rfl) (fun _ _ _ _ h => h))) (ja_cons (je_cmp (o_eq (room65 hr)) (je_call (ok_root_with T) (hr.mono (by decide)) T.g_root_with T.F_root_with.kp (bi_root_with T) (let0 nox_def) (ja_cons (je_var 0) (ja_cons (je_ix (je_var 8) je_int) (ja_cons (je_var 9) (ja_cons (je_var 7) ja_nil))))) (je_var 4) (nomark _)) ja_nil))))) jss_nil)
    (jss_cons (js_asg (je_call (ok_done_by T) (hr.mono (by decide)) T.g_done_by T.F_done_by.kp (bi_done_by T) (let0 nox_def) (ja_cons (je_var 0) (ja_cons (je_var 3) (ja_cons (je_var 6) (ja_cons (je_var 9) ja_nil))))) (jg_tup rfl (jgs_cons (jg_name 10 hN) (jgs_cons (jg_name 11 hN) jgs_nil))))
    (jss_cons (js_if (jt_cmp o_notN (je_var 11) je_non (nomark _)) (jss_one (js_set 4 hN (je_call (ok_root_with T) (hr.mono (by decide)) T.g_root_with T.F_root_with.kp (bi_root_with T) (let0 nox_def) (ja_cons (je_var 0) (ja_cons (je_ix (je_var 8) je_int) (ja_cons (je_var 11) (ja_cons (je_var 7) ja_nil))))))) jss_nil)
    (jss_one (js_ret (je_meth T.k_Digests T.m_Digests_state (ok_Digests_state T) (hr.mono (by decide)) (bi_Digests_state T) (let0 nox_def) (je_var 0) (ja_cons (je_op o_add (je_var 10) (je_tup (ja_cons (je_var 4) ja_nil))) ja_nil)))))))))))))))))
theorem sc_L_taken : FnScope ["_law_digests", "_law_digest", "_law_opening"] ["_law_digests", "_law_digest", "_law_opening"] (defScope s_L_taken) := ⟨rfl, rfl, rfl, by decide +kernel, rfl, by decide +kernel, by decide +kernel⟩
theorem bi_L_taken (T : Tx K mg Cl) : Binds K T.d_L_taken ["_law_digests", "_law_digest", "_law_opening"] [] := T.F_L_taken.binds fun _ _ _ _ _ _ us hl => match us, hl with | [_, _, _], _ => rfl
theorem ok_L_taken (T : Tx K mg Cl) : FnOk P w K mg base CX0 7 T.a_L_taken T.d_L_taken ["_law_digests", "_law_digest", "_law_opening"] (spM K Cl 3 m_L_taken) := by
  refine fn_ok T.F_L_taken sc_L_taken rfl rfl fun cdv A outer s H E hr => ?_
  have hN := (sc_L_taken).nd
  exact (jss_cons (js_try1 (hc := 29) T.g_BadOpening takes0 (fun _ _ _ tk => (jb_expr (jc_call (ok_step_of T) tk (hr.mono (by decide)) T.g_step_of T.F_step_of.kp (bi_step_of T) (ja_cons (je_var 0) (ja_cons (je_var 1) (ja_cons (je_var 2) ja_nil)))))) (fun _ _ _ => (jss_one (js_ret je_bl))) (tabC_ok T.e_BadOpening_BadOpening tabN_ok))
    (jss_one (js_ret je_bl)))
theorem sc_Book_has_collision : FnScope ["self"] ["self"] (defScope s_Book_has_collision) := ⟨rfl, rfl, rfl, by decide +kernel, rfl, by decide +kernel, by decide +kernel⟩
theorem bi_Book_has_collision (T : Tx K mg Cl) : Binds K T.d_Book_has_collision ["self"] [] := T.F_Book_has_collision.binds fun _ _ _ _ _ _ us hl => match us, hl with | [_], _ => rfl
theorem ok_Book_has_collision (T : Tx K mg Cl) : FnOk P w K mg base CX0 1 T.a_Book_has_collision T.d_Book_has_collision ["self"] (spM K Cl 1 m_Book_has_collision) := by
  refine fn_ok T.F_Book_has_collision sc_Book_has_collision rfl rfl fun cdv A outer s H E hr => ?_
  have hN := (sc_Book_has_collision).nd
  exact (jss_one (js_ret (je_fld T.k_Book T.n_Book__collision (je_var 0))))
theorem sc_law : FnScope ["_law_script", "_law_bag_here", "_law_bits", "_law_m", "_law_book", "_law_digests", "_law_machine", "_law_digest", "_law_states", "_law_openings", "_law_found", "_law_turn", "_law_one", "_law_other", "_law_taken_here"] ["_law_script"] (defScope s_law) := ⟨rfl, rfl, rfl, by decide +kernel, rfl, by decide +kernel, by decide +kernel⟩
theorem bi_law (T : Tx K mg Cl) : Binds K T.d_law ["_law_script"] [] := T.F_law.binds fun _ _ _ _ _ _ us hl => match us, hl with | [_], _ => rfl
theorem ok_law (T : Tx K mg Cl) : FnOk P w K mg base (L2.CX P w) 9 T.a_law T.d_law ["_law_script"] (spM K Cl 1 m_law) := by
  refine fn_okX T.F_law sc_law rfl rfl fun cdv A outer s H E hr => ?_
  have hN := (sc_law).nd
  exact (jss_cons (js_set 1 hN (je_call (ok_L_bag T) (hr.mono (by decide)) T.g_L_bag T.F_L_bag.kp (bi_L_bag T) (let0 nox_def) (ja_cons (je_var 0) ja_nil)))
    (jss_cons (js_set 2 hN (je_ix (je_lst (ja_cons je_int (ja_cons je_int (ja_cons je_int (ja_cons je_int ja_nil))))) (je_call (ok_L_draw T) (hr.mono (by decide)) T.g_L_draw T.F_L_draw.kp (bi_L_draw T) (let0 nox_def) (ja_cons (je_var 1) (ja_cons je_int ja_nil)))))
    (jss_cons (js_set 3 hN (je_ix (je_lst (ja_cons (je_op o_sub (je_op o_pow je_int je_int) je_int) (ja_cons (je_op o_sub (je_op o_pow je_int je_int) je_int) (ja_cons (je_op o_sub (je_op o_pow je_int je_int) je_int) (ja_cons (je_op o_sub (je_op o_pow je_int je_int) je_int) ja_nil))))) (je_lm PySem.F.slot_list_index PySem.F.type_list_index m_index (je_lst (ja_cons je_int (ja_cons je_int (ja_cons je_int (ja_cons je_int ja_nil))))) (ja_cons (je_var 2) ja_nil))))
    (jss_cons (js_set 4 hN (je_make0 T.M_Book (ok_Book_init T) (hr.mono (by decide)) T.g_Book (bi_Book_init T) (let0 nox_def)))
    (jss_cons (js_set 5 hN (je_make T.M_Digests (ok_Digests_init T) (hr.mono (by decide)) T.g_Digests (bi_Digests_init T) (let0 nox_def) (ja_cons (je_var 2) (ja_cons (je_var 4) ja_nil))))
    (jss_cons (js_set 6 hN (je_make T.M_Machine (ok_Machine_init T) (hr.mono (by decide)) T.g_Machine (bi_Machine_init T) (let0 nox_def) (ja_cons (je_var 5) (ja_cons (je_call (ok_L_start T) (hr.mono (by decide)) T.g_L_start T.F_L_start.kp (bi_L_start T) (let0 nox_def) (ja_cons (je_var 1) (ja_cons (je_var 3) ja_nil))) (ja_cons (je_call (ok_L_words T) (hr.mono (by decide)) T.g_L_words T.F_L_words.kp (bi_L_words T) (let0 nox_def) (ja_cons (je_var 1) ja_nil)) ja_nil)))))
    (jss_cons (js_set 7 hN (je_meth0 T.k_Machine T.m_Machine_digest (ok_Machine_digest T) (hr.mono (by decide)) (bi_Machine_digest T) (let0 nox_def) (je_var 6)))
    (jss_cons (js_set 8 hN (je_lstS ja_nil))
    (jss_cons (js_set 9 hN (je_lstS ja_nil))
    (jss_cons (js_set 10 hN (je_lstS ja_nil))
    (jss_cons (js_for (passes_of rfl) rfl (ji_rng1 T.b_range (ja_cons (je_op o_add je_int (je_call (ok_L_draw T) (hr.mono (by decide)) T.g_L_draw T.F_L_draw.kp (bi_L_draw T) (let0 nox_def) (ja_cons (je_var 1) (ja_cons je_int ja_nil)))) ja_nil)) (jg_name 11 hN) (jss_cons (js_expr (je_lm PySem.F.slot_list_append PySem.F.type_list_append m_app (je_var 8) (ja_cons (je_tup (ja_cons (je_meth0 T.k_Machine T.m_Machine_registers (ok_Machine_registers T) (hr.mono (by decide)) (bi_Machine_registers T) (let0 nox_def) (je_var 6)) (ja_cons (je_meth0 T.k_Machine T.m_Machine_words (ok_Machine_words T) (hr.mono (by decide)) (bi_Machine_words T) (let0 nox_def) (je_var 6)) ja_nil))) ja_nil)))
    (jss_cons (js_expr (je_lm PySem.F.slot_list_append PySem.F.type_list_append m_app (je_var 9) (ja_cons (je_call (ok_opened T) (hr.mono (by decide)) T.g_opened T.F_opened.kp (bi_opened T) (let0 nox_def) (ja_cons (je_var 6) ja_nil)) ja_nil)))
    (jss_cons (js_expr (je_lm PySem.F.slot_list_append PySem.F.type_list_append m_app (je_var 10) (ja_cons (je_var 7) ja_nil)))
    (jss_cons (js_set 7 hN (je_call (ok_step_of T) (hr.mono (by decide)) T.g_step_of T.F_step_of.kp (bi_step_of T) (letX (passes_call (takes_of rfl rfl rfl rfl) (fun _ _ _ _ h => h))) (ja_cons (je_var 5) (ja_cons (je_var 7) (ja_cons (je_ix (je_var 9) (je_un u_neg je_int)) ja_nil)))))
    (jss_cons (js_expr (je_meth0 T.k_Machine T.m_Machine_step (ok_Machine_step T) (hr.mono (by decide)) (bi_Machine_step T) (let0 nox_def) (je_var 6)))
    (jss_one (js_if (jt_w (jw_or (jt_cmp (o_ne (room65 hr)) (je_var 7) (je_meth0 T.k_Machine T.m_Machine_digest (ok_Machine_digest T) (hr.mono (by decide)) (bi_Machine_digest T) (let0 nox_def) (je_var 6)) (nomark _)) (jw_or1 (jt_w (jw_and (jt_cmp (o_ne (room65 hr)) (je_ix (je_ix (je_ix (je_var 8) (je_un u_neg je_int)) je_int) je_int) je_int (nomark _)) (jw_and1 (jt_cmp (o_ne (room65 hr)) (je_var 7) (je_ix (je_var 10) (je_un u_neg je_int)) (nomark _)))))))) (jss_one (js_ret je_bl)) jss_nil))))))))
    (jss_cons (js_for (passes_of rfl) rfl (ji_rng1 T.b_range (ja_cons je_int ja_nil)) (jg_name 11 hN) (jss_cons (js_set 12 hN (je_call (ok_L_draw T) (hr.mono (by decide)) T.g_L_draw T.F_L_draw.kp (bi_L_draw T) (let0 nox_def) (ja_cons (je_var 1) (ja_cons (je_callB c_len T.b_len PySem.boot_len (ja_cons (je_var 10) ja_nil)) ja_nil))))
    (jss_cons (js_set 13 hN (je_call (ok_L_draw T) (hr.mono (by decide)) T.g_L_draw T.F_L_draw.kp (bi_L_draw T) (let0 nox_def) (ja_cons (je_var 1) (ja_cons (je_callB c_len T.b_len PySem.boot_len (ja_cons (je_var 10) ja_nil)) ja_nil))))
    (jss_cons (js_set 14 hN (je_call (ok_L_taken T) (hr.mono (by decide)) T.g_L_taken T.F_L_taken.kp (bi_L_taken T) (let0 nox_def) (ja_cons (je_var 5) (ja_cons (je_ix (je_var 10) (je_var 12)) (ja_cons (je_ix (je_var 9) (je_var 13)) ja_nil)))))
    (jss_cons (js_if (jt_cmp (o_ne (room65 hr)) (je_var 14) (je_cmp (o_eq (room65 hr)) (je_ix (je_var 10) (je_var 12)) (je_ix (je_var 10) (je_var 13)) (nomark _)) (nomark _)) (jss_one (js_ret je_bl)) jss_nil)
    (jss_one (js_if (jt_w (jw_and (jt_tru (je_var 14)) (jw_and (jt_cmp (o_ne (room65 hr)) (je_ix (je_var 8) (je_var 12)) (je_ix (je_var 8) (je_var 13)) (nomark _)) (jw_and1 (jt_not (jt_tru (je_meth0 T.k_Book T.m_Book_has_collision (ok_Book_has_collision T) (hr.mono (by decide)) (bi_Book_has_collision T) (let0 nox_def) (je_var 4)))))))) (jss_one (js_ret je_bl)) jss_nil)))))))
    (jss_one (js_ret je_bl))))))))))))))
end

end Gn
namespace Gn
open PySem L2 Mi
theorem gd_lt {α : Type} {l : List α} {n : Nat} {d : α} (h : n < l.length) : l.getD n d = l[n] := by simp [List.getD, h]
theorem gd_ge {α : Type} {l : List α} {n : Nat} {d : α} (h : l.length ≤ n) : l.getD n d = d := by simp [List.getD, h]
theorem nd_inj {α : Type} {l : List α} (h : l.Nodup) {i j : Nat} {hi : i < l.length} {hj : j < l.length} (e : l[i] = l[j]) : i = j := by
  have p := List.pairwise_iff_getElem.mp h
  rcases Nat.lt_trichotomy i j with c | c | c
  · exact absurd e (p i j hi hj c)
  · exact c
  · exact absurd e.symm (p j i hj hi c)
theorem take_foldl {α β : Type} (f : β → α → β) (b : β) (xs : List α) (k : Nat) (x : α) (h : xs[k]? = some x) : (xs.take (k + 1)).foldl f b = f ((xs.take k).foldl f b) x := by
  have hk := (List.getElem?_eq_some_iff.mp h).1
  have e := (List.getElem?_eq_some_iff.mp h).2
  rw [List.take_succ, h]
  simp
def Word (x : Int) : Prop := 0 ≤ x ∧ x < 65536
/-! ### digests -/
def DigOb (m : Int) (o : Ob) : Prop := ∃ b : Int, o = .ins 0 [("_bits", .int b), ("_modulus", .int m), ("_book", .non)]
def DigAt (m : Int) (st : Sto) (j : Nat) : Prop := ∃ o, st[j]? = some o ∧ DigOb m o
def leafN (m w : Int) : Int := (48271 * w + 11) % m
def foldN (m x y : Int) : Int := (y * y + 3 * x + 7 * y + 1 + (69621 * x + 16807 * y + 5) * (69621 * x + 16807 * y + 5)) % m
theorem mo_small (x y : Int) (h : x.natAbs < 18446744073709551616) : mulOk x y = true := by simp [h]
theorem mo_big (x : Int) (h0 : 0 ≤ x) (h : x < 1267650600228229401496703205376) : mulOk x x = true := by
  have e : x.natAbs.log2 < 101 := by
    by_cases hz : x.natAbs = 0
    · rw [hz]; decide
    · exact (Nat.log2_lt (k := 101) hz).mpr (by omega)
  simp
  omega
section
variable {m : Int} {st : Sto} {j : Nat} (hm : 0 < m) (hm1 : m < 18446744073709551616) (h : DigAt m st j)
include hm h
theorem t_kept (k t : W) (x : Int) : m_Digests_kept [.ref j, k, t, .int x] st = .ok (.int (x % m)) st := by
  obtain ⟨_, ho, b, rfl⟩ := h
  obtain ⟨hi, hg⟩ := List.getElem?_eq_some_iff.mp ho
  have l1 : List.lookup (Str.ofString "_modulus") [(Str.ofString "_bits", W.int b), (Str.ofString "_modulus", W.int m), (Str.ofString "_book", W.non)] = some (W.int m) := rfl
  have l2 : List.lookup (Str.ofString "_book") [(Str.ofString "_bits", W.int b), (Str.ofString "_modulus", W.int m), (Str.ofString "_book", W.non)] = some W.non := rfl
  simp only [m_Digests_kept, b_Digests_kept]
  simp [hi, hg, l1, l2, hm]
include hm1
theorem t_fold (x y : Int) (hx : 0 ≤ x ∧ x < m) (hy : 0 ≤ y ∧ y < m) : m_Digests_fold [.ref j, .int x, .int y] st = .ok (.int (foldN m x y)) st := by
  have hk := fun k t x => t_kept hm h k t x
  obtain ⟨_, ho, b, rfl⟩ := h
  obtain ⟨hi, hg⟩ := List.getElem?_eq_some_iff.mp ho
  have l3 : List.lookup (Str.ofString "_kept") [(Str.ofString "_bits", W.int b), (Str.ofString "_modulus", W.int m), (Str.ofString "_book", W.non)] = none := rfl
  have o1 : ∀ z, mulOk 69621 z = true := fun z => mo_small _ _ (by decide)
  have o2 : ∀ z, mulOk 16807 z = true := fun z => mo_small _ _ (by decide)
  have o3 : ∀ z, mulOk 3 z = true := fun z => mo_small _ _ (by decide)
  have o4 : ∀ z, mulOk 7 z = true := fun z => mo_small _ _ (by decide)
  have o5 : mulOk y y = true := mo_small _ _ (by omega)
  have o6 := mo_big (69621 * x + 16807 * y + 5) (by omega) (by omega)
  have s2 : (2 : Nat) ≤ sizeLine := by decide
  simp only [m_Digests_fold, b_Digests_fold]
  simp [-mulOk, hi, hg, l3, hk, foldN, o1, o2, o3, o4, o5, o6, s2]
end
theorem DigAt.app {m : Int} {j : Nat} {s t : Sto} (h : DigAt m s j) : DigAt m (s ++ t) j := by
  obtain ⟨o, h1, h2⟩ := h
  exact ⟨o, by rw [List.getElem?_append_left (List.getElem?_eq_some_iff.mp h1).1]; exact h1, h2⟩
theorem DigAt.sm {m : Int} {i j : Nat} {s t : Sto} (h : DigAt m s j) (hij : j ≠ i) (k : Sm i s t) : DigAt m t j := by
  obtain ⟨o, h1, h2⟩ := h
  exact ⟨o, by rw [k.2.1 j hij]; exact h1, h2⟩
theorem DigAt.only {m : Int} {j : Nat} {A : List Nat} {s t : Sto} (h : DigAt m s j) (k : Only A s t) (hj : j ∉ A) : DigAt m t j := by
  obtain ⟨o, h1, h2⟩ := h
  exact ⟨o, k.rd h1 hj, h2⟩
theorem t_make (S : Sto) (b : Nat) (hb : b ≤ 61) : m_Digests_init [.ref S.length, .int (b : Int), .non] (S ++ [.ins 0 []]) = .ok .non (S ++ [.ins 0 [("_bits", .int (b : Int)), ("_modulus", .int (2 ^ b - 1)), ("_book", .non)]]) := by
  have h1 : (0 : Int) ≤ b := by omega
  have h2 : (b : Int) ≤ 1000000 := by omega
  simp only [m_Digests_init, b_Digests_init]
  simp [h1, h2, putW]
end Gn

namespace Gn
open PySem L2 Mi
/-! ### the memory's tree -/
def In (m x : Int) : Prop := 0 ≤ x ∧ x < m
theorem in_fold {m : Int} (hm : 0 < m) (x y : Int) : In m (foldN m x y) := ⟨Int.emod_nonneg _ (by omega), Int.emod_lt_of_pos _ hm⟩
theorem in_leaf {m : Int} (hm : 0 < m) (x : Int) : In m (leafN m x) := ⟨Int.emod_nonneg _ (by omega), Int.emod_lt_of_pos _ hm⟩
theorem getD_in {m : Int} (hm : 0 < m) {row : List Int} (h : ∀ x ∈ row, In m x) (p : Nat) : In m (gt row p) := by
  by_cases hp : p < row.length
  · have e : gt row p = row[p] := by simp [gt, List.getD, hp]
    rw [e]; exact h _ (List.getElem_mem hp)
  · have e : gt row p = 0 := by simp [gt, List.getD, hp]
    rw [e]; exact ⟨by omega, hm⟩
theorem atI_ints (row : List Int) (p : Nat) (hp : p < row.length) : atI (row.map W.int) (p : Int) = some (.int (gt row p)) := by
  refine atI_nn (by omega) ?_
  simp [gt, hp, List.getD]
section
variable {m : Int} {st : Sto} {j a : Nat} {row : List Int} (hm : 0 < m) (hm1 : m < 18446744073709551616) (hD : DigAt m st j) (ha : st[a]? = some (.lst (row.map W.int))) (hr : ∀ x ∈ row, In m x)
include hm hm1 hD ha hr
theorem t_e0 (p : Nat) (hp : p + 1 < row.length) (u : List (Option W)) : e0_folded (some (.ref j) :: some (.ref a) :: some (.int (p : Int)) :: u) st = .ok (.int (foldN m (gt row p) (gt row (p + 1)))) st := by
  have f := t_fold hm hm1 hD (gt row p) (gt row (p + 1)) (getD_in hm hr p) (getD_in hm hr (p + 1))
  have at1 := atI_ints row p (by omega)
  have at2 : atI (row.map W.int) ((p : Int) + 1) = some (.int (gt row (p + 1))) := atI_ints row (p + 1) hp
  obtain ⟨_, ho, b, rfl⟩ := hD
  obtain ⟨hi, hg⟩ := List.getElem?_eq_some_iff.mp ho
  obtain ⟨hai, hag⟩ := List.getElem?_eq_some_iff.mp ha
  have l4 : List.lookup (Str.ofString "fold") [(Str.ofString "_bits", W.int b), (Str.ofString "_modulus", W.int m), (Str.ofString "_book", W.non)] = none := rfl
  simp [e0_folded, hi, hg, l4, hai, hag, at1, at2, f]
theorem t_folded (n : Nat) (hn : row.length = 2 * n) (h1 : Builtin.Range.small 0 (row.length : Int) 2 = true) (h2 : Builtin.Range.rangeSize 0 (row.length : Int) 2 = (n : Int)) (hz : n ≤ 1000) :
    m_folded [.ref j, .ref a] st = .ok (.ref st.length) (st ++ [.lst ((prs (foldN m) row).map W.int)]) := by
  have e := lc_vals (ws := (List.range n).map fun k => W.int (0 + (k : Nat) * 2)) (g := NT.m (.nm 2)) (t := mYes) (e := e0_folded) (s := [some (.ref j), some (.ref a), none]) (st := st) (fun _ => true)
    (fun w => match w with | .int p => .int (foldN m (gt row p.toNat) (gt row (p.toNat + 1))) | w => w) (by simp [sizeLine_eq]; omega) (fun w hw => by
      simp only [List.mem_map, List.mem_range] at hw
      obtain ⟨k, hk, rfl⟩ := hw
      refine ⟨[some (.ref j), some (.ref a), some (.int (0 + (k : Nat) * 2))], rfl, rfl, fun _ => ?_⟩
      have ek : (0 : Int) + (k : Nat) * 2 = ((2 * k : Nat) : Int) := by omega
      rw [ek]
      exact t_e0 hm hm1 hD ha hr (2 * k) (by omega) [])
  have ep : (((List.range n).map fun k => W.int (0 + (k : Nat) * 2)).filter fun _ => true).map (fun w => match w with | .int p => W.int (foldN m (gt row p.toNat) (gt row (p.toNat + 1))) | w => w) = (prs (foldN m) row).map W.int := by
    have hl : row.length / 2 = n := by omega
    have hf : ∀ l : List W, (l.filter fun _ => true) = l := fun l => List.filter_eq_self.mpr fun _ _ => rfl
    rw [hf]
    simp only [prs, hl, List.map_map]
    refine List.map_congr_left fun k hk => ?_
    have ek : ((0 : Int) + (k : Nat) * 2).toNat = 2 * k := by omega
    simp only [Function.comp, ek]
  rw [ep] at e
  simp only [List.length_map, List.length_range] at e
  obtain ⟨hai, hag⟩ := List.getElem?_eq_some_iff.mp ha
  have h3 : (0 : Int) ≤ (n : Int) := by omega
  simp only [m_folded, b_folded]
  simp [hai, hag, h1, h2, wipeW]
  simp at e
  simp [e]
end
end Gn

namespace Gn
open PySem L2 Mi
/-! ### roots by paths -/
def rbS (m : Int) (q : Nat × Int) (x : Int) : Nat × Int := (q.1 / 2, if q.1 % 2 = 0 then foldN m q.2 x else foldN m x q.2)
def rootB (m : Int) (p : Nat) (d : Int) (ps : List Int) : Int := (ps.foldl (rbS m) (p, d)).2
theorem rbS_in {m : Int} (hm : 0 < m) : ∀ (ps : List Int) (q : Nat × Int), In m q.2 → In m (ps.foldl (rbS m) q).2
  | [], q, h => h
  | x :: ps, q, h => rbS_in hm ps _ (by unfold rbS; simp only []; split <;> exact in_fold hm _ _)
section
variable {m : Int} {j : Nat} {st : Sto} (hm : 0 < m) (hm1 : m < 18446744073709551616) (hD : DigAt m st j)
include hm hm1 hD
theorem t_rootby (p : Nat) (d : Int) (ps : List Int) (hd : In m d) (hp : ∀ x ∈ ps, In m x) : m_root_by [.ref j, .int (p : Int), .int d, .tup (ps.map W.int)] st = .ok (.int (rootB m p d ps)) st := by
  obtain ⟨s8, t8, hlp, ⟨x, rfl⟩, ht8⟩ := loop_st (ws := ps.map W.int) (g := mGN 5) (n := ps.length) (s := [some (.ref j), some (.int (p : Int)), some (.int d), some (.tup (ps.map W.int)), some (.int d), none]) (st := st) (body := l0_root_by) (by simp)
    (fun k s t => (∃ x : Option W, s = [some (.ref j), some (.int ((((ps.take k).foldl (rbS m) (p, d)).1 : Nat) : Int)), some (.int d), some (.tup (ps.map W.int)), some (.int ((ps.take k).foldl (rbS m) (p, d)).2), x]) ∧ t = st)
    ⟨⟨none, by simp⟩, rfl⟩ (by
      rintro k w s t hw ⟨⟨x, rfl⟩, rfl⟩
      rw [List.getElem?_map, Option.map_eq_some_iff] at hw
      obtain ⟨y, hy, rfl⟩ := hw
      refine ⟨_, _, rfl, ?_⟩
      have e := take_foldl (rbS m) (p, d) ps k y hy
      have hin := rbS_in hm (ps.take k) (p, d) hd
      have hyi := hp y (List.mem_of_getElem? hy)
      rw [e]
      generalize (ps.take k).foldl (rbS m) (p, d) = q at hin ⊢
      obtain ⟨q1, q2⟩ := q
      simp only at hin
      have f1 := t_fold hm hm1 hD q2 y hin hyi
      have f2 := t_fold hm hm1 hD y q2 hyi hin
      obtain ⟨_, ho, bb, rfl⟩ := hD
      have l2 : (2 : Nat).log2 < 9000 := by decide
      have hh : (q1 : Int) / 2 = ((q1 / 2 : Nat) : Int) := by omega
      simp only [mGN, List.set, rbS]
      by_cases h : q1 % 2 = 0
      · have h' : (q1 : Int) % 2 = 0 := by omega
        simp [l0_root_by, h, h', ho, f1, l2]
      · have h' : ¬ (q1 : Int) % 2 = 0 := by omega
        simp [l0_root_by, h, h', ho, f2, l2])
  rw [List.take_length] at hlp
  have ht8' := ht8.symm
  subst ht8'
  refine def_rt rfl ?_
  show b_root_by [some (.ref j), some (.int (p : Int)), some (.int d), some (.tup (ps.map W.int)), none, none] st = _
  unfold b_root_by
  refine seq_nx (by simp; exact ⟨rfl, rfl⟩) ?_
  refine seq_nx (mFor_vals (ws := ps.map W.int) rfl (by simp) hlp) ?_
  simp [rootB]
end
end Gn

namespace Gn
open PySem L2 Mi
/-! ### texts, books -/
inductive Txt where
  | one (i : Int) | many (ns : List Int)
  deriving DecidableEq
def Txt.w : Txt → W
  | .one i => .int i | .many ns => .tup (ns.map W.int)
def Txt.d : Txt → PyData
  | .one i => .int i | .many ns => .tuple (ns.map PyData.int)
theorem Txt.py (t : Txt) : toPy t.w = some t.d := by cases t <;> simp [Txt.w, Txt.d]
theorem Txt.pyS (t : Txt) (st : Sto) : toPyS t.w st = some t.d := by cases t <;> simp [Txt.w, Txt.d]
theorem Txt.pys : ∀ ts : List Txt, toPys (ts.map Txt.w) = some (ts.map Txt.d)
  | [] => rfl
  | t :: ts => by simp [toPys, Txt.py, Txt.pys ts]
theorem Txt.lay (t : Txt) : t.d.canLay0 = true := by cases t <;> simp [Txt.d, lay_ints]
theorem Txt.dep (t : Txt) : t.d.depth ≤ 1 := by cases t <;> simp [Txt.d, dep_ints]
theorem Txt.lays : ∀ ts : List Txt, PyData.canLayAll0 (ts.map Txt.d) = true
  | [] => by simp
  | t :: ts => by simp [Txt.lay, Txt.lays ts]
theorem Txt.deps : ∀ ts : List Txt, PyData.depthAll (ts.map Txt.d) ≤ 1
  | [] => by simp
  | t :: ts => by
    have h1 := Txt.dep t
    have h2 := Txt.deps ts
    simp
    omega
theorem Txt.shaped (t : Txt) : SeqAt.shaped t.d = true := by
  have h := Txt.lay t
  have h2 := Txt.dep t
  simp [SeqAt.shaped, h]
  omega
theorem Txt.eqv (a b : Txt) : PyData.eqv a.d b.d = decide (a = b) := by
  cases a <;> cases b <;> simp [Txt.d, eqvA_ints, PyData.eqv]
theorem Txt.any (t : Txt) (ts : List Txt) : (ts.map Txt.d).any (fun z => PyData.eqv z t.d) = decide (t ∈ ts) := by
  induction ts with
  | nil => simp
  | cons n ns ih =>
    rw [List.map_cons, List.any_cons, ih, Txt.eqv]
    by_cases h1 : t = n <;> by_cases h2 : t ∈ ns <;> simp [h1, h2, eq_comm]
theorem isIn_txt (t : Txt) (ts : List Txt) (st : Sto) (l : Nat) (h : st[l]? = some (.lst (ts.map Txt.w))) : isIn t.w (.ref l) st = some (decide (t ∈ ts)) := by
  have e1 := Txt.pyS t st
  have e2 : toPyS (.ref l) st = some (.list (ts.map Txt.d)) := by simp [h, Txt.pys]
  have s1 := Txt.shaped t
  have s2 : SeqAt.shaped (.list (ts.map Txt.d)) = true := by
    have := Txt.deps ts
    simp [Txt.lays]
    omega
  cases t with
  | one i =>
    simp only [Txt.w] at e1 ⊢
    simp only [isIn, e1, e2, s1, s2, and_self, if_true, Txt.any]
  | many ns =>
    simp only [Txt.w] at e1 ⊢
    simp only [isIn, e1, e2, s1, s2, and_self, if_true, Txt.any]
structure Ent where
  k : Str
  n : Int
  l : Nat
  ts : List Txt
def Ent.key (e : Ent) : List Key := [.inr e.k, .inl e.n]
def Ent.kv (e : Ent) : List Key × W := (e.key, .ref e.l)
structure Bk (st : Sto) (bk T : Nat) (es : List Ent) (c : Bool) (n : Nat) : Prop where
  ob : st[bk]? = some (.ins 1 [("_texts", .ref T), ("_collision", .bl c)])
  dt : st[T]? = some (.dT (es.map Ent.kv))
  tx : ∀ e ∈ es, st[e.l]? = some (.lst (e.ts.map Txt.w))
  nk : (es.map Ent.key).Nodup
  nl : (es.map Ent.l).Nodup
  nt : ∀ e ∈ es, e.ts.Nodup ∧ e.ts ≠ []
  co : c = es.any fun e => decide (1 < e.ts.length)
  sz : es.length ≤ n ∧ ∀ e ∈ es, e.ts.length ≤ n
def Told (es : List Ent) (k : Str) (d : Int) (t : Txt) : Prop := ∃ e ∈ es, e.k = k ∧ e.n = d ∧ t ∈ e.ts
def fpB (bk T : Nat) (es : List Ent) : List Nat := bk :: T :: es.map Ent.l
theorem valE (k : Str) (d : Int) : ∀ es : List Ent, valW (es.map Ent.kv) [.inr k, .inl d] = (es.find? fun e => decide (e.key = [.inr k, .inl d])).map fun e => .ref e.l
  | [] => rfl
  | e :: es => by
    have ih := valE k d es
    unfold valW at ih ⊢
    rw [List.map_cons, List.find?_cons, List.find?_cons]
    show Option.map _ (match decide (e.key = [.inr k, .inl d]) with | true => some e.kv | false => _) = _
    cases h : decide (e.key = [.inr k, .inl d]) with
    | true => rfl
    | false => exact ih
/-- what a call of Book.add leaves -/
structure Added (st st' : Sto) (bk T : Nat) (es es' : List Ent) (c' : Bool) (n : Nat) (k : Str) (d : Int) (t : Txt) : Prop where
  inv : Bk st' bk T es' c' (n + 1)
  only : Only (fpB bk T es) st st'
  grow : ∀ i ∈ fpB bk T es', i ∈ fpB bk T es ∨ st.length ≤ i
  told : ∀ k' d' t', Told es' k' d' t' ↔ Told es k' d' t' ∨ (k' = k ∧ d' = d ∧ t' = t)
theorem gE {α : Type} {l : List α} {i : Nat} {x : α} (h : l[i]? = some x) : ∃ hi : i < l.length, l[i] = x := List.getElem?_eq_some_iff.mp h
def addS : MS := (mIfS (mTest (mOp mNotIn (mVar 2) (mVar 4))) (mSeq (mDrop (mLM mApp (mVar 4) (mCons (mVar 2) mNil)))
  (mSetF 1 "_collision" (mVar 0) (mOrV (mFld 1 "_collision" (mVar 0)) (mOp mGt (mCB mLen (mCons (mVar 4) mNil)) (mC (W.int 1)))))) mSkip)
theorem t_tail {S : Sto} {bk T l : Nat} {c : Bool} {ts : List Txt} (k : Str) (d : Int) (t : Txt) (hb : S[bk]? = some (.ins 1 [("_texts", .ref T), ("_collision", .bl c)])) (hl : S[l]? = some (.lst (ts.map Txt.w))) (hz : ts.length < 1000000) :
    addS [some (.ref bk), some (.str k), some t.w, some (.int d), some (.ref l)] S = .nx [some (.ref bk), some (.str k), some t.w, some (.int d), some (.ref l)]
      (if t ∈ ts then S else (S.set l (Ob.lst ((ts ++ [t]).map Txt.w))).set bk (.ins 1 [("_texts", .ref T), ("_collision", .bl (c || decide (1 < ts.length + 1)))])) := by
  have z := isIn_txt t ts S l hl
  obtain ⟨ib, gb⟩ := gE hb
  obtain ⟨il, gl⟩ := gE hl
  have hbl : bk ≠ l := fun e => by subst e; rw [gb] at gl; cases gl
  have z1 : ts.length < 16777216 := by omega
  have z2 : ((ts.length : Int) + 1 > 1) = (0 < ts.length) := by apply propext; omega
  by_cases h : t ∈ ts
  · rw [if_pos h]
    rw [decide_eq_true h] at z
    simp [addS, -isIn, z]
  · rw [if_neg h]
    rw [decide_eq_false h] at z
    cases c with
    | true => simp [addS, -isIn, z, gl, il, z1, sizeLine_eq, hbl, hbl.symm, ib, gb, putW]
    | false => simp [addS, -isIn, z, gl, il, z1, sizeLine_eq, hbl, hbl.symm, ib, gb, putW, z2]
end Gn

namespace Gn
open PySem L2 Mi
theorem key_eq {k k' : Str} {d d' : Int} (h : ([.inr k, .inl d] : List Key) = [.inr k', .inl d']) : k = k' ∧ d = d' := by
  simp only [List.cons.injEq, Sum.inr.injEq, Sum.inl.injEq, and_true] at h
  exact h
theorem t_add_new {st : Sto} {bk T : Nat} {es : List Ent} {c : Bool} {n : Nat} (B : Bk st bk T es c n) (hn : n < 999999) (k : Str) (d : Int) (t : Txt)
    (hf : es.find? (fun e => decide (e.key = [.inr k, .inl d])) = none) :
    ∃ st' es' c', m_Book_add [.ref bk, .str k, t.w, .int d] st = .ok .non st' ∧ Added st st' bk T es es' c' n k d t ∧ (c = true → c' = true) := by
  refine ⟨((st ++ [Ob.lst [t.w]]).set T (.dT ((es ++ [Ent.mk k d st.length [t]]).map Ent.kv))).set bk (.ins 1 [("_texts", .ref T), ("_collision", .bl c)]), es ++ [Ent.mk k d st.length [t]], c, ?_, ?_, fun h => h⟩
  · obtain ⟨hb, gb⟩ := gE B.ob
    obtain ⟨hT, gT⟩ := gE B.dt
    have hbT : bk ≠ T := fun e => by subst e; rw [gb] at gT; cases gT
    have hv := valE k d es
    rw [hf] at hv
    have hsz := B.sz.1
    have l1 : es.length < 16777216 := by omega
    have hput : putKW (es.map Ent.kv) [.inr k, .inl d] (.ref st.length) = (es ++ [Ent.mk k d st.length [t]]).map Ent.kv := by
      have h0 : ((es.map Ent.kv).any fun kv => decide (kv.1 = ([.inr k, .inl d] : List Key))) = false := by
        rw [List.any_map, List.any_eq_false]
        intro e he
        exact List.find?_eq_none.mp hf e he
      unfold putKW
      rw [h0]
      simp [Ent.kv, Ent.key]
    have hTl : T ≠ st.length := by omega
    have hbl : bk ≠ st.length := by omega
    refine def_nx (s' := [some (.ref bk), some (.str k), some t.w, some (.int d), some (.ref st.length)]) rfl ?_
    show b_Book_add [some (.ref bk), some (.str k), some t.w, some (.int d), none] st = _
    unfold b_Book_add
    refine seq_nx (s1 := [some (.ref bk), some (.str k), some t.w, some (.int d), some (.ref st.length)]) (st1 := (st ++ [Ob.lst []]).set T (.dT ((es ++ [Ent.mk k d st.length [t]]).map Ent.kv))) ?_ ?_
    · simp [gb, gT, hb, hT, l1, sizeLine_eq, hv, hput, -List.map_append]
    · have g1 : ((st ++ [Ob.lst []]).set T (.dT ((es ++ [Ent.mk k d st.length [t]]).map Ent.kv)))[st.length]? = some (.lst (([] : List Txt).map Txt.w)) := by
        rw [List.getElem?_set_ne hTl]; simp
      have g2 : ((st ++ [Ob.lst []]).set T (.dT ((es ++ [Ent.mk k d st.length [t]]).map Ent.kv)))[bk]? = some (.ins 1 [("_texts", .ref T), ("_collision", .bl c)]) := by
        rw [List.getElem?_set_ne hbT.symm, List.getElem?_append_left hb]; exact B.ob
      refine (t_tail k d t g2 g1 (by simp)).trans ?_
      rw [if_neg (by simp)]
      congr 1
      have e1 : ((st ++ [Ob.lst []]).set T (.dT ((es ++ [Ent.mk k d st.length [t]]).map Ent.kv))).set st.length (Ob.lst (([] ++ [t] : List Txt).map Txt.w)) = (st ++ [Ob.lst [t.w]]).set T (.dT ((es ++ [Ent.mk k d st.length [t]]).map Ent.kv)) := by
        rw [List.set_comm _ _ hTl]
        simp
      rw [e1]
      simp
  · obtain ⟨hb, gb⟩ := gE B.ob
    obtain ⟨hT, gT⟩ := gE B.dt
    have hbT : bk ≠ T := fun e => by subst e; rw [gb] at gT; cases gT
    have hlb : ∀ e ∈ es, e.l < st.length ∧ e.l ≠ bk ∧ e.l ≠ T := fun e he => by
      obtain ⟨h1, h2⟩ := gE (B.tx e he)
      refine ⟨h1, fun z => ?_, fun z => ?_⟩
      · have q := B.tx e he
        rw [z, B.ob] at q; cases q
      · have q := B.tx e he
        rw [z, B.dt] at q; cases q
    refine ⟨⟨?_, ?_, ?_, ?_, ?_, ?_, ?_, ?_⟩, ?_, ?_, ?_⟩
    · rw [List.getElem?_set_self (by simp; omega)]
    · rw [List.getElem?_set_ne hbT, List.getElem?_set_self (by simp; omega)]
    · intro e he
      rcases List.mem_append.mp he with he | he
      · obtain ⟨h1, h2, h3⟩ := hlb e he
        rw [List.getElem?_set_ne h2.symm, List.getElem?_set_ne h3.symm, List.getElem?_append_left h1]
        exact B.tx e he
      · cases List.mem_singleton.mp he
        show (((st ++ [Ob.lst [t.w]]).set T _).set bk _)[st.length]? = _
        rw [List.getElem?_set_ne (by omega), List.getElem?_set_ne (by omega)]
        simp
    · rw [List.map_append, List.nodup_append]
      refine ⟨B.nk, by simp, fun a ha b hb' => ?_⟩
      obtain ⟨e, he, rfl⟩ := List.mem_map.mp ha
      have := List.find?_eq_none.mp hf e he
      simp at hb'
      subst hb'
      simpa [Ent.key] using this
    · rw [List.map_append, List.nodup_append]
      refine ⟨B.nl, by simp, fun a ha b hb' => ?_⟩
      obtain ⟨e, he, rfl⟩ := List.mem_map.mp ha
      simp at hb'
      subst hb'
      have := (hlb e he).1
      omega
    · intro e he
      rcases List.mem_append.mp he with he | he
      · exact B.nt e he
      · cases List.mem_singleton.mp he
        simp
    · rw [List.any_append, ← B.co]
      simp
    · refine ⟨by simp; exact B.sz.1, fun e he => ?_⟩
      rcases List.mem_append.mp he with he | he
      · have := B.sz.2 e he; omega
      · cases List.mem_singleton.mp he
        simp
    · refine ⟨by simp, fun i hi hni => ?_⟩
      have n1 : bk ≠ i := fun e => hni (by simp [fpB, e])
      have n2 : T ≠ i := fun e => hni (by simp [fpB, e])
      rw [List.getElem?_set_ne n1, List.getElem?_set_ne n2, List.getElem?_append_left hi]
    · intro i hi
      simp only [fpB, List.map_append, List.mem_cons, List.mem_append, List.map_cons, List.map_nil, List.not_mem_nil, or_false] at hi ⊢
      rcases hi with h | h | h | h
      · exact .inl (.inl h)
      · exact .inl (.inr (.inl h))
      · exact .inl (.inr (.inr h))
      · exact .inr (by rw [h]; exact Nat.le_refl _)
    · intro k' d' t'
      unfold Told
      constructor
      · rintro ⟨e, he, h1, h2, h3⟩
        rcases List.mem_append.mp he with he | he
        · exact .inl ⟨e, he, h1, h2, h3⟩
        · cases List.mem_singleton.mp he
          exact .inr ⟨h1.symm, h2.symm, by simpa using h3⟩
      · rintro (⟨e, he, h⟩ | ⟨rfl, rfl, rfl⟩)
        · exact ⟨e, List.mem_append_left _ he, h⟩
        · exact ⟨_, List.mem_append_right _ (List.mem_singleton.mpr rfl), rfl, rfl, by simp⟩
end Gn

namespace Gn
open PySem L2 Mi
theorem nodup_inj {α β : Type} (f : α → β) : ∀ {l : List α}, (l.map f).Nodup → ∀ {a b : α}, a ∈ l → b ∈ l → f a = f b → a = b
  | [], _, _, _, h, _, _ => by cases h
  | x :: l, hn, a, b, ha, hb, e => by
    rw [List.map_cons, List.nodup_cons] at hn
    rcases List.mem_cons.mp ha with rfl | ha'
    · rcases List.mem_cons.mp hb with rfl | hb'
      · rfl
      · exact absurd (List.mem_map.mpr ⟨b, hb', e.symm⟩) hn.1
    · rcases List.mem_cons.mp hb with rfl | hb'
      · exact absurd (List.mem_map.mpr ⟨a, ha', e⟩) hn.1
      · exact nodup_inj f hn.2 ha' hb' e
/-- the entry e with one text more -/
def moreE (e0 : Ent) (t : Txt) (e : Ent) : Ent := if e.key = e0.key then Ent.mk e.k e.n e.l (e.ts ++ [t]) else e
theorem moreE_key (e0 : Ent) (t : Txt) (e : Ent) : (moreE e0 t e).key = e.key := by unfold moreE; split <;> rfl
theorem moreE_l (e0 : Ent) (t : Txt) (e : Ent) : (moreE e0 t e).l = e.l := by unfold moreE; split <;> rfl
theorem moreE_kv (e0 : Ent) (t : Txt) (e : Ent) : (moreE e0 t e).kv = e.kv := by unfold moreE; split <;> rfl
theorem t_add_old {st : Sto} {bk T : Nat} {es : List Ent} {c : Bool} {n : Nat} (B : Bk st bk T es c n) (hn : n < 999999) (k : Str) (d : Int) (t : Txt) (e0 : Ent)
    (hf : es.find? (fun e => decide (e.key = [.inr k, .inl d])) = some e0) :
    ∃ st' es' c', m_Book_add [.ref bk, .str k, t.w, .int d] st = .ok .non st' ∧ Added st st' bk T es es' c' n k d t ∧ (c = true → c' = true) := by
  have hm : e0 ∈ es := List.mem_of_find?_eq_some hf
  have hk : e0.key = [.inr k, .inl d] := by have := List.find?_some hf; simpa using this
  obtain ⟨hk1, hk2⟩ : e0.k = k ∧ e0.n = d := key_eq hk
  obtain ⟨hb, gb⟩ := gE B.ob
  obtain ⟨hT, gT⟩ := gE B.dt
  have hbT : bk ≠ T := fun e => by subst e; rw [gb] at gT; cases gT
  have hlb : ∀ e ∈ es, e.l < st.length ∧ e.l ≠ bk ∧ e.l ≠ T := fun e he => by
    obtain ⟨h1, h2⟩ := gE (B.tx e he)
    refine ⟨h1, fun z => ?_, fun z => ?_⟩
    · have q := B.tx e he
      rw [z, B.ob] at q; cases q
    · have q := B.tx e he
      rw [z, B.dt] at q; cases q
  have hv := valE k d es
  rw [hf] at hv
  have hsz := B.sz.1
  have hszt := B.sz.2 e0 hm
  have l1 : es.length < 16777216 := by omega
  have run : m_Book_add [.ref bk, .str k, t.w, .int d] st = .ok .non (if t ∈ e0.ts then st else (st.set e0.l (Ob.lst ((e0.ts ++ [t]).map Txt.w))).set bk (.ins 1 [("_texts", .ref T), ("_collision", .bl (c || decide (1 < e0.ts.length + 1)))])) := by
    refine def_nx (s' := [some (.ref bk), some (.str k), some t.w, some (.int d), some (.ref e0.l)]) rfl ?_
    show b_Book_add [some (.ref bk), some (.str k), some t.w, some (.int d), none] st = _
    unfold b_Book_add
    refine seq_nx (s1 := [some (.ref bk), some (.str k), some t.w, some (.int d), some (.ref e0.l)]) (st1 := st) ?_ ?_
    · simp [gb, gT, hb, hT, l1, sizeLine_eq, hv]
    · exact t_tail k d t B.ob (B.tx e0 hm) (by omega)
  by_cases h : t ∈ e0.ts
  · rw [if_pos h] at run
    refine ⟨st, es, c, run, ⟨⟨B.ob, B.dt, B.tx, B.nk, B.nl, B.nt, B.co, by have := B.sz.1; omega, fun e he => by have := B.sz.2 e he; omega⟩, Only.refl _ _, fun i hi => .inl hi, fun k' d' t' => ⟨.inl, ?_⟩⟩, fun h => h⟩
    rintro (h' | ⟨rfl, rfl, rfl⟩)
    · exact h'
    · exact ⟨e0, hm, hk1, hk2, h⟩
  · rw [if_neg h] at run
    have hne := (B.nt e0 hm).2
    have hpos : 1 < e0.ts.length + 1 := by have := List.length_pos_iff.mpr hne; omega
    rw [decide_eq_true hpos, Bool.or_true] at run
    refine ⟨_, es.map (moreE e0 t), true, run, ?_, fun _ => rfl⟩
    obtain ⟨hl1, hl2, hl3⟩ := hlb e0 hm
    have hsame : ∀ e ∈ es, e.key = e0.key → e = e0 := fun e he q => nodup_inj Ent.key B.nk he hm q
    have hother : ∀ e ∈ es, e.key ≠ e0.key → e.l ≠ e0.l := fun e he q z => q (by rw [nodup_inj Ent.l B.nl he hm z])
    have mk : (es.map (moreE e0 t)).map Ent.key = es.map Ent.key := by rw [List.map_map]; exact List.map_congr_left fun e _ => moreE_key e0 t e
    have ml : (es.map (moreE e0 t)).map Ent.l = es.map Ent.l := by rw [List.map_map]; exact List.map_congr_left fun e _ => moreE_l e0 t e
    have mv : (es.map (moreE e0 t)).map Ent.kv = es.map Ent.kv := by rw [List.map_map]; exact List.map_congr_left fun e _ => moreE_kv e0 t e
    have z1 : moreE e0 t e0 = Ent.mk e0.k e0.n e0.l (e0.ts ++ [t]) := if_pos rfl
    have zm : moreE e0 t e0 ∈ es.map (moreE e0 t) := List.mem_map.mpr ⟨e0, hm, rfl⟩
    refine ⟨⟨?_, ?_, ?_, by rw [mk]; exact B.nk, by rw [ml]; exact B.nl, ?_, ?_, ?_⟩, ?_, ?_, ?_⟩
    · rw [List.getElem?_set_self (by simp; omega)]
    · rw [List.getElem?_set_ne hbT, List.getElem?_set_ne hl3, mv]; exact B.dt
    · intro e he
      obtain ⟨e1, he1, rfl⟩ := List.mem_map.mp he
      obtain ⟨q1, q2, q3⟩ := hlb e1 he1
      rw [moreE_l, List.getElem?_set_ne q2.symm]
      by_cases q : e1.key = e0.key
      · have := hsame e1 he1 q
        subst this
        rw [List.getElem?_set_self q1, z1]
      · rw [List.getElem?_set_ne (hother e1 he1 q).symm]
        have : moreE e0 t e1 = e1 := if_neg q
        rw [this]
        exact B.tx e1 he1
    · intro e he
      obtain ⟨e1, he1, rfl⟩ := List.mem_map.mp he
      unfold moreE
      split
      · rename_i q
        have := hsame e1 he1 q
        subst this
        refine ⟨?_, by simp⟩
        show (e1.ts ++ [t]).Nodup
        rw [List.nodup_append]
        exact ⟨(B.nt e1 he1).1, by simp, fun a ha b hb' => by simp at hb'; subst hb'; intro z; subst z; exact h ha⟩
      · exact B.nt e1 he1
    · symm
      rw [List.any_eq_true]
      refine ⟨_, zm, ?_⟩
      rw [z1]
      simp
      omega
    · refine ⟨by simp; have := B.sz.1; omega, fun e he => ?_⟩
      obtain ⟨e1, he1, rfl⟩ := List.mem_map.mp he
      have := B.sz.2 e1 he1
      unfold moreE
      split
      · simp; omega
      · omega
    · refine ⟨by simp, fun i hi hni => ?_⟩
      have n1 : bk ≠ i := fun e => hni (by simp [fpB, e])
      have n2 : e0.l ≠ i := fun e => hni (by rw [← e]; exact List.mem_cons_of_mem _ (List.mem_cons_of_mem _ (List.mem_map.mpr ⟨e0, hm, rfl⟩)))
      rw [List.getElem?_set_ne n1, List.getElem?_set_ne n2]
    · intro i hi
      unfold fpB at hi ⊢
      rw [ml] at hi
      exact .inl hi
    · intro k' d' t'
      unfold Told
      constructor
      · rintro ⟨e, he, h1, h2, h3⟩
        obtain ⟨e1, he1, rfl⟩ := List.mem_map.mp he
        by_cases q : e1.key = e0.key
        · have := hsame e1 he1 q
          subst this
          rw [z1] at h1 h2 h3
          rcases List.mem_append.mp h3 with h3 | h3
          · exact .inl ⟨e1, he1, h1, h2, h3⟩
          · exact .inr ⟨h1.symm.trans hk1, h2.symm.trans hk2, by simpa using h3⟩
        · have z : moreE e0 t e1 = e1 := if_neg q
          rw [z] at h1 h2 h3
          exact .inl ⟨e1, he1, h1, h2, h3⟩
      · rintro (⟨e, he, h1, h2, h3⟩ | ⟨rfl, rfl, rfl⟩)
        · refine ⟨_, List.mem_map.mpr ⟨e, he, rfl⟩, ?_⟩
          unfold moreE
          split
          · exact ⟨h1, h2, List.mem_append_left _ h3⟩
          · exact ⟨h1, h2, h3⟩
        · refine ⟨_, zm, ?_⟩
          rw [z1]
          exact ⟨hk1, hk2, by simp⟩
theorem t_add {st : Sto} {bk T : Nat} {es : List Ent} {c : Bool} {n : Nat} (B : Bk st bk T es c n) (hn : n < 999999) (k : Str) (d : Int) (t : Txt) :
    ∃ st' es' c', m_Book_add [.ref bk, .str k, t.w, .int d] st = .ok .non st' ∧ Added st st' bk T es es' c' n k d t ∧ (c = true → c' = true) := by
  cases hf : es.find? (fun e => decide (e.key = [.inr k, .inl d])) with
  | none => exact t_add_new B hn k d t hf
  | some e0 => exact t_add_old B hn k d t e0 hf
/-- no collision: one text for each digest -/
theorem Bk.one {st : Sto} {bk T : Nat} {es : List Ent} {n : Nat} (B : Bk st bk T es false n) {k : Str} {d : Int} {t u : Txt} (h1 : Told es k d t) (h2 : Told es k d u) : t = u := by
  obtain ⟨e, he, a1, a2, a3⟩ := h1
  obtain ⟨f, hf, b1, b2, b3⟩ := h2
  have hk : e.key = f.key := by unfold Ent.key; rw [a1, a2, b1, b2]
  have := nodup_inj Ent.key B.nk he hf hk
  subst this
  have hco := B.co.symm
  rw [List.any_eq_false] at hco
  have hl := hco e he
  simp at hl
  match hts : e.ts, a3, b3, hl with
  | [x], a3, b3, _ => rw [List.mem_singleton.mp a3, List.mem_singleton.mp b3]
  | _ :: _ :: _, _, _, hl => simp at hl
end Gn

namespace Gn
open PySem L2 Mi
/-! ### digests with a book -/
structure BS where
  es : List Ent
  c : Bool
  n : Nat
def DigB (m : Int) (st : Sto) (j bk T : Nat) (B : BS) : Prop := (∃ b : Int, st[j]? = some (.ins 0 [("_bits", .int b), ("_modulus", .int m), ("_book", .ref bk)])) ∧ Bk st bk T B.es B.c B.n
structure Go (m : Int) (j bk T : Nat) (st : Sto) (B : BS) (st' : Sto) (B' : BS) : Prop where
  inv : DigB m st' j bk T B'
  only : Only (fpB bk T B.es) st st'
  grow : ∀ i ∈ fpB bk T B'.es, i ∈ fpB bk T B.es ∨ st.length ≤ i
  mono : ∀ k d t, Told B.es k d t → Told B'.es k d t
  col : B.c = true → B'.c = true
section
variable {m : Int} {j bk T : Nat} {st st' st'' : Sto} {B B' B'' : BS}
theorem Go.refl (h : DigB m st j bk T B) : Go m j bk T st B st B := ⟨h, Only.refl _ _, fun i hi => .inl hi, fun _ _ _ h => h, fun h => h⟩
theorem Go.trans (a : Go m j bk T st B st' B') (b : Go m j bk T st' B' st'' B'') : Go m j bk T st B st'' B'' where
  inv := b.inv
  only := a.only.trans b.only fun i hi hl => (a.grow i hi).elim (fun x => x) fun x => by omega
  grow := fun i hi => (b.grow i hi).elim (fun x => a.grow i x) fun x => .inr (Nat.le_trans a.only.1 x)
  mono := fun k d t h => b.mono k d t (a.mono k d t h)
  col := fun h => b.col (a.col h)
theorem DigB.lt (h : DigB m st j bk T B) : ∀ i ∈ fpB bk T B.es, i < st.length := by
  intro i hi
  simp only [fpB, List.mem_cons, List.mem_map] at hi
  rcases hi with rfl | rfl | ⟨e, he, rfl⟩
  · exact (gE h.2.ob).1
  · exact (gE h.2.dt).1
  · exact (gE (h.2.tx e he)).1
theorem DigB.out (h : DigB m st j bk T B) : j ∉ fpB bk T B.es := by
  intro hi
  obtain ⟨b, hj⟩ := h.1
  simp only [fpB, List.mem_cons, List.mem_map] at hi
  rcases hi with rfl | rfl | ⟨e, he, rfl⟩
  · rw [h.2.ob] at hj; cases hj
  · rw [h.2.dt] at hj; cases hj
  · rw [h.2.tx e he] at hj; cases hj
theorem Go.safe (a : Go m j bk T st B st' B') {i : Nat} (hl : i < st.length) (hn : i ∉ fpB bk T B.es) : i ∉ fpB bk T B'.es ∧ st'[i]? = st[i]? :=
  ⟨fun z => (a.grow i z).elim hn fun x => by omega, a.only.2 i hl hn⟩
/-- a change elsewhere -/
theorem DigB.keep (h : DigB m st j bk T B) {A : List Nat} (k : Only A st st') (hA : ∀ i ∈ A, i ≠ j ∧ i ∉ fpB bk T B.es) : DigB m st' j bk T B := by
  have hb : bk ∉ A := fun z => (hA _ z).2 (by simp [fpB])
  have hT : T ∉ A := fun z => (hA _ z).2 (by simp [fpB])
  have hj : j ∉ A := fun z => (hA _ z).1 rfl
  obtain ⟨b, h1⟩ := h.1
  exact ⟨⟨b, k.rd h1 hj⟩, ⟨k.rd h.2.ob hb, k.rd h.2.dt hT, fun e he => k.rd (h.2.tx e he) fun z => (hA _ z).2 (by simp only [fpB, List.mem_cons, List.mem_map]; exact .inr (.inr ⟨e, he, rfl⟩)), h.2.nk, h.2.nl, h.2.nt, h.2.co, h.2.sz⟩⟩
theorem DigB.app (h : DigB m st j bk T B) (S : Sto) : DigB m (st ++ S) j bk T B := h.keep (Only.app [] st S) (by simp)
theorem Go.app (h : DigB m st j bk T B) (S : Sto) : Go m j bk T st B (st ++ S) B := ⟨h.app S, Only.app _ _ _, fun i hi => .inl hi, fun _ _ _ h => h, fun h => h⟩
theorem t_keptB (hm : 0 < m) (h : DigB m st j bk T B) (hn : B.n < 999999) (k : Str) (t : Txt) (x : Int) :
    ∃ st' B', m_Digests_kept [.ref j, .str k, t.w, .int x] st = .ok (.int (x % m)) st' ∧ Go m j bk T st B st' B' ∧ B'.n = B.n + 1 ∧ Told B'.es k (x % m) t := by
  have hout := h.out
  obtain ⟨⟨b, hj⟩, hB⟩ := h
  obtain ⟨st', es', c', e1, a, hc⟩ := t_add hB hn k (x % m) t
  refine ⟨st', ⟨es', c', B.n + 1⟩, ?_, ⟨⟨⟨b, a.only.rd hj hout⟩, a.inv⟩, a.only, a.grow, fun k' d' t' q => (a.told k' d' t').mpr (.inl q), hc⟩, rfl, (a.told _ _ _).mpr (.inr ⟨rfl, rfl, rfl⟩)⟩
  obtain ⟨hi, hg⟩ := gE hj
  have hbk := hB.ob
  refine def_rt rfl ?_
  show b_Digests_kept [some (.ref j), some (.str k), some t.w, some (.int x), none] st = _
  unfold b_Digests_kept
  refine seq_nx (s1 := [some (.ref j), some (.str k), some t.w, some (.int x), some (.int (x % m))]) (st1 := st) (by simp [hi, hg, hm]) ?_
  refine seq_nx (s1 := [some (.ref j), some (.str k), some t.w, some (.int x), some (.int (x % m))]) (st1 := st') ?_ ?_
  · obtain ⟨hbi, hbg⟩ := gE hbk
    simp [hi, hg, hbi, hbg, e1]
  · simp
theorem t_foldB (hm : 0 < m) (hm1 : m < 18446744073709551616) (h : DigB m st j bk T B) (hn : B.n < 999999) (x y : Int) (hx : 0 ≤ x ∧ x < m) (hy : 0 ≤ y ∧ y < m) :
    ∃ st' B', m_Digests_fold [.ref j, .int x, .int y] st = .ok (.int (foldN m x y)) st' ∧ Go m j bk T st B st' B' ∧ B'.n = B.n + 1 ∧ Told B'.es "fold" (foldN m x y) (.many [x, y]) := by
  obtain ⟨st', B', e1, g, hn', ht⟩ := t_keptB hm h hn "fold" (.many [x, y]) (y * y + 3 * x + 7 * y + 1 + (69621 * x + 16807 * y + 5) * (69621 * x + 16807 * y + 5))
  refine ⟨st', B', ?_, g, hn', ht⟩
  obtain ⟨b, hj⟩ := h.1
  obtain ⟨hi, hg⟩ := gE hj
  have o1 : ∀ z, mulOk 69621 z = true := fun z => mo_small _ _ (by decide)
  have o2 : ∀ z, mulOk 16807 z = true := fun z => mo_small _ _ (by decide)
  have o3 : ∀ z, mulOk 3 z = true := fun z => mo_small _ _ (by decide)
  have o4 : ∀ z, mulOk 7 z = true := fun z => mo_small _ _ (by decide)
  have o5 : mulOk y y = true := mo_small _ _ (by omega)
  have o6 := mo_big (69621 * x + 16807 * y + 5) (by omega) (by omega)
  have s2 : (2 : Nat) ≤ sizeLine := by decide
  simp only [Txt.w, List.map_cons, List.map_nil] at e1
  simp only [m_Digests_fold, b_Digests_fold]
  simp [-mulOk, hi, hg, foldN, o1, o2, o3, o4, o5, o6, s2, e1]
end
/-- a comprehension whose items change the store -/
theorem lc_inv {ws : List W} {g : MG} {e : ME} {s : Slo} (I : Nat → List W → Sto → Prop)
    (h : ∀ i w acc st, ws[i]? = some w → I i acc st → ∃ s2 y st', g w s st = some (s2, st) ∧ e s2 st = .ok y st' ∧ I (i + 1) (acc ++ [y]) st') :
    ∀ (k i : Nat) (acc : List W) (st : Sto), i + k = ws.length → acc.length + k ≤ sizeLine → I i acc st → ∃ ys st', mLcLoop (.vals ws) g mYes e s k i acc st = .ok ys st' ∧ I ws.length ys st'
  | 0, i, acc, st, hn, hl, hI => by
    have : i = ws.length := by omega
    subst this
    exact ⟨acc, st, by simp [mLcLoop, Src.fine], hI⟩
  | k + 1, i, acc, st, hn, hl, hI => by
    have hi : i < ws.length := by omega
    obtain ⟨s2, y, st1, hg, he, h1⟩ := h i ws[i] acc st (List.getElem?_eq_getElem hi) hI
    obtain ⟨ys, st2, e2, h2⟩ := lc_inv I h k (i + 1) (acc ++ [y]) st1 (by omega) (by simp; omega) h1
    refine ⟨ys, st2, ?_, h2⟩
    have ht : mYes s2 st = .ok true st := rfl
    simp only [mLcLoop, Src.fine, if_true, Src.at, List.getElem?_eq_getElem hi, hg, ht, he]
    rw [if_pos (by omega), e2]
end Gn

namespace Gn
open PySem L2 Mi
/-- what the book is told: kind, digest, text -/
abbrev Row := Str × Int × Txt
end Gn

namespace Gn
open PySem L2 Mi
/-! ### a run that tells the book just the rows L -/
def TR (es : List Ent) (r : Row) : Prop := Told es r.1 r.2.1 r.2.2
structure Gx (m : Int) (j bk T : Nat) (st : Sto) (B : BS) (st' : Sto) (B' : BS) (L : List Row) : Prop where
  inv : DigB m st' j bk T B'
  only : Only (fpB bk T B.es) st st'
  grow : ∀ i ∈ fpB bk T B'.es, i ∈ fpB bk T B.es ∨ st.length ≤ i
  told : ∀ r, TR B'.es r ↔ TR B.es r ∨ r ∈ L
  cnt : B'.n = B.n + L.length
  col : B.c = true → B'.c = true
section
variable {m : Int} {j bk T : Nat} {st st' st'' : Sto} {B B' B'' : BS} {L L' : List Row}
theorem Gx.go (h : Gx m j bk T st B st' B' L) : Go m j bk T st B st' B' := ⟨h.inv, h.only, h.grow, fun k d t q => (h.told (k, d, t)).mpr (.inl q), h.col⟩
theorem Gx.refl (h : DigB m st j bk T B) : Gx m j bk T st B st B [] := ⟨h, Only.refl _ _, fun i hi => .inl hi, fun r => by simp, rfl, fun h => h⟩
theorem Gx.trans (a : Gx m j bk T st B st' B' L) (b : Gx m j bk T st' B' st'' B'' L') : Gx m j bk T st B st'' B'' (L ++ L') where
  inv := b.inv
  only := (a.go.trans b.go).only
  grow := (a.go.trans b.go).grow
  told := fun r => by rw [b.told, a.told, List.mem_append, or_assoc]
  cnt := by rw [b.cnt, a.cnt, List.length_append]; omega
  col := fun h => b.col (a.col h)
theorem Gx.app (h : DigB m st j bk T B) (S : Sto) : Gx m j bk T st B (st ++ S) B [] := ⟨h.app S, Only.app _ _ _, fun i hi => .inl hi, fun r => by simp, rfl, fun h => h⟩
theorem t_keptX (hm : 0 < m) (h : DigB m st j bk T B) (hn : B.n < 999999) (k : Str) (t : Txt) (x : Int) :
    ∃ st' B', m_Digests_kept [.ref j, .str k, t.w, .int x] st = .ok (.int (x % m)) st' ∧ Gx m j bk T st B st' B' [(k, x % m, t)] := by
  have hout := h.out
  obtain ⟨⟨b, hj⟩, hB⟩ := h
  obtain ⟨st', es', c', e1, a, hc⟩ := t_add hB hn k (x % m) t
  refine ⟨st', ⟨es', c', B.n + 1⟩, ?_, ⟨⟨⟨b, a.only.rd hj hout⟩, a.inv⟩, a.only, a.grow, fun r => ?_, rfl, hc⟩⟩
  · obtain ⟨hi, hg⟩ := gE hj
    have hbk := hB.ob
    refine def_rt rfl ?_
    show b_Digests_kept [some (.ref j), some (.str k), some t.w, some (.int x), none] st = _
    unfold b_Digests_kept
    refine seq_nx (s1 := [some (.ref j), some (.str k), some t.w, some (.int x), some (.int (x % m))]) (st1 := st) (by simp [hi, hg, hm]) ?_
    refine seq_nx (s1 := [some (.ref j), some (.str k), some t.w, some (.int x), some (.int (x % m))]) (st1 := st') ?_ ?_
    · obtain ⟨hbi, hbg⟩ := gE hbk
      simp [hi, hg, hbi, hbg, e1]
    · simp
  · obtain ⟨k', d', t'⟩ := r
    unfold TR
    rw [a.told]
    simp
theorem t_leafX (hm : 0 < m) (h : DigB m st j bk T B) (hn : B.n < 999999) (w : Int) :
    ∃ st' B', m_Digests_leaf [.ref j, .int w] st = .ok (.int (leafN m w)) st' ∧ Gx m j bk T st B st' B' [("leaf", leafN m w, .one w)] := by
  obtain ⟨st', B', e1, g⟩ := t_keptX hm h hn "leaf" (.one w) (48271 * w + 11)
  refine ⟨st', B', ?_, g⟩
  obtain ⟨b, hj⟩ := h.1
  obtain ⟨hi, hg⟩ := gE hj
  simp only [Txt.w] at e1
  simp only [m_Digests_leaf, b_Digests_leaf]
  simp [hi, hg, leafN, e1]
theorem t_foldX (hm : 0 < m) (hm1 : m < 18446744073709551616) (h : DigB m st j bk T B) (hn : B.n < 999999) (x y : Int) (hx : 0 ≤ x ∧ x < m) (hy : 0 ≤ y ∧ y < m) :
    ∃ st' B', m_Digests_fold [.ref j, .int x, .int y] st = .ok (.int (foldN m x y)) st' ∧ Gx m j bk T st B st' B' [("fold", foldN m x y, .many [x, y])] := by
  obtain ⟨st', B', e1, g⟩ := t_keptX hm h hn "fold" (.many [x, y]) (y * y + 3 * x + 7 * y + 1 + (69621 * x + 16807 * y + 5) * (69621 * x + 16807 * y + 5))
  refine ⟨st', B', ?_, g⟩
  obtain ⟨b, hj⟩ := h.1
  obtain ⟨hi, hg⟩ := gE hj
  have o1 : ∀ z, mulOk 69621 z = true := fun z => mo_small _ _ (by decide)
  have o2 : ∀ z, mulOk 16807 z = true := fun z => mo_small _ _ (by decide)
  have o3 : ∀ z, mulOk 3 z = true := fun z => mo_small _ _ (by decide)
  have o4 : ∀ z, mulOk 7 z = true := fun z => mo_small _ _ (by decide)
  have o5 : mulOk y y = true := mo_small _ _ (by omega)
  have o6 := mo_big (69621 * x + 16807 * y + 5) (by omega) (by omega)
  have s2 : (2 : Nat) ≤ sizeLine := by decide
  simp only [Txt.w, List.map_cons, List.map_nil] at e1
  simp only [m_Digests_fold, b_Digests_fold]
  simp [-mulOk, hi, hg, foldN, o1, o2, o3, o4, o5, o6, s2, e1]
end
end Gn

namespace Gn
open PySem L2 Mi
/-! ### roots by paths, with a book -/
def wayRow (m : Int) (q : Nat × Int) (x : Int) : Row := ("fold", (rbS m q x).2, .many (if q.1 % 2 = 0 then [q.2, x] else [x, q.2]))
def wayRows (m : Int) : Nat × Int → List Int → List Row
  | _, [] => []
  | q, x :: xs => wayRow m q x :: wayRows m (rbS m q x) xs
theorem wayRows_snoc (m : Int) (x : Int) : ∀ (xs : List Int) (q : Nat × Int), wayRows m q (xs ++ [x]) = wayRows m q xs ++ [wayRow m (xs.foldl (rbS m) q) x]
  | [], q => rfl
  | y :: xs, q => by simp only [List.cons_append, wayRows, wayRows_snoc m x xs, List.foldl_cons]
theorem wayRows_len (m : Int) : ∀ (xs : List Int) (q : Nat × Int), (wayRows m q xs).length = xs.length
  | [], q => rfl
  | y :: xs, q => by simp only [wayRows, List.length_cons, wayRows_len m xs]
theorem take_snoc {α : Type} {xs : List α} {k : Nat} {x : α} (h : xs[k]? = some x) : xs.take (k + 1) = xs.take k ++ [x] := by rw [List.take_succ, h]; rfl
section
variable {m : Int} {j bk T : Nat} (hm : 0 < m) (hm1 : m < 18446744073709551616)
include hm hm1
theorem t_rootbyX {st : Sto} {B : BS} (hD : DigB m st j bk T B) (p : Nat) (d : Int) (ps : List Int) (hB : B.n + ps.length < 900000) (hd : In m d) (hp : ∀ x ∈ ps, In m x) :
    ∃ st' B', m_root_by [.ref j, .int (p : Int), .int d, .tup (ps.map W.int)] st = .ok (.int (rootB m p d ps)) st' ∧ Gx m j bk T st B st' B' (wayRows m (p, d) ps) := by
  obtain ⟨s8, t8, hlp, ⟨x, rfl⟩, B8, g8⟩ := loop_st (ws := ps.map W.int) (g := mGN 5) (n := ps.length) (s := [some (.ref j), some (.int (p : Int)), some (.int d), some (.tup (ps.map W.int)), some (.int d), none]) (st := st) (body := l0_root_by) (by simp)
    (fun k s t => (∃ x : Option W, s = [some (.ref j), some (.int ((((ps.take k).foldl (rbS m) (p, d)).1 : Nat) : Int)), some (.int d), some (.tup (ps.map W.int)), some (.int ((ps.take k).foldl (rbS m) (p, d)).2), x]) ∧ ∃ B', Gx m j bk T st B t B' (wayRows m (p, d) (ps.take k)))
    ⟨⟨none, by simp⟩, B, Gx.refl hD⟩ (by
      rintro k w s t hw ⟨⟨x, rfl⟩, Bk, g⟩
      rw [List.getElem?_map, Option.map_eq_some_iff] at hw
      obtain ⟨y, hy, rfl⟩ := hw
      refine ⟨_, _, rfl, ?_⟩
      have e := take_foldl (rbS m) (p, d) ps k y hy
      have hin := rbS_in hm (ps.take k) (p, d) hd
      have hyi := hp y (List.mem_of_getElem? hy)
      have hBk : Bk.n < 999999 := by
        have h1 := g.cnt
        rw [wayRows_len, List.length_take] at h1
        omega
      rw [e, take_snoc hy, wayRows_snoc]
      generalize (ps.take k).foldl (rbS m) (p, d) = q at hin ⊢
      obtain ⟨q1, q2⟩ := q
      simp only at hin
      obtain ⟨b, ho⟩ := g.inv.1
      have l2 : (2 : Nat).log2 < 9000 := by decide
      have hh : (q1 : Int) / 2 = ((q1 / 2 : Nat) : Int) := by omega
      simp only [mGN, List.set]
      by_cases h : q1 % 2 = 0
      · have h' : (q1 : Int) % 2 = 0 := by omega
        obtain ⟨st1, B1, f1, g1⟩ := t_foldX hm hm1 g.inv hBk q2 y hin hyi
        have z := g.trans g1
        simp [l0_root_by, h, h', ho, f1, l2, rbS]
        refine ⟨B1, ?_⟩
        simp only [wayRow, rbS, h, if_true]
        exact z
      · have h' : ¬ (q1 : Int) % 2 = 0 := by omega
        obtain ⟨st1, B1, f1, g1⟩ := t_foldX hm hm1 g.inv hBk y q2 hyi hin
        have z := g.trans g1
        simp [l0_root_by, h, h', ho, f1, l2, rbS]
        refine ⟨B1, ?_⟩
        simp only [wayRow, rbS, h, if_false]
        exact z)
  rw [List.take_length] at hlp g8
  refine ⟨t8, B8, ?_, g8⟩
  refine def_rt rfl ?_
  show b_root_by [some (.ref j), some (.int (p : Int)), some (.int d), some (.tup (ps.map W.int)), none, none] st = _
  unfold b_root_by
  refine seq_nx (by simp; exact ⟨rfl, rfl⟩) ?_
  refine seq_nx (mFor_vals (ws := ps.map W.int) rfl (by simp) hlp) ?_
  simp [rootB]
end
end Gn

namespace Gn
open PySem L2 Mi
/-! ### a memory made -/
def ad (L i : Nat) : Nat := if i = 0 then L + 2 else L + 3 + i
theorem ad_inj {L i k : Nat} (h : ad L i = ad L k) : i = k := by unfold ad at h; split at h <;> split at h <;> omega
theorem ad_ne {L i : Nat} : ad L i ≠ L ∧ ad L i ≠ L + 1 ∧ ad L i ≠ L + 3 := by unfold ad; split <;> omega
theorem last_map {α : Type} (g : Nat → α) (k : Nat) : atI ((List.range (k + 1)).map g) (-1) = some (g k) := by
  have h : ixN ((List.range (k + 1)).map g).length (-1) = some k := by
    simp only [ixN, List.length_map, List.length_range]
    rw [if_neg (by omega), if_pos (by omega)]
    congr 1
    omega
  rw [atI, h]
  simp
abbrev memF (j w r : Nat) : Fl := [("_digests", .ref j), ("_words", .ref w), ("_rows", .ref r)]
/-- a memory in the making: rows 0 to k stand -/
structure MemK (m : Int) (S : Sto) (j : Nat) (words : List Int) (k : Nat) (st : Sto) : Prop where
  pre : ∃ T, st = S ++ T ∧ T.length = 4 + k
  ob : st[S.length]? = some (.ins 2 (memF j (S.length + 1) (S.length + 3)))
  wo : st[S.length + 1]? = some (.lst (words.map W.int))
  ro : st[S.length + 3]? = some (.lst ((List.range (k + 1)).map fun i => W.ref (ad S.length i)))
  rw : ∀ i, i ≤ k → st[ad S.length i]? = some (.lst ((lev (foldN m) (words.map (leafN m)) i).map W.int))
theorem app_lt {α : Type} {s t : List α} {i : Nat} {x : α} (h : s[i]? = some x) : (s ++ t)[i]? = some x := by
  rw [List.getElem?_append_left (List.getElem?_eq_some_iff.mp h).1]; exact h
theorem pow_sm : ∀ k, k < 8 → Builtin.Range.small 0 ((256 / 2 ^ k : Nat) : Int) 2 = true ∧ Builtin.Range.rangeSize 0 ((256 / 2 ^ k : Nat) : Int) 2 = ((256 / 2 ^ (k + 1) : Nat) : Int) ∧ 256 / 2 ^ k = 2 * (256 / 2 ^ (k + 1)) ∧ 1 < 256 / 2 ^ k ∧ 256 / 2 ^ (k + 1) ≤ 1000 := by decide
section
variable {m : Int} {S : Sto} {j : Nat} {words : List Int} (hm : 0 < m) (hm1 : m < 18446744073709551616) (hl : words.length = 256)
include hm hm1 hl
theorem lev_ok (k : Nat) : (lev (foldN m) (words.map (leafN m)) k).length = 256 / 2 ^ k ∧ ∀ x ∈ lev (foldN m) (words.map (leafN m)) k, In m x := by
  refine ⟨by rw [lev_len, List.length_map, hl], lev_in _ _ _ (fun x y _ _ => in_fold hm x y) (fun x hx => ?_) k⟩
  simp only [List.mem_map] at hx
  obtain ⟨y, _, rfl⟩ := hx
  exact in_leaf hm y
theorem t_memtest (k : Nat) (st : Sto) (h : MemK m S j words k st) (v w u : Option W) : t1_Memory_init [some (.ref S.length), v, w, u] st = .ok (decide (1 < 256 / 2 ^ k)) st := by
  obtain ⟨hi, hg⟩ := List.getElem?_eq_some_iff.mp h.ob
  obtain ⟨hri, hrg⟩ := List.getElem?_eq_some_iff.mp h.ro
  obtain ⟨hki, hkg⟩ := List.getElem?_eq_some_iff.mp (h.rw k (Nat.le_refl _))
  have l1 : List.lookup (Str.ofString "_rows") [(Str.ofString "_digests", W.ref j), (Str.ofString "_words", W.ref (S.length + 1)), (Str.ofString "_rows", W.ref (S.length + 3))] = some (W.ref (S.length + 3)) := rfl
  have la := last_map (fun i => W.ref (ad S.length i)) k
  have hlen := (lev_ok hm hm1 hl k).1
  generalize 256 / 2 ^ k = q at hlen ⊢
  have e : decide ((1 : Int) < (q : Int)) = decide (1 < q) := decide_eq_decide.mpr (by omega)
  simp only [t1_Memory_init]
  simp [hi, hg, l1, hri, hrg, la, hki, hkg, hlen, e]
theorem t_memstep (k : Nat) (hk : k < 8) (st : Sto) (hD : DigAt m st j) (h : MemK m S j words k st) (w u : Option W) : ∃ st', l2_Memory_init [some (.ref S.length), some (.ref j), w, u] st = .nx [some (.ref S.length), some (.ref j), w, u] st' ∧ MemK m S j words (k + 1) st' := by
  obtain ⟨hi, hg⟩ := List.getElem?_eq_some_iff.mp h.ob
  obtain ⟨hri, hrg⟩ := List.getElem?_eq_some_iff.mp h.ro
  obtain ⟨p1, p2, p3, p4, p5⟩ := pow_sm k hk
  obtain ⟨q1, q2⟩ := lev_ok hm hm1 hl (words := words) k
  have l1 : List.lookup (Str.ofString "_rows") [(Str.ofString "_digests", W.ref j), (Str.ofString "_words", W.ref (S.length + 1)), (Str.ofString "_rows", W.ref (S.length + 3))] = some (W.ref (S.length + 3)) := rfl
  have la := last_map (fun i => W.ref (ad S.length i)) k
  have hf := t_folded hm hm1 hD (h.rw k (Nat.le_refl _)) q2 (256 / 2 ^ (k + 1)) (by rw [q1, p3]) (by rw [q1]; exact p1) (by rw [q1]; exact p2) p5
  obtain ⟨T, hT, hTl⟩ := h.pre
  have hst : st.length = S.length + 4 + k := by rw [hT, List.length_append, hTl]; omega
  have had : ad S.length (k + 1) = st.length := by unfold ad; rw [if_neg (by omega), hst]; omega
  have hri2 : S.length + 3 < st.length + 1 := by omega
  have hrg2 := app_lt (t := [Ob.lst ((prs (foldN m) (lev (foldN m) (words.map (leafN m)) k)).map W.int)]) h.ro
  obtain ⟨hri3, hrg3⟩ := List.getElem?_eq_some_iff.mp hrg2
  have sl : k + 1 < sizeLine := by rw [sizeLine_eq]; omega
  have l0 : List.lookup (Str.ofString "_digests") [(Str.ofString "_digests", W.ref j), (Str.ofString "_words", W.ref (S.length + 1)), (Str.ofString "_rows", W.ref (S.length + 3))] = some (W.ref j) := rfl
  refine ⟨(st ++ [Ob.lst ((prs (foldN m) (lev (foldN m) (words.map (leafN m)) k)).map W.int)]).set (S.length + 3) (Ob.lst ((List.range (k + 1)).map (fun i => W.ref (ad S.length i)) ++ [W.ref st.length])), ?_, ?_, ?_, ?_, ?_, ?_⟩
  · simp only [l2_Memory_init]
    simp [hi, hg, l0, l1, hri, hrg, la, hf, hri2, hrg3, sl]
  · refine ⟨(T ++ [Ob.lst ((prs (foldN m) (lev (foldN m) (words.map (leafN m)) k)).map W.int)]).set 3 (Ob.lst ((List.range (k + 1)).map (fun i => W.ref (ad S.length i)) ++ [W.ref st.length])), ?_, by simp [hTl]; omega⟩
    have e3 : S.length + 3 - S.length = 3 := by omega
    generalize Ob.lst ((List.range (k + 1)).map (fun i => W.ref (ad S.length i)) ++ [W.ref st.length]) = Z
    rw [hT, List.append_assoc, List.set_append_right _ _ (by omega), e3]
  · rw [List.getElem?_set_ne (by omega)]; exact app_lt h.ob
  · rw [List.getElem?_set_ne (by omega)]; exact app_lt h.wo
  · rw [List.getElem?_set_self (by simp; omega), List.range_succ (n := k + 1), List.map_append, ← had]
    rfl
  · intro i hik
    rw [List.getElem?_set_ne (Ne.symm (ad_ne).2.2)]
    rcases Nat.lt_or_ge i (k + 1) with h1 | h1
    · exact app_lt (h.rw i (by omega))
    · have e : i = k + 1 := by omega
      subst e
      rw [had]
      simp [lev]
end
end Gn

namespace Gn
open PySem L2 Mi
section
variable {m : Int} {st : Sto} {j : Nat} (hm : 0 < m) (h : DigAt m st j)
include hm h
theorem t_leaf (w : Int) : m_Digests_leaf [.ref j, .int w] st = .ok (.int (leafN m w)) st := by
  have hk := fun k t x => t_kept hm h k t x
  obtain ⟨_, ho, b, rfl⟩ := h
  obtain ⟨hi, hg⟩ := List.getElem?_eq_some_iff.mp ho
  have l3 : List.lookup (Str.ofString "_kept") [(Str.ofString "_bits", W.int b), (Str.ofString "_modulus", W.int m), (Str.ofString "_book", W.non)] = none := rfl
  simp only [m_Digests_leaf, b_Digests_leaf]
  simp [hi, hg, l3, hk, leafN]
end
end Gn

namespace Gn
open PySem L2 Mi
section
variable {m : Int} {S : Sto} {j : Nat} {words : List Int} (hm : 0 < m) (hm1 : m < 18446744073709551616) (hl : words.length = 256) (hDS : DigAt m S j)
include hm hm1 hl hDS
theorem t_memloop (w u : Option W) : ∀ (n k : Nat) (st : Sto), k + n = 8 → MemK m S j words k st →
    ∃ st', mWhileN t1_Memory_init l2_Memory_init (n + 1) [some (.ref S.length), some (.ref j), w, u] st = .nx [some (.ref S.length), some (.ref j), w, u] st' ∧ MemK m S j words 8 st'
  | 0, k, st, e, h => by
    have e8 : k = 8 := by omega
    subst e8
    have ht := t_memtest hm hm1 hl 8 st h (some (.ref j)) w u
    refine ⟨st, ?_, h⟩
    simp only [mWhileN, ht]
    rfl
  | n + 1, k, st, e, h => by
    have ht := t_memtest hm hm1 hl k st h (some (.ref j)) w u
    obtain ⟨T, hT, _⟩ := h.pre
    have hD : DigAt m st j := by rw [hT]; exact hDS.app
    obtain ⟨st1, hs, h1⟩ := t_memstep hm hm1 hl k (by omega) st hD h w u
    obtain ⟨st2, h2, h3⟩ := t_memloop w u n (k + 1) st1 (by omega) h1
    have hp : decide (1 < 256 / 2 ^ k) = true := decide_eq_true (pow_sm k (by omega)).2.2.2.1
    rw [hp] at ht
    refine ⟨st2, ?_, h3⟩
    rw [mWhileN]
    simp only [ht, Out.run, if_true, hs]
    exact h2
theorem t_e0m (st : Sto) (hD : DigAt m st j) (v w : Option W) (x : Int) : e0_Memory_init [v, some (.ref j), w, some (.int x)] st = .ok (.int (leafN m x)) st := by
  have f := t_leaf hm hD x
  obtain ⟨_, ho, b, rfl⟩ := hD
  obtain ⟨hi, hg⟩ := List.getElem?_eq_some_iff.mp ho
  have l4 : List.lookup (Str.ofString "leaf") [(Str.ofString "_bits", W.int b), (Str.ofString "_modulus", W.int m), (Str.ofString "_book", W.non)] = none := rfl
  simp [e0_Memory_init, hi, hg, l4, f]
theorem t_meminit : ∃ st', m_Memory_init [.ref S.length, .ref j, .tup (words.map W.int)] (S ++ [.ins 2 []]) = .ok .non st' ∧ MemK m S j words 8 st' := by
  have e1 : (S ++ [Ob.ins 2 [("_digests", .ref j), ("_words", .ref (S.length + 1))], Ob.lst (words.map W.int)])[S.length + 1]? = some (.lst (words.map W.int)) := by rw [List.getElem?_append_right (by omega)]; simp
  have hlc := lc_cell_at (c := S.length + 1) (n := 256) (g := NT.m (.nm 3)) (t := mYes) (e := e0_Memory_init) (s := [some (.ref S.length), some (.ref j), some (.tup (words.map W.int)), none]) (st := S ++ [Ob.ins 2 [("_digests", .ref j), ("_words", .ref (S.length + 1))], Ob.lst (words.map W.int)]) (fun _ => true)
    (fun w => match w with | .int x => .int (leafN m x) | w => w) e1 (by simpa using hl) (fun w hw => by
      simp only [List.mem_map] at hw
      obtain ⟨x, _, rfl⟩ := hw
      exact ⟨[some (.ref S.length), some (.ref j), some (.tup (words.map W.int)), some (.int x)], rfl, rfl, fun _ => t_e0m hm hm1 hl hDS _ hDS.app _ _ x⟩) 256 0 [] (by simpa using hl.symm) (by simp [sizeLine_eq])
  rw [List.drop_zero, filter_yes, List.map_map, List.nil_append] at hlc
  have em : ((fun w => match w with | .int x => W.int (leafN m x) | w => w) ∘ W.int) = W.int ∘ leafN m := rfl
  rw [em, ← List.map_map] at hlc
  have base : MemK m S j words 0 (S ++ [Ob.ins 2 (memF j (S.length + 1) (S.length + 3)), .lst (words.map W.int), .lst ((words.map (leafN m)).map W.int), .lst [.ref (S.length + 2)]]) := by
    refine ⟨⟨_, rfl, rfl⟩, by simp, ?_, ?_, fun i hi => ?_⟩
    · rw [List.getElem?_append_right (by omega)]; simp
    · rw [List.getElem?_append_right (by omega)]; simp [ad, List.range_succ]
    · have : i = 0 := by omega
      subst this
      rw [List.getElem?_append_right (by simp [ad])]; simp [ad, lev]
  obtain ⟨st', hw, h8⟩ := t_memloop hm hm1 hl hDS (some (.tup (words.map W.int))) none 8 0 _ (by omega) base
  refine ⟨st', ?_, h8⟩
  clear base
  generalize (words.map (leafN m)).map W.int = row0 at hlc hw
  have s256 : (256 : Nat) ≤ sizeLine := by decide
  have s0 : (0 : Nat) ≤ sizeLine := by decide
  have s2 : (1 : Nat) ≤ sizeLine := by decide
  have l0 : List.lookup (Str.ofString "_words") [(Str.ofString "_digests", W.ref j), (Str.ofString "_words", W.ref (S.length + 1))] = some (W.ref (S.length + 1)) := rfl
  simp only [m_Memory_init, b_Memory_init, w_PLACES]
  have lc : ∀ c n, (Src.cell c n).len = n := fun _ _ => rfl
  simp [putW, hl, s256, s0, s2, l0, wipeW, lc, hlc, hw]
end
end Gn

namespace Gn
open PySem L2 Mi
/-! ### a memory changed -/
abbrev lv (m : Int) (words : List Int) (k : Nat) : List Int := lev (foldN m) (words.map (leafN m)) k
structure MemAt (m : Int) (j e w r : Nat) (rs : List Nat) (words : List Int) (st : Sto) : Prop where
  ob : st[e]? = some (Ob.ins 2 (memF j w r))
  wo : st[w]? = some (Ob.lst (words.map W.int))
  ro : st[r]? = some (Ob.lst (rs.map W.ref))
  rl : rs.length = 9
  rw : ∀ k a, rs[k]? = some a → st[a]? = some (Ob.lst ((lv m words k).map W.int))
  nd : (e :: w :: r :: rs).Nodup
  wl : words.length = 256
theorem nd_at {rs : List Nat} (h : rs.Nodup) {i k a b : Nat} (hi : rs[i]? = some a) (hk : rs[k]? = some b) (hn : i ≠ k) : a ≠ b := by
  rintro rfl
  obtain ⟨l1, e1⟩ := List.getElem?_eq_some_iff.mp hi
  obtain ⟨l2, e2⟩ := List.getElem?_eq_some_iff.mp hk
  exact hn (nd_inj h (e1.trans e2.symm))
/-- rows below k are new, the others old -/
structure MidAt (m : Int) (j e w r : Nat) (rs : List Nat) (old new : List Int) (k : Nat) (st : Sto) : Prop where
  ob : st[e]? = some (Ob.ins 2 (memF j w r))
  wo : st[w]? = some (Ob.lst (new.map W.int))
  ro : st[r]? = some (Ob.lst (rs.map W.ref))
  rw : ∀ i a, rs[i]? = some a → st[a]? = some (Ob.lst ((lv m (if i < k then new else old) i).map W.int))
theorem lev_len2 (m : Int) (words : List Int) (hl : words.length = 256) (k : Nat) : (lv m words k).length = 256 / 2 ^ k := by rw [lev_len, List.length_map, hl]
theorem pow_dv : ∀ k, k < 9 → 2 ^ k ∣ 256 := by decide
section
variable {m : Int} {j e w r : Nat} {rs : List Nat} {old : List Int} {p : Nat} {v : Int} (hm : 0 < m) (hm1 : m < 18446744073709551616) (hrl : rs.length = 9) (hnd : (e :: w :: r :: rs).Nodup) (hl : old.length = 256) (hp : p < 256)
include hm hm1 hrl hnd hl hp
theorem t_chstep (k : Nat) (hk : k < 8) (a : Nat) (ha : rs[k]? = some a) (st : Sto) (hD : DigAt m st j) (hja : j ≠ a) (h : MidAt m j e w r rs old (old.set p v) k st) (u x : Option W) (vw : W) :
    l0_Memory_change [some (.ref e), some (.int ((p / 2 ^ k : Nat) : Int)), some vw, some (.int (gt (lv m (old.set p v) k) (p / 2 ^ k))), some (.ref a), x] st =
      .nx [some (.ref e), some (.int ((p / 2 ^ (k + 1) : Nat) : Int)), some vw, some (.int (gt (lv m (old.set p v) (k + 1)) (p / 2 ^ (k + 1)))), some (.ref a), some (.int ((2 * (p / 2 ^ k / 2) : Nat) : Int))] (st.set a (Ob.lst ((lv m (old.set p v) k).map W.int))) ∧
    MidAt m j e w r rs old (old.set p v) (k + 1) (st.set a (Ob.lst ((lv m (old.set p v) k).map W.int))) := by
  have hrow := h.rw k a ha
  rw [if_neg (Nat.lt_irrefl k)] at hrow
  have hq : p / 2 ^ k < 256 / 2 ^ k := Nat.div_lt_div_of_lt_of_dvd (pow_dv k (by omega)) hp
  obtain ⟨p1, p2, p3, p4, p5⟩ := pow_sm k hk
  have hll := lev_len2 m old hl k
  have hln := lev_len2 m (old.set p v) (by simpa using hl) k
  have hset : (lv m old k).set (p / 2 ^ k) (gt (lv m (old.set p v) k) (p / 2 ^ k)) = lv m (old.set p v) k := by
    have z := lev_set (foldN m) (old.map (leafN m)) p (leafN m v) (by simp [hl, hp]) k (by rw [List.length_map, hl]; exact pow_dv k (by omega))
    rw [← List.map_set] at z
    exact z.symm
  have hmap : ((lv m old k).map W.int).set (p / 2 ^ k) (W.int (gt (lv m (old.set p v) k) (p / 2 ^ k))) = (lv m (old.set p v) k).map W.int := by rw [← List.map_set, hset]
  have e2 : p / 2 ^ (k + 1) = p / 2 ^ k / 2 := by rw [Nat.div_div_eq_div_mul, Nat.pow_succ]
  have hin : ∀ x ∈ lv m (old.set p v) k, In m x := (lev_ok hm hm1 (words := old.set p v) (by simpa using hl) k).2
  have hnx : gt (lv m (old.set p v) (k + 1)) (p / 2 ^ (k + 1)) = foldN m (gt (lv m (old.set p v) k) (2 * (p / 2 ^ k / 2))) (gt (lv m (old.set p v) k) (2 * (p / 2 ^ k / 2) + 1)) := by
    rw [e2]
    exact prs_getD _ _ _ (by rw [hln]; omega)
  have hD' : DigAt m (st.set a (Ob.lst ((lv m (old.set p v) k).map W.int))) j := by
    obtain ⟨o, h1, h2⟩ := hD
    exact ⟨o, by rw [List.getElem?_set_ne (Ne.symm hja)]; exact h1, h2⟩
  have hf := t_fold hm hm1 hD' (gt (lv m (old.set p v) k) (2 * (p / 2 ^ k / 2))) (gt (lv m (old.set p v) k) (2 * (p / 2 ^ k / 2) + 1)) (getD_in hm hin _) (getD_in hm hin _)
  have at1 := atI_ints (lv m (old.set p v) k) (2 * (p / 2 ^ k / 2)) (by rw [hln]; omega)
  have at2 : atI ((lv m (old.set p v) k).map W.int) (((2 * (p / 2 ^ k / 2) : Nat) : Int) + 1) = some (.int (gt (lv m (old.set p v) k) (2 * (p / 2 ^ k / 2) + 1))) := atI_ints (lv m (old.set p v) k) (2 * (p / 2 ^ k / 2) + 1) (by rw [hln]; omega)
  have nds := List.nodup_cons.mp hnd
  have ndw := List.nodup_cons.mp nds.2
  have ndr := List.nodup_cons.mp ndw.2
  have ham : a ∈ rs := List.mem_of_getElem? ha
  have hea : e ≠ a := fun z => nds.1 (by rw [z]; simp [ham])
  have hwa : w ≠ a := fun z => ndw.1 (by rw [z]; simp [ham])
  have hra : r ≠ a := fun z => ndr.1 (by rw [z]; exact ham)
  refine ⟨?_, ⟨by rw [List.getElem?_set_ne (Ne.symm hea)]; exact h.ob, by rw [List.getElem?_set_ne (Ne.symm hwa)]; exact h.wo, by rw [List.getElem?_set_ne (Ne.symm hra)]; exact h.ro, fun i b hb => ?_⟩⟩
  · rw [hnx, e2]
    generalize hG : gt (lv m (old.set p v) k) (p / 2 ^ k) = g at hmap ⊢
    generalize hQ : p / 2 ^ k = q at *
    obtain ⟨hai, hag⟩ := List.getElem?_eq_some_iff.mp hrow
    obtain ⟨hei, heg⟩ := List.getElem?_eq_some_iff.mp h.ob
    have hix : ixN (256 / 2 ^ k) (q : Int) = some q := by
      simp only [ixN]
      rw [if_pos (by omega), if_pos (by omega), Int.toNat_natCast]
    have s1 : ((q : Int) - (q : Int) % 2) = ((2 * (q / 2) : Nat) : Int) := by omega
    have l2 : (2 : Nat).log2 < 9000 := by decide
    have s2 : (q : Int) / 2 = ((q / 2 : Nat) : Int) := by omega
    generalize 2 * (q / 2) = q2 at *
    have l0 : List.lookup (Str.ofString "_digests") [(Str.ofString "_digests", W.ref j), (Str.ofString "_words", W.ref w), (Str.ofString "_rows", W.ref r)] = some (W.ref j) := rfl
    obtain ⟨o, hDo, b, rfl⟩ := hD'
    obtain ⟨hji, hjg⟩ := List.getElem?_eq_some_iff.mp hDo
    have l4 : List.lookup (Str.ofString "fold") [(Str.ofString "_bits", W.int b), (Str.ofString "_modulus", W.int m), (Str.ofString "_book", W.non)] = none := rfl
    simp only [List.length_set] at hji
    have hjg2 : st[j] = Ob.ins 0 [("_bits", .int b), ("_modulus", .int m), ("_book", .non)] := by rw [List.getElem_set_ne (Ne.symm hja)] at hjg; exact hjg
    generalize (lv m (old.set p v) k).map W.int = R at *
    simp only [l0_Memory_change]
    have g1 : (st.set a (Ob.lst R))[e]? = some (Ob.ins 2 (memF j w r)) := by rw [List.getElem?_set_ne (Ne.symm hea)]; exact h.ob
    have g3 : (st.set a (Ob.lst R))[a]? = some (Ob.lst R) := by rw [List.getElem?_set_self hai]
    simp [hai, hag, hll, hix, hmap]
    generalize st.set a (Ob.lst R) = S2 at hDo hf g1 g3 ⊢
    simp [g1, g3, hDo, l0, l2, s1, at1, at2, l4, hf]
  · by_cases hik : i = k
    · subst hik
      rw [ha] at hb
      cases hb
      rw [if_pos (Nat.lt_succ_self i), List.getElem?_set_self (List.getElem?_eq_some_iff.mp hrow).1]
    · rw [List.getElem?_set_ne (nd_at ndr.2 ha hb (Ne.symm hik)), h.rw i b hb]
      have he : (if i < k then old.set p v else old) = (if i < k + 1 then old.set p v else old) := by
        by_cases h1 : i < k
        · rw [if_pos h1, if_pos (by omega)]
        · rw [if_neg h1, if_neg (by omega)]
      rw [he]
end
end Gn

namespace Gn
open PySem L2 Mi
theorem MemAt.dig_ne {m : Int} {j : Nat} {st : Sto} (hD : DigAt m st j) {a : Nat} {xs : List W} (h : st[a]? = some (Ob.lst xs)) : j ≠ a := by
  rintro rfl
  obtain ⟨_, h1, _, rfl⟩ := hD
  rw [h] at h1
  cases h1
theorem DigAt.set {m : Int} {j : Nat} {st : Sto} (hD : DigAt m st j) {a : Nat} {o : Ob} (h : j ≠ a) : DigAt m (st.set a o) j := by
  obtain ⟨o', h1, h2⟩ := hD
  exact ⟨o', by rw [List.getElem?_set_ne (Ne.symm h)]; exact h1, h2⟩
theorem nd_set {l : List Nat} (h : l.Nodup) {n : Nat} (hn : n ∉ l) (i : Nat) : (l.set i n).Nodup := by
  refine List.pairwise_iff_getElem.mpr fun a b ha hb hab => ?_
  have ha' : a < l.length := by simpa using ha
  have hb' : b < l.length := by simpa using hb
  rw [List.getElem_set, List.getElem_set]
  by_cases h1 : i = a
  · rw [if_pos h1, if_neg (by omega)]
    intro z; exact hn (by rw [z]; exact List.getElem_mem hb')
  · rw [if_neg h1]
    by_cases h2 : i = b
    · rw [if_pos h2]; intro z; exact hn (by rw [← z]; exact List.getElem_mem ha')
    · rw [if_neg h2]; exact List.pairwise_iff_getElem.mp h a b ha' hb' hab
theorem cut8 (rs : List Nat) (h : rs.length = 9) : cutW (rs.map W.ref) none (some (-1)) = (rs.take 8).map W.ref := by
  match rs, h with
  | [a, b, c, d, e, f, g, h, i], _ => rfl
theorem t_change {m : Int} {j e w r : Nat} {rs : List Nat} {old : List Int} {p : Nat} {v : Int} {st : Sto} (hm : 0 < m) (hm1 : m < 18446744073709551616) (h : MemAt m j e w r rs old st) (hD : DigAt m st j) (hp : p < 256) :
    ∃ st', m_Memory_change [.ref e, .int (p : Int), .int v] st = .ok .non st' ∧ MemAt m j e w r (rs.set 8 st.length) (old.set p v) st' ∧ (∀ i, i < st.length → i ≠ w → i ≠ r → i ∉ rs → st'[i]? = st[i]?) ∧ st'.length = st.length + 1 := by
  have hrl := h.rl
  have hnd := h.nd
  have hl := h.wl
  have nds := List.nodup_cons.mp hnd
  have ndw := List.nodup_cons.mp nds.2
  have ndr := List.nodup_cons.mp ndw.2
  have hew : e ≠ w := fun z => nds.1 (by rw [z]; simp)
  have her : e ≠ r := fun z => nds.1 (by rw [z]; simp)
  have hwr : w ≠ r := fun z => ndw.1 (by rw [z]; simp)
  have hjw : j ≠ w := MemAt.dig_ne hD h.wo
  have hjr : j ≠ r := MemAt.dig_ne hD h.ro
  have hD1 : DigAt m (st.set w (Ob.lst ((old.set p v).map W.int))) j := hD.set hjw
  have m0 : MidAt m j e w r rs old (old.set p v) 0 (st.set w (Ob.lst ((old.set p v).map W.int))) := by
    refine ⟨by rw [List.getElem?_set_ne (Ne.symm hew)]; exact h.ob, by rw [List.getElem?_set_self (List.getElem?_eq_some_iff.mp h.wo).1], by rw [List.getElem?_set_ne hwr]; exact h.ro, fun i a ha => ?_⟩
    rw [if_neg (Nat.not_lt_zero i), List.getElem?_set_ne (fun z => ndw.1 (by rw [z]; simp [List.mem_of_getElem? ha]))]
    exact h.rw i a ha
  have hgt0 : gt (lv m (old.set p v) 0) (p / 2 ^ 0) = leafN m v := by
    show gt ((old.set p v).map (leafN m)) (p / 2 ^ 0) = _
    rw [Nat.pow_zero, Nat.div_one, List.map_set, getD_set_self (by simp [hl, hp])]
  have key := loop_st (ws := (rs.take 8).map W.ref) (g := mGN 4) (n := 8) (s := [some (.ref e), some (.int (p : Int)), some (.int v), some (.int (leafN m v)), none, none]) (st := st.set w (Ob.lst ((old.set p v).map W.int))) (body := l0_Memory_change) (by simp [hrl])
    (fun k s t => (∃ a x : Option W, s = [some (.ref e), some (.int ((p / 2 ^ k : Nat) : Int)), some (.int v), some (.int (gt (lv m (old.set p v) k) (p / 2 ^ k))), a, x]) ∧ MidAt m j e w r rs old (old.set p v) k t ∧ DigAt m t j ∧ t.length = st.length ∧ ∀ i, i ∉ rs → t[i]? = (st.set w (Ob.lst ((old.set p v).map W.int)))[i]?)
    ⟨⟨none, none, by rw [hgt0, Nat.pow_zero, Nat.div_one]⟩, m0, hD1, by simp, fun _ _ => rfl⟩ (by
      rintro k w' s t hw ⟨⟨a0, x0, rfl⟩, hM, hDt, hlt, hfr⟩
      rw [List.getElem?_map] at hw
      have hk : k < 8 := by
        rcases Nat.lt_or_ge k 8 with hk | hk
        · exact hk
        · rw [List.getElem?_eq_none (by simp; omega)] at hw; cases hw
      rw [List.getElem?_take_of_lt hk] at hw
      obtain ⟨a, ha⟩ : ∃ a, rs[k]? = some a := ⟨rs[k]'(by omega), List.getElem?_eq_getElem (by omega)⟩
      rw [ha] at hw
      cases hw
      have hja : j ≠ a := MemAt.dig_ne hDt (hM.rw k a ha)
      obtain ⟨e1, e2⟩ := t_chstep hm hm1 hrl hnd hl hp k hk a ha t hDt hja hM none x0 (.int v)
      refine ⟨_, _, rfl, ?_⟩
      show Step _ _ (l0_Memory_change [some (.ref e), some (.int ((p / 2 ^ k : Nat) : Int)), some (.int v), some (.int (gt (lv m (old.set p v) k) (p / 2 ^ k))), some (.ref a), x0] t)
      rw [e1]
      refine ⟨⟨_, _, rfl⟩, e2, hDt.set hja, by simp [hlt], fun i hi => ?_⟩
      rw [List.getElem?_set_ne (fun z => hi (by rw [← z]; exact List.mem_of_getElem? ha))]
      exact hfr i hi)
  obtain ⟨s8, t8, hlp, ⟨a8, x8, rfl⟩, hM8, hD8, hl8, hf8⟩ := key
  have h8 : p / 2 ^ 8 = 0 := by omega
  rw [h8] at hlp
  have hln := lev_len2 m (old.set p v) (by simpa using hl) 8
  have hone : [gt (lv m (old.set p v) 8) 0] = lv m (old.set p v) 8 := by
    match hz : lv m (old.set p v) 8, hln with
    | [x], _ => rfl
  refine ⟨(t8 ++ [Ob.lst [.int (gt (lv m (old.set p v) 8) 0)]]).set r (Ob.lst ((rs.map W.ref).set 8 (.ref t8.length))), ?_, ?_, ?_, ?_⟩
  · obtain ⟨hwi, hwg⟩ := List.getElem?_eq_some_iff.mp h.wo
    obtain ⟨hei, heg⟩ := List.getElem?_eq_some_iff.mp h.ob
    have hix : ixN 256 (p : Int) = some p := by
      simp only [ixN]
      rw [if_pos (by omega), if_pos (by omega), Int.toNat_natCast]
    have hix9 : ixN 9 (-1) = some 8 := rfl
    have g1 := m0.ob
    have g2 := m0.ro
    have hlf := t_leaf hm hD1 v
    obtain ⟨o, hDo, b, rfl⟩ := hD1
    have l0 : List.lookup (Str.ofString "_digests") [(Str.ofString "_digests", W.ref j), (Str.ofString "_words", W.ref w), (Str.ofString "_rows", W.ref r)] = some (W.ref j) := rfl
    have l1 : List.lookup (Str.ofString "_words") [(Str.ofString "_digests", W.ref j), (Str.ofString "_words", W.ref w), (Str.ofString "_rows", W.ref r)] = some (W.ref w) := rfl
    have l2 : List.lookup (Str.ofString "_rows") [(Str.ofString "_digests", W.ref j), (Str.ofString "_words", W.ref w), (Str.ofString "_rows", W.ref r)] = some (W.ref r) := rfl
    have l4 : List.lookup (Str.ofString "leaf") [(Str.ofString "_bits", W.int b), (Str.ofString "_modulus", W.int m), (Str.ofString "_book", W.non)] = none := rfl
    have g5 := app_lt (t := [Ob.lst [W.int (gt (lv m (old.set p v) 8) 0)]]) hM8.ob
    have g6 := app_lt (t := [Ob.lst [W.int (gt (lv m (old.set p v) 8) 0)]]) hM8.ro
    have hms : (old.map W.int).set p (.int v) = (old.set p v).map W.int := by rw [List.map_set]
    have sl : (1 : Nat) ≤ sizeLine := by decide
    have c8 := cut8 rs hrl
    have hfirst : (mAsg (mVar 2) (mGSub (mFld 2 "_words" (mVar 0)) (mVar 1))) [some (.ref e), some (.int (p : Int)), some (.int v), none, none, none] st = .nx [some (.ref e), some (.int (p : Int)), some (.int v), none, none, none] (st.set w (Ob.lst ((old.set p v).map W.int))) := by
      simp [hwi, hwg, hei, heg, l1, hl, hix, -List.map_set, hms]
    have hlp2 : mLoop (Src.vals ((rs.take 8).map W.ref)) (mGN 4) l0_Memory_change 8 0 [some (.ref e), some (.int (p : Int)), some (.int v), some (.int (leafN m v)), none, none] (st.set w (Ob.lst ((old.set p v).map W.int))) = _ := hlp
    simp only [m_Memory_change, mDef, List.length_cons, List.length_nil, List.map_cons, List.map_nil, List.replicate, List.cons_append, List.nil_append, b_Memory_change, mSeq, Nat.reduceAdd, if_true]
    rw [hfirst]
    clear hfirst hms m0 hlp hf8 hwg heg hwi hei h
    generalize st.set w (Ob.lst ((old.set p v).map W.int)) = S1 at hDo hlf g1 g2 hlp2 ⊢
    generalize hG8 : t8 ++ [Ob.lst [W.int (gt (lv m (old.set p v) 8) 0)]] = S9 at g5 g6 ⊢
    simp [g1, g2, hDo, l0, l2, l4, hlf, c8, hrl, -List.map_take, hlp2, sl, hG8, g5, g6, hix9]
  · have lt : ∀ {i : Nat} {o : Ob}, st[i]? = some o → i < st.length := fun h => (List.getElem?_eq_some_iff.mp h).1
    have hall : ∀ i ∈ e :: w :: r :: rs, i < st.length := by
      intro i hi
      simp only [List.mem_cons] at hi
      rcases hi with rfl | rfl | rfl | hi
      · exact lt h.ob
      · exact lt h.wo
      · exact lt h.ro
      · obtain ⟨k, hk, rfl⟩ := List.getElem_of_mem hi
        exact lt (h.rw k _ (List.getElem?_eq_getElem hk))
    have hrt : r < (t8 ++ [Ob.lst [W.int (gt (lv m (old.set p v) 8) 0)]]).length := by simp [hl8]; have := lt h.ro; omega
    refine ⟨by rw [List.getElem?_set_ne (Ne.symm her)]; exact app_lt hM8.ob, by rw [List.getElem?_set_ne (Ne.symm hwr)]; exact app_lt hM8.wo, ?_, by simp [hrl], fun k a ha => ?_, ?_, by simp [hl]⟩
    · rw [List.getElem?_set_self hrt, List.map_set, hl8]
    · by_cases hk8 : k = 8
      · subst hk8
        rw [List.getElem?_set_self (by omega)] at ha
        cases ha
        rw [List.getElem?_set_ne (by have := lt h.ro; omega), ← hl8, List.getElem?_append_right (Nat.le_refl _), Nat.sub_self, ← hone]
        rfl
      · rw [List.getElem?_set_ne (Ne.symm hk8)] at ha
        have hk9 : k < 9 := by have := (List.getElem?_eq_some_iff.mp ha).1; omega
        have har : r ≠ a := fun z => ndr.1 (by rw [z]; exact List.mem_of_getElem? ha)
        have z := hM8.rw k a ha
        rw [if_pos (by omega)] at z
        rw [List.getElem?_set_ne har]
        exact app_lt z
    · exact nd_set hnd (fun z => by have := hall _ z; omega) 11
  · intro i hi hiw hir hirs
    rw [List.getElem?_set_ne (Ne.symm hir), List.getElem?_append_left (by omega), hf8 i hirs, List.getElem?_set_ne (Ne.symm hiw)]
  · simp [hl8]
end Gn

namespace Gn
open PySem L2 Mi
/-! ### names -/
def names : List String := ["bad", "halt", "lit", "load", "store", "loadx", "storex", "tox", "index", "bound", "within", "not", "+", "-", "*", "/", "mod", "==", "!=", "<", "<=", ">", ">=", "jump", "zero", "some", "call", "back", "tell"]
def nm (n : Nat) : Str := Str.ofString (names.getD n "bad")
theorem names_nodup : names.Nodup := by decide
theorem nm_iff (k : Nat) (h0 : 1 ≤ k) (h : k < 29) (n : Nat) : nm n = Str.ofString (names.getD k "bad") ↔ n = k := by
  have hk : k < names.length := h
  simp only [nm, ofString_iff]
  constructor
  · intro e
    rcases Nat.lt_or_ge n 29 with hn | hn
    · have hn' : n < names.length := hn
      rw [gd_lt hn', gd_lt hk] at e
      exact nd_inj names_nodup e
    · have hn' : names.length ≤ n := hn
      rw [gd_ge hn', gd_lt hk] at e
      have e0 : names[0]'(by decide) = names[k] := e
      have := nd_inj names_nodup e0
      omega
  · intro e; rw [e]
theorem nm_bad (n : Nat) : nm n = Str.ofString "bad" ↔ (n = 0 ∨ 29 ≤ n) := by
  simp only [nm, ofString_iff]
  constructor
  · intro e
    rcases Nat.lt_or_ge n 29 with hn | hn
    · have hn' : n < names.length := hn
      rw [gd_lt hn'] at e
      have e0 : names[n] = names[0]'(by decide) := e
      have := nd_inj names_nodup e0
      exact .inl this
    · exact .inr hn
  · rintro (rfl | e)
    · rfl
    · have hn' : names.length ≤ n := e
      rw [gd_ge hn']
@[simp] theorem nm_ok (n : Nat) : PyData.strOk (nm n) = true := strOk_lit _
theorem nm1 (n : Nat) : nm n = Str.ofString "halt" ↔ n = 1 := nm_iff 1 (by decide) (by decide) n
theorem nm2 (n : Nat) : nm n = Str.ofString "lit" ↔ n = 2 := nm_iff 2 (by decide) (by decide) n
theorem nm3 (n : Nat) : nm n = Str.ofString "load" ↔ n = 3 := nm_iff 3 (by decide) (by decide) n
theorem nm4 (n : Nat) : nm n = Str.ofString "store" ↔ n = 4 := nm_iff 4 (by decide) (by decide) n
theorem nm5 (n : Nat) : nm n = Str.ofString "loadx" ↔ n = 5 := nm_iff 5 (by decide) (by decide) n
theorem nm6 (n : Nat) : nm n = Str.ofString "storex" ↔ n = 6 := nm_iff 6 (by decide) (by decide) n
theorem nm7 (n : Nat) : nm n = Str.ofString "tox" ↔ n = 7 := nm_iff 7 (by decide) (by decide) n
theorem nm8 (n : Nat) : nm n = Str.ofString "index" ↔ n = 8 := nm_iff 8 (by decide) (by decide) n
theorem nm9 (n : Nat) : nm n = Str.ofString "bound" ↔ n = 9 := nm_iff 9 (by decide) (by decide) n
theorem nm10 (n : Nat) : nm n = Str.ofString "within" ↔ n = 10 := nm_iff 10 (by decide) (by decide) n
theorem nm11 (n : Nat) : nm n = Str.ofString "not" ↔ n = 11 := nm_iff 11 (by decide) (by decide) n
theorem nm12 (n : Nat) : nm n = Str.ofString "+" ↔ n = 12 := nm_iff 12 (by decide) (by decide) n
theorem nm13 (n : Nat) : nm n = Str.ofString "-" ↔ n = 13 := nm_iff 13 (by decide) (by decide) n
theorem nm14 (n : Nat) : nm n = Str.ofString "*" ↔ n = 14 := nm_iff 14 (by decide) (by decide) n
theorem nm15 (n : Nat) : nm n = Str.ofString "/" ↔ n = 15 := nm_iff 15 (by decide) (by decide) n
theorem nm16 (n : Nat) : nm n = Str.ofString "mod" ↔ n = 16 := nm_iff 16 (by decide) (by decide) n
theorem nm17 (n : Nat) : nm n = Str.ofString "==" ↔ n = 17 := nm_iff 17 (by decide) (by decide) n
theorem nm18 (n : Nat) : nm n = Str.ofString "!=" ↔ n = 18 := nm_iff 18 (by decide) (by decide) n
theorem nm19 (n : Nat) : nm n = Str.ofString "<" ↔ n = 19 := nm_iff 19 (by decide) (by decide) n
theorem nm20 (n : Nat) : nm n = Str.ofString "<=" ↔ n = 20 := nm_iff 20 (by decide) (by decide) n
theorem nm21 (n : Nat) : nm n = Str.ofString ">" ↔ n = 21 := nm_iff 21 (by decide) (by decide) n
theorem nm22 (n : Nat) : nm n = Str.ofString ">=" ↔ n = 22 := nm_iff 22 (by decide) (by decide) n
theorem nm23 (n : Nat) : nm n = Str.ofString "jump" ↔ n = 23 := nm_iff 23 (by decide) (by decide) n
theorem nm24 (n : Nat) : nm n = Str.ofString "zero" ↔ n = 24 := nm_iff 24 (by decide) (by decide) n
theorem nm25 (n : Nat) : nm n = Str.ofString "some" ↔ n = 25 := nm_iff 25 (by decide) (by decide) n
theorem nm26 (n : Nat) : nm n = Str.ofString "call" ↔ n = 26 := nm_iff 26 (by decide) (by decide) n
theorem nm27 (n : Nat) : nm n = Str.ofString "back" ↔ n = 27 := nm_iff 27 (by decide) (by decide) n
theorem nm28 (n : Nat) : nm n = Str.ofString "tell" ↔ n = 28 := nm_iff 28 (by decide) (by decide) n
theorem rn1 (n : Nat) : Str.ofString "halt" = nm n ↔ n = 1 := eq_comm.trans (nm1 n)
theorem rn2 (n : Nat) : Str.ofString "lit" = nm n ↔ n = 2 := eq_comm.trans (nm2 n)
theorem rn3 (n : Nat) : Str.ofString "load" = nm n ↔ n = 3 := eq_comm.trans (nm3 n)
theorem rn4 (n : Nat) : Str.ofString "store" = nm n ↔ n = 4 := eq_comm.trans (nm4 n)
theorem rn5 (n : Nat) : Str.ofString "loadx" = nm n ↔ n = 5 := eq_comm.trans (nm5 n)
theorem rn6 (n : Nat) : Str.ofString "storex" = nm n ↔ n = 6 := eq_comm.trans (nm6 n)
theorem rn7 (n : Nat) : Str.ofString "tox" = nm n ↔ n = 7 := eq_comm.trans (nm7 n)
theorem rn8 (n : Nat) : Str.ofString "index" = nm n ↔ n = 8 := eq_comm.trans (nm8 n)
theorem rn9 (n : Nat) : Str.ofString "bound" = nm n ↔ n = 9 := eq_comm.trans (nm9 n)
theorem rn10 (n : Nat) : Str.ofString "within" = nm n ↔ n = 10 := eq_comm.trans (nm10 n)
theorem rn11 (n : Nat) : Str.ofString "not" = nm n ↔ n = 11 := eq_comm.trans (nm11 n)
theorem rn12 (n : Nat) : Str.ofString "+" = nm n ↔ n = 12 := eq_comm.trans (nm12 n)
theorem rn13 (n : Nat) : Str.ofString "-" = nm n ↔ n = 13 := eq_comm.trans (nm13 n)
theorem rn14 (n : Nat) : Str.ofString "*" = nm n ↔ n = 14 := eq_comm.trans (nm14 n)
theorem rn15 (n : Nat) : Str.ofString "/" = nm n ↔ n = 15 := eq_comm.trans (nm15 n)
theorem rn16 (n : Nat) : Str.ofString "mod" = nm n ↔ n = 16 := eq_comm.trans (nm16 n)
theorem rn17 (n : Nat) : Str.ofString "==" = nm n ↔ n = 17 := eq_comm.trans (nm17 n)
theorem rn18 (n : Nat) : Str.ofString "!=" = nm n ↔ n = 18 := eq_comm.trans (nm18 n)
theorem rn19 (n : Nat) : Str.ofString "<" = nm n ↔ n = 19 := eq_comm.trans (nm19 n)
theorem rn20 (n : Nat) : Str.ofString "<=" = nm n ↔ n = 20 := eq_comm.trans (nm20 n)
theorem rn21 (n : Nat) : Str.ofString ">" = nm n ↔ n = 21 := eq_comm.trans (nm21 n)
theorem rn22 (n : Nat) : Str.ofString ">=" = nm n ↔ n = 22 := eq_comm.trans (nm22 n)
theorem rn23 (n : Nat) : Str.ofString "jump" = nm n ↔ n = 23 := eq_comm.trans (nm23 n)
theorem rn24 (n : Nat) : Str.ofString "zero" = nm n ↔ n = 24 := eq_comm.trans (nm24 n)
theorem rn25 (n : Nat) : Str.ofString "some" = nm n ↔ n = 25 := eq_comm.trans (nm25 n)
theorem rn26 (n : Nat) : Str.ofString "call" = nm n ↔ n = 26 := eq_comm.trans (nm26 n)
theorem rn27 (n : Nat) : Str.ofString "back" = nm n ↔ n = 27 := eq_comm.trans (nm27 n)
theorem rn28 (n : Nat) : Str.ofString "tell" = nm n ↔ n = 28 := eq_comm.trans (nm28 n)
theorem or11 (n : Nat) : (n = 12 ∨ n = 13 ∨ n = 14 ∨ n = 15 ∨ n = 16 ∨ n = 17 ∨ n = 18 ∨ n = 19 ∨ n = 20 ∨ n = 21 ∨ n = 22) ↔ (12 ≤ n ∧ n ≤ 22) := by omega
theorem inV_names (n : Nat) (ss : List String) : inV (.str (nm n)) ((ss.map fun s => W.str (Str.ofString s)).map toV) = ss.any fun s => decide (nm n = Str.ofString s) := by
  induction ss with
  | nil => rfl
  | cons s r ih =>
    simp only [List.map_cons, inV_cons, toV, eqV_ss, List.any_cons, ih]
    congr 1
    exact decide_eq_decide.mpr eq_comm
/-! ### the steps of the machine -/
theorem t_name (w : Int) (n : Nat) (hq : w / 1024 = (n : Int)) (st : Sto) : m_name_of [.int w] st = .ok (.str (nm n)) st := by
  have l : (1024 : Nat).log2 < 9000 := by decide
  simp only [m_name_of, b_name_of, w_ARGUMENTS]
  by_cases h : n < 29
  · have hat : atI (names.map fun s => W.str (Str.ofString s)) (n : Int) = some (.str (nm n)) := by
      refine atI_nn (by omega) ?_
      have hn' : n < names.length := h
      simp only [Int.toNat_natCast, List.getElem?_map, nm, gd_lt hn', List.getElem?_eq_getElem hn', Option.map_some]
    have hN : w_NAMES = W.tup (names.map fun s => W.str (Str.ofString s)) := rfl
    have hl : names.length = 29 := rfl
    have h' : (n : Int) < 29 := by omega
    simp [hq, l, hN, hl, h', hat]
  · have h2 : nm n = Str.ofString "bad" := (nm_bad n).mpr (.inr (by omega))
    have hN : w_NAMES = W.tup (names.map fun s => W.str (Str.ofString s)) := rfl
    have hl : names.length = 29 := rfl
    have h' : ¬ (n : Int) < 29 := by omega
    simp [hq, l, hN, hl, h', h2]
/-! ### signs -/
def sem (g : Str) (a b : Int) : Option Int :=
  if g = "+" then some ((a + b) % 65536) else if g = "-" then some ((a - b) % 65536) else if g = "*" then some (a * b % 65536)
  else if g = "/" then (if b = 0 then none else some (a / b)) else if g = "mod" then (if b = 0 then none else some (a % b))
  else if g = "==" then some (if a = b then 1 else 0) else if g = "!=" then some (if a = b then 0 else 1)
  else if g = "<" then some (if a < b then 1 else 0) else if g = "<=" then some (if b < a then 0 else 1)
  else if g = ">" then some (if b < a then 1 else 0) else some (if a < b then 0 else 1)
def wOf : Option Int → W
  | none => .non
  | some x => .int x
def signs : List Str := ["+", "-", "*", "/", "mod", "==", "!=", "<", "<=", ">", ">="]
theorem t_wrapped (x : Int) (st : Sto) : m_wrapped [.int x] st = .ok (.int (x % 65536)) st := by
  simp only [m_wrapped, b_wrapped, w_MOST_WORD]
  simp
theorem t_op (g : Str) (hg : g ∈ signs) (a b : Int) (st : Sto) (ha : Word a) (hb : Word b) : m_op [.str g, .int a, .int b] st = .ok (wOf (sem g a b)) st := by
  simp only [signs, List.mem_cons, List.not_mem_nil, or_false] at hg
  have s2 : (2 : Nat) ≤ sizeLine := by decide
  have bs : b.natAbs < 65536 := by have := hb.1; have := hb.2; omega
  have b0 : 0 < b ∨ b = 0 := by have := hb.1; omega
  simp only [m_op, b_op]
  rcases hg with rfl | rfl | rfl | rfl | rfl | rfl | rfl | rfl | rfl | rfl | rfl
  · simp [t_wrapped, sem, wOf]
  · simp [t_wrapped, sem, wOf]
  · simp [t_wrapped, sem, wOf, show b.natAbs < 18446744073709551616 by omega]
  · rcases b0 with h | h
    · simp [sem, wOf, s2, h, lg h (by omega), show b ≠ 0 by omega, inV]
    · simp [sem, wOf, s2, h]
  · rcases b0 with h | h
    · simp [sem, wOf, s2, h, lg h (by omega), show b ≠ 0 by omega]
    · simp [sem, wOf, s2, h]
  · simp [sem, wOf, s2, m_compared, b_compared]
  · simp [sem, wOf, s2, m_compared, b_compared]
  all_goals
    rcases Int.lt_trichotomy a b with h | h | h
    · simp [sem, wOf, s2, m_compared, b_compared, h, show ¬ b < a by omega, show ¬ a = b by omega]
    · subst h; simp [sem, wOf, s2, m_compared, b_compared]
    · simp [sem, wOf, s2, m_compared, b_compared, h, show ¬ a < b by omega, show ¬ a = b by omega]
theorem sem_word (g : Str) (a b x : Int) (ha : Word a) (hb : Word b) (h : sem g a b = some x) : Word x := by
  obtain ⟨a0, a1⟩ := ha
  obtain ⟨b0, b1⟩ := hb
  have hd : b ≠ 0 → 0 ≤ a / b ∧ a / b ≤ a := fun hz => ⟨Int.ediv_nonneg a0 b0, Int.ediv_le_self _ a0⟩
  have hm : b ≠ 0 → 0 ≤ a % b ∧ a % b < b := fun hz => ⟨Int.emod_nonneg _ hz, Int.emod_lt_of_pos _ (by omega)⟩
  simp only [sem] at h
  repeat' split at h
  all_goals first
    | (cases h; exact ⟨by omega, by omega⟩)
    | (cases h; rename_i hz; have := hd hz; exact ⟨by omega, by omega⟩)
    | (cases h; rename_i hz; have := hm hz; exact ⟨by omega, by omega⟩)
    | cases h
theorem ge_nm {n : Nat} (h : 12 ≤ n ∧ n ≤ 22) : nm n ∈ signs := by
  have : n = 12 ∨ n = 13 ∨ n = 14 ∨ n = 15 ∨ n = 16 ∨ n = 17 ∨ n = 18 ∨ n = 19 ∨ n = 20 ∨ n = 21 ∨ n = 22 := by omega
  rcases this with rfl | rfl | rfl | rfl | rfl | rfl | rfl | rfl | rfl | rfl | rfl <;> simp [signs, nm, names]
theorem inS (n : Nat) : (inV (.str (nm n)) [V.str "+", V.str "-", V.str "*", V.str "/", V.str "mod", V.str "==", V.str "!=", V.str "<", V.str "<=", V.str ">", V.str ">="]) = decide (12 ≤ n ∧ n ≤ 22) := by
  have h := inV_names n ["+", "-", "*", "/", "mod", "==", "!=", "<", "<=", ">", ">="]
  simp only [List.map_cons, List.map_nil, toV] at h
  rw [h]
  simp only [List.any_cons, List.any_nil, nm12, nm13, nm14, nm15, nm16, nm17, nm18, nm19, nm20, nm21, nm22]
  rw [Bool.eq_iff_iff]
  simp
  omega
/-! ### what a step comes to -/
def mkN (n a : Nat) (x cnt : Int) (acc data : Int) : Option Str :=
  if n = 0 ∨ 29 ≤ n then some "bad" else if n = 1 then some "done" else if n = 9 ∧ (a : Int) ≤ x then some "place" else if n = 10 ∧ data ≤ x then some "input"
  else if (12 ≤ n ∧ n ≤ 22) ∧ sem (nm n) acc data = none then some "divided" else if n = 28 ∧ cnt = 16 then some "full" else none
def sOf : Option Str → W
  | none => .non
  | some x => .str x
/-- the word read is asked for -/
def Asks (n : Nat) : Prop := n = 3 ∨ n = 5 ∨ n = 8 ∨ n = 10 ∨ n = 27 ∨ (12 ≤ n ∧ n ≤ 22)
end Gn

namespace Gn
open PySem L2 Mi
theorem t_mark (wd : Int) (n a : Nat) (hq : wd / 1024 = (n : Int)) (hr : wd % 1024 = (a : Int)) (pc acc x mk out cnt data : Int) (dw : W) (st : Sto) (hacc : Word acc) (hd : Word data) (hdw : Asks n → dw = .int data) :
    m_mark_of [.tup [.int pc, .int acc, .int x, .int mk, .int out, .int cnt], .int wd, dw] st = .ok (sOf (mkN n a x cnt acc data)) st := by
  have hr2 : wd % 256 = (a : Int) % 256 := by omega
  have hname := t_name wd n hq
  have s11 : (11 : Nat) ≤ sizeLine := by decide
  have s2 : (2 : Nat) ≤ sizeLine := by decide
  have s3 : (3 : Nat) ≤ sizeLine := by decide
  have s5 : (5 : Nat) ≤ sizeLine := by decide
  have s6 : (6 : Nat) ≤ sizeLine := by decide
  simp only [m_mark_of, b_mark_of, w_ARGUMENTS, w_SIGNS, w_MOST_TOLD]
  by_cases h0 : n = 0 ∨ 29 ≤ n
  · simp [hname, nm_bad, nm1, nm2, nm3, nm4, nm5, nm6, nm7, nm8, nm9, nm10, nm11, nm12, nm13, nm14, nm15, nm16, nm17, nm18, nm19, nm20, nm21, nm22, nm23, nm24, nm25, nm26, nm27, nm28, rn1, rn2, rn3, rn4, rn5, rn6, rn7, rn8, rn9, rn10, rn11, rn12, rn13, rn14, rn15, rn16, rn17, rn18, rn19, rn20, rn21, rn22, rn23, rn24, rn25, rn26, rn27, rn28, or11, hr, hr2, hq, s11, s2, s3, s5, s6, h0, mkN, sOf]
  by_cases h1 : n = 1
  · subst h1; simp [hname, nm_bad, nm1, nm2, nm3, nm4, nm5, nm6, nm7, nm8, nm9, nm10, nm11, nm12, nm13, nm14, nm15, nm16, nm17, nm18, nm19, nm20, nm21, nm22, nm23, nm24, nm25, nm26, nm27, nm28, rn1, rn2, rn3, rn4, rn5, rn6, rn7, rn8, rn9, rn10, rn11, rn12, rn13, rn14, rn15, rn16, rn17, rn18, rn19, rn20, rn21, rn22, rn23, rn24, rn25, rn26, rn27, rn28, or11, hr, hr2, hq, s11, s2, s3, s5, s6, mkN, sOf]
  by_cases h9 : n = 9
  · subst h9
    by_cases hx : (a : Int) ≤ x
    · simp [hname, nm_bad, nm1, nm2, nm3, nm4, nm5, nm6, nm7, nm8, nm9, nm10, nm11, nm12, nm13, nm14, nm15, nm16, nm17, nm18, nm19, nm20, nm21, nm22, nm23, nm24, nm25, nm26, nm27, nm28, rn1, rn2, rn3, rn4, rn5, rn6, rn7, rn8, rn9, rn10, rn11, rn12, rn13, rn14, rn15, rn16, rn17, rn18, rn19, rn20, rn21, rn22, rn23, rn24, rn25, rn26, rn27, rn28, or11, hr, hr2, hq, s11, s2, s3, s5, s6, mkN, sOf, hx]
    · simp [hname, nm_bad, nm1, nm2, nm3, nm4, nm5, nm6, nm7, nm8, nm9, nm10, nm11, nm12, nm13, nm14, nm15, nm16, nm17, nm18, nm19, nm20, nm21, nm22, nm23, nm24, nm25, nm26, nm27, nm28, rn1, rn2, rn3, rn4, rn5, rn6, rn7, rn8, rn9, rn10, rn11, rn12, rn13, rn14, rn15, rn16, rn17, rn18, rn19, rn20, rn21, rn22, rn23, rn24, rn25, rn26, rn27, rn28, or11, hr, hr2, hq, s11, s2, s3, s5, s6, mkN, sOf, hx]
  by_cases h10 : n = 10
  · subst h10
    have e := hdw (by simp [Asks])
    subst e
    by_cases hx : data ≤ x
    · simp [hname, nm_bad, nm1, nm2, nm3, nm4, nm5, nm6, nm7, nm8, nm9, nm10, nm11, nm12, nm13, nm14, nm15, nm16, nm17, nm18, nm19, nm20, nm21, nm22, nm23, nm24, nm25, nm26, nm27, nm28, rn1, rn2, rn3, rn4, rn5, rn6, rn7, rn8, rn9, rn10, rn11, rn12, rn13, rn14, rn15, rn16, rn17, rn18, rn19, rn20, rn21, rn22, rn23, rn24, rn25, rn26, rn27, rn28, or11, hr, hr2, hq, s11, s2, s3, s5, s6, mkN, sOf, hx]
    · simp [hname, nm_bad, nm1, nm2, nm3, nm4, nm5, nm6, nm7, nm8, nm9, nm10, nm11, nm12, nm13, nm14, nm15, nm16, nm17, nm18, nm19, nm20, nm21, nm22, nm23, nm24, nm25, nm26, nm27, nm28, rn1, rn2, rn3, rn4, rn5, rn6, rn7, rn8, rn9, rn10, rn11, rn12, rn13, rn14, rn15, rn16, rn17, rn18, rn19, rn20, rn21, rn22, rn23, rn24, rn25, rn26, rn27, rn28, or11, hr, hr2, hq, s11, s2, s3, s5, s6, mkN, sOf, hx]
  by_cases h12 : 12 ≤ n ∧ n ≤ 22
  · have e := hdw (by simp [Asks, h12])
    subst e
    have hop := t_op (nm n) (ge_nm h12) acc data st hacc hd
    have h28 : ¬ n = 28 := by omega
    cases hs : sem (nm n) acc data with
    | none => 
      rw [hs] at hop
      simp [hname, nm_bad, nm1, nm2, nm3, nm4, nm5, nm6, nm7, nm8, nm9, nm10, nm11, nm12, nm13, nm14, nm15, nm16, nm17, nm18, nm19, nm20, nm21, nm22, nm23, nm24, nm25, nm26, nm27, nm28, rn1, rn2, rn3, rn4, rn5, rn6, rn7, rn8, rn9, rn10, rn11, rn12, rn13, rn14, rn15, rn16, rn17, rn18, rn19, rn20, rn21, rn22, rn23, rn24, rn25, rn26, rn27, rn28, or11, hr, hr2, hq, s11, s2, s3, s5, s6, mkN, sOf, h0, h1, h9, h10, h12, h28, hop, hs, wOf]
    | some v =>
      rw [hs] at hop
      simp [hname, nm_bad, nm1, nm2, nm3, nm4, nm5, nm6, nm7, nm8, nm9, nm10, nm11, nm12, nm13, nm14, nm15, nm16, nm17, nm18, nm19, nm20, nm21, nm22, nm23, nm24, nm25, nm26, nm27, nm28, rn1, rn2, rn3, rn4, rn5, rn6, rn7, rn8, rn9, rn10, rn11, rn12, rn13, rn14, rn15, rn16, rn17, rn18, rn19, rn20, rn21, rn22, rn23, rn24, rn25, rn26, rn27, rn28, or11, hr, hr2, hq, s11, s2, s3, s5, s6, mkN, sOf, h0, h1, h9, h10, h12, h28, hop, hs, wOf]
  by_cases h28 : n = 28
  · subst h28
    by_cases hx : cnt = 16
    · simp [hname, nm_bad, nm1, nm2, nm3, nm4, nm5, nm6, nm7, nm8, nm9, nm10, nm11, nm12, nm13, nm14, nm15, nm16, nm17, nm18, nm19, nm20, nm21, nm22, nm23, nm24, nm25, nm26, nm27, nm28, rn1, rn2, rn3, rn4, rn5, rn6, rn7, rn8, rn9, rn10, rn11, rn12, rn13, rn14, rn15, rn16, rn17, rn18, rn19, rn20, rn21, rn22, rn23, rn24, rn25, rn26, rn27, rn28, or11, hr, hr2, hq, s11, s2, s3, s5, s6, mkN, sOf, hx]
    · simp [hname, nm_bad, nm1, nm2, nm3, nm4, nm5, nm6, nm7, nm8, nm9, nm10, nm11, nm12, nm13, nm14, nm15, nm16, nm17, nm18, nm19, nm20, nm21, nm22, nm23, nm24, nm25, nm26, nm27, nm28, rn1, rn2, rn3, rn4, rn5, rn6, rn7, rn8, rn9, rn10, rn11, rn12, rn13, rn14, rn15, rn16, rn17, rn18, rn19, rn20, rn21, rn22, rn23, rn24, rn25, rn26, rn27, rn28, or11, hr, hr2, hq, s11, s2, s3, s5, s6, mkN, sOf, hx]
  simp [hname, nm_bad, nm1, nm2, nm3, nm4, nm5, nm6, nm7, nm8, nm9, nm10, nm11, nm12, nm13, nm14, nm15, nm16, nm17, nm18, nm19, nm20, nm21, nm22, nm23, nm24, nm25, nm26, nm27, nm28, rn1, rn2, rn3, rn4, rn5, rn6, rn7, rn8, rn9, rn10, rn11, rn12, rn13, rn14, rn15, rn16, rn17, rn18, rn19, rn20, rn21, rn22, rn23, rn24, rn25, rn26, rn27, rn28, or11, hr, hr2, hq, s11, s2, s3, s5, s6, mkN, sOf, h0, h1, h9, h10, h12, h28]
def pcB (n a : Nat) (pc acc data : Int) : Int :=
  if n = 23 ∨ (n = 24 ∧ acc = 0) ∨ (n = 25 ∧ acc ≠ 0) then (a : Int) % 256 else if n = 26 then ((a : Int) % 256 + 1) % 256 else if n = 27 then data % 256 else (pc + 1) % 256
theorem t_pc (wd : Int) (n a : Nat) (hq : wd / 1024 = (n : Int)) (hr : wd % 1024 = (a : Int)) (pc acc data : Int) (dw : W) (st : Sto) (hdw : Asks n → dw = .int data) :
    m_pc_behind [.int pc, .int acc, .int wd, dw] st = .ok (.int (pcB n a pc acc data)) st := by
  have hr2 : wd % 256 = (a : Int) % 256 := by omega
  have hname := t_name wd n hq
  have s11 : (11 : Nat) ≤ sizeLine := by decide
  have s2 : (2 : Nat) ≤ sizeLine := by decide
  have s3 : (3 : Nat) ≤ sizeLine := by decide
  have s5 : (5 : Nat) ≤ sizeLine := by decide
  have s6 : (6 : Nat) ≤ sizeLine := by decide
  simp only [m_pc_behind, b_pc_behind, w_PLACES]
  by_cases h23 : n = 23
  · subst h23; simp [hname, nm_bad, nm1, nm2, nm3, nm4, nm5, nm6, nm7, nm8, nm9, nm10, nm11, nm12, nm13, nm14, nm15, nm16, nm17, nm18, nm19, nm20, nm21, nm22, nm23, nm24, nm25, nm26, nm27, nm28, rn1, rn2, rn3, rn4, rn5, rn6, rn7, rn8, rn9, rn10, rn11, rn12, rn13, rn14, rn15, rn16, rn17, rn18, rn19, rn20, rn21, rn22, rn23, rn24, rn25, rn26, rn27, rn28, or11, hr, hr2, hq, s11, s2, s3, s5, s6, pcB]
  by_cases h24 : n = 24
  · subst h24
    by_cases hx : acc = 0
    · simp [hname, nm_bad, nm1, nm2, nm3, nm4, nm5, nm6, nm7, nm8, nm9, nm10, nm11, nm12, nm13, nm14, nm15, nm16, nm17, nm18, nm19, nm20, nm21, nm22, nm23, nm24, nm25, nm26, nm27, nm28, rn1, rn2, rn3, rn4, rn5, rn6, rn7, rn8, rn9, rn10, rn11, rn12, rn13, rn14, rn15, rn16, rn17, rn18, rn19, rn20, rn21, rn22, rn23, rn24, rn25, rn26, rn27, rn28, or11, hr, hr2, hq, s11, s2, s3, s5, s6, pcB, hx]
    · simp [hname, nm_bad, nm1, nm2, nm3, nm4, nm5, nm6, nm7, nm8, nm9, nm10, nm11, nm12, nm13, nm14, nm15, nm16, nm17, nm18, nm19, nm20, nm21, nm22, nm23, nm24, nm25, nm26, nm27, nm28, rn1, rn2, rn3, rn4, rn5, rn6, rn7, rn8, rn9, rn10, rn11, rn12, rn13, rn14, rn15, rn16, rn17, rn18, rn19, rn20, rn21, rn22, rn23, rn24, rn25, rn26, rn27, rn28, or11, hr, hr2, hq, s11, s2, s3, s5, s6, pcB, hx]
  by_cases h25 : n = 25
  · subst h25
    by_cases hx : acc = 0
    · simp [hname, nm_bad, nm1, nm2, nm3, nm4, nm5, nm6, nm7, nm8, nm9, nm10, nm11, nm12, nm13, nm14, nm15, nm16, nm17, nm18, nm19, nm20, nm21, nm22, nm23, nm24, nm25, nm26, nm27, nm28, rn1, rn2, rn3, rn4, rn5, rn6, rn7, rn8, rn9, rn10, rn11, rn12, rn13, rn14, rn15, rn16, rn17, rn18, rn19, rn20, rn21, rn22, rn23, rn24, rn25, rn26, rn27, rn28, or11, hr, hr2, hq, s11, s2, s3, s5, s6, pcB, hx]
    · simp [hname, nm_bad, nm1, nm2, nm3, nm4, nm5, nm6, nm7, nm8, nm9, nm10, nm11, nm12, nm13, nm14, nm15, nm16, nm17, nm18, nm19, nm20, nm21, nm22, nm23, nm24, nm25, nm26, nm27, nm28, rn1, rn2, rn3, rn4, rn5, rn6, rn7, rn8, rn9, rn10, rn11, rn12, rn13, rn14, rn15, rn16, rn17, rn18, rn19, rn20, rn21, rn22, rn23, rn24, rn25, rn26, rn27, rn28, or11, hr, hr2, hq, s11, s2, s3, s5, s6, pcB, hx]
  by_cases h26 : n = 26
  · subst h26; simp [hname, nm_bad, nm1, nm2, nm3, nm4, nm5, nm6, nm7, nm8, nm9, nm10, nm11, nm12, nm13, nm14, nm15, nm16, nm17, nm18, nm19, nm20, nm21, nm22, nm23, nm24, nm25, nm26, nm27, nm28, rn1, rn2, rn3, rn4, rn5, rn6, rn7, rn8, rn9, rn10, rn11, rn12, rn13, rn14, rn15, rn16, rn17, rn18, rn19, rn20, rn21, rn22, rn23, rn24, rn25, rn26, rn27, rn28, or11, hr, hr2, hq, s11, s2, s3, s5, s6, pcB]
  by_cases h27 : n = 27
  · have e := hdw (by simp [Asks, h27])
    subst e
    subst h27; simp [hname, nm_bad, nm1, nm2, nm3, nm4, nm5, nm6, nm7, nm8, nm9, nm10, nm11, nm12, nm13, nm14, nm15, nm16, nm17, nm18, nm19, nm20, nm21, nm22, nm23, nm24, nm25, nm26, nm27, nm28, rn1, rn2, rn3, rn4, rn5, rn6, rn7, rn8, rn9, rn10, rn11, rn12, rn13, rn14, rn15, rn16, rn17, rn18, rn19, rn20, rn21, rn22, rn23, rn24, rn25, rn26, rn27, rn28, or11, hr, hr2, hq, s11, s2, s3, s5, s6, pcB]
  simp [hname, nm_bad, nm1, nm2, nm3, nm4, nm5, nm6, nm7, nm8, nm9, nm10, nm11, nm12, nm13, nm14, nm15, nm16, nm17, nm18, nm19, nm20, nm21, nm22, nm23, nm24, nm25, nm26, nm27, nm28, rn1, rn2, rn3, rn4, rn5, rn6, rn7, rn8, rn9, rn10, rn11, rn12, rn13, rn14, rn15, rn16, rn17, rn18, rn19, rn20, rn21, rn22, rn23, rn24, rn25, rn26, rn27, rn28, or11, hr, hr2, hq, s11, s2, s3, s5, s6, pcB, h23, h24, h25, h26, h27]
def accB (n a : Nat) (acc data : Int) : Int :=
  if n = 2 then (a : Int) else if n = 3 ∨ n = 5 then data else if n = 11 then (if acc = 0 then 1 else 0) else if 12 ≤ n ∧ n ≤ 22 then (sem (nm n) acc data).getD 0 else acc
theorem t_acc (n a : Nat) (acc data : Int) (dw : W) (st : Sto) (hacc : Word acc) (hd : Word data) (hdw : Asks n → dw = .int data) (hs : 12 ≤ n ∧ n ≤ 22 → sem (nm n) acc data ≠ none) :
    m_acc_behind [.int acc, .str (nm n), .int (a : Int), dw] st = .ok (.int (accB n a acc data)) st := by
  have s11 : (11 : Nat) ≤ sizeLine := by decide
  have s2 : (2 : Nat) ≤ sizeLine := by decide
  simp only [m_acc_behind, b_acc_behind, w_SIGNS]
  by_cases h2 : n = 2
  · subst h2; simp [nm_bad, nm1, nm2, nm3, nm4, nm5, nm6, nm7, nm8, nm9, nm10, nm11, nm12, nm13, nm14, nm15, nm16, nm17, nm18, nm19, nm20, nm21, nm22, nm23, nm24, nm25, nm26, nm27, nm28, rn1, rn2, rn3, rn4, rn5, rn6, rn7, rn8, rn9, rn10, rn11, rn12, rn13, rn14, rn15, rn16, rn17, rn18, rn19, rn20, rn21, rn22, rn23, rn24, rn25, rn26, rn27, rn28, or11, accB, s2, s11]
  by_cases h3 : n = 3
  · have e := hdw (by simp [Asks, h3])
    subst e
    subst h3; simp [nm_bad, nm1, nm2, nm3, nm4, nm5, nm6, nm7, nm8, nm9, nm10, nm11, nm12, nm13, nm14, nm15, nm16, nm17, nm18, nm19, nm20, nm21, nm22, nm23, nm24, nm25, nm26, nm27, nm28, rn1, rn2, rn3, rn4, rn5, rn6, rn7, rn8, rn9, rn10, rn11, rn12, rn13, rn14, rn15, rn16, rn17, rn18, rn19, rn20, rn21, rn22, rn23, rn24, rn25, rn26, rn27, rn28, or11, accB, s2, s11, ]
  by_cases h5 : n = 5
  · have e := hdw (by simp [Asks, h5])
    subst e
    subst h5; simp [nm_bad, nm1, nm2, nm3, nm4, nm5, nm6, nm7, nm8, nm9, nm10, nm11, nm12, nm13, nm14, nm15, nm16, nm17, nm18, nm19, nm20, nm21, nm22, nm23, nm24, nm25, nm26, nm27, nm28, rn1, rn2, rn3, rn4, rn5, rn6, rn7, rn8, rn9, rn10, rn11, rn12, rn13, rn14, rn15, rn16, rn17, rn18, rn19, rn20, rn21, rn22, rn23, rn24, rn25, rn26, rn27, rn28, or11, accB, s2, s11]
  by_cases h11 : n = 11
  · subst h11; simp [nm_bad, nm1, nm2, nm3, nm4, nm5, nm6, nm7, nm8, nm9, nm10, nm11, nm12, nm13, nm14, nm15, nm16, nm17, nm18, nm19, nm20, nm21, nm22, nm23, nm24, nm25, nm26, nm27, nm28, rn1, rn2, rn3, rn4, rn5, rn6, rn7, rn8, rn9, rn10, rn11, rn12, rn13, rn14, rn15, rn16, rn17, rn18, rn19, rn20, rn21, rn22, rn23, rn24, rn25, rn26, rn27, rn28, or11, accB, s2, s11]
  by_cases h12 : 12 ≤ n ∧ n ≤ 22
  · have e := hdw (by simp [Asks, h12])
    subst e
    have hop := t_op (nm n) (ge_nm h12) acc data st hacc hd
    cases hs' : sem (nm n) acc data with
    | none => exact absurd hs' (hs h12)
    | some v =>
      rw [hs'] at hop
      simp [nm_bad, nm1, nm2, nm3, nm4, nm5, nm6, nm7, nm8, nm9, nm10, nm11, nm12, nm13, nm14, nm15, nm16, nm17, nm18, nm19, nm20, nm21, nm22, nm23, nm24, nm25, nm26, nm27, nm28, rn1, rn2, rn3, rn4, rn5, rn6, rn7, rn8, rn9, rn10, rn11, rn12, rn13, rn14, rn15, rn16, rn17, rn18, rn19, rn20, rn21, rn22, rn23, rn24, rn25, rn26, rn27, rn28, or11, accB, s2, s11, h2, h3, h5, h11, h12, hop, hs', wOf]
  simp [nm_bad, nm1, nm2, nm3, nm4, nm5, nm6, nm7, nm8, nm9, nm10, nm11, nm12, nm13, nm14, nm15, nm16, nm17, nm18, nm19, nm20, nm21, nm22, nm23, nm24, nm25, nm26, nm27, nm28, rn1, rn2, rn3, rn4, rn5, rn6, rn7, rn8, rn9, rn10, rn11, rn12, rn13, rn14, rn15, rn16, rn17, rn18, rn19, rn20, rn21, rn22, rn23, rn24, rn25, rn26, rn27, rn28, or11, accB, s2, s11, h2, h3, h5, h11, h12]
end Gn

namespace Gn
open PySem L2 Mi
/-! ### what the program's step gives -/
def mkI (s : Str) : Int := if s = "done" then 1 else if s = "divided" then 2 else if s = "place" then 3 else if s = "input" then 4 else if s = "full" then 5 else 6
theorem fi1 : z_MARKS.findIdx? (fun x => decide (x = Str.ofString "done")) = some 1 := rfl
theorem fi2 : z_MARKS.findIdx? (fun x => decide (x = Str.ofString "divided")) = some 2 := rfl
theorem fi3 : z_MARKS.findIdx? (fun x => decide (x = Str.ofString "place")) = some 3 := rfl
theorem fi4 : z_MARKS.findIdx? (fun x => decide (x = Str.ofString "input")) = some 4 := rfl
theorem fi5 : z_MARKS.findIdx? (fun x => decide (x = Str.ofString "full")) = some 5 := rfl
theorem fi6 : z_MARKS.findIdx? (fun x => decide (x = Str.ofString "bad")) = some 6 := rfl
theorem t_halted (s : Str) (hs : s = "done" ∨ s = "divided" ∨ s = "place" ∨ s = "input" ∨ s = "full" ∨ s = "bad") (a b c d e f : W) (st : Sto) :
    m_halted [.tup [a, b, c, d, e, f], .str s] st = .ok (.tup [a, b, c, .int (mkI s), e, f]) st := by
  have s6 : (6 : Nat) ≤ sizeLine := by decide
  simp only [m_halted, b_halted]
  rcases hs with rfl | rfl | rfl | rfl | rfl | rfl <;> simp [s6, fi1, fi2, fi3, fi4, fi5, fi6, mkI]
theorem mkN_in {n a : Nat} {x cnt acc data : Int} {s : Str} (h : mkN n a x cnt acc data = some s) : s = "done" ∨ s = "divided" ∨ s = "place" ∨ s = "input" ∨ s = "full" ∨ s = "bad" := by
  simp only [mkN] at h
  repeat' split at h
  all_goals first
    | (cases h; simp)
    | cases h
def xB (n : Nat) (acc x data : Int) : Int := if n = 7 then acc else if n = 8 then data else x
def outB (m : Int) (n : Nat) (acc out : Int) : Int := if n = 28 then foldN m out (leafN m acc) else out
def cntB (n : Nat) (cnt : Int) : Int := if n = 28 then cnt + 1 else cnt
def wrB (n : Nat) (pc acc : Int) : Option Int := if n = 4 ∨ n = 6 then some acc else if n = 26 then some ((pc + 1) % 256) else none
def doneW (m : Int) (n a : Nat) (pc acc x out cnt data : Int) : W := match mkN n a x cnt acc data with
  | some s => .tup [.tup [.int pc, .int acc, .int x, .int (mkI s), .int out, .int cnt], .non]
  | none => .tup [.tup [.int (pcB n a pc acc data), .int (accB n a acc data), .int (xB n acc x data), .int 0, .int (outB m n acc out), .int (cntB n cnt)], wOf (wrB n pc acc)]
theorem t_done {m : Int} {st : Sto} {j : Nat} (hm : 0 < m) (hm1 : m < 18446744073709551616) (h : DigAt m st j) (wd : Int) (n a : Nat) (hq : wd / 1024 = (n : Int)) (hr : wd % 1024 = (a : Int)) (pc acc x mk out cnt data : Int) (dw : W) (hacc : Word acc) (hd : Word data) (ho : 0 ≤ out ∧ out < m) (hdw : Asks n → dw = .int data) :
    m_done_by [.ref j, .tup [.int pc, .int acc, .int x, .int mk, .int out, .int cnt], .int wd, dw] st = .ok (doneW m n a pc acc x out cnt data) st := by
  have hname := t_name wd n hq
  have s2 : (2 : Nat) ≤ sizeLine := by decide
  have s6 : (6 : Nat) ≤ sizeLine := by decide
  have hmark := fun st => t_mark wd n a hq hr pc acc x mk out cnt data dw st hacc hd hdw
  have hpc := fun st => t_pc wd n a hq hr pc acc data dw st hdw
  simp only [m_done_by, b_done_by, w_PLACES, w_ARGUMENTS]
  cases hmk : mkN n a x cnt acc data with
  | some s =>
    rw [hmk] at hmark
    simp [hmark, sOf, t_halted s (mkN_in hmk), s2, doneW, hmk]
  | none =>
    rw [hmk] at hmark
    have hns : 12 ≤ n ∧ n ≤ 22 → sem (nm n) acc data ≠ none := fun h12 e => by
      simp only [mkN] at hmk
      simp [h12, e, show ¬ (n = 0 ∨ 29 ≤ n) by omega, show ¬ n = 1 by omega, show ¬ n = 9 by omega, show ¬ n = 10 by omega] at hmk
    have hac := fun st => t_acc n a acc data dw st hacc hd hdw hns
    by_cases h4 : n = 4 ∨ n = 6
    · have g1 : ¬ n = 26 := by omega
      have g2 : ¬ n = 7 := by omega
      have g3 : ¬ n = 8 := by omega
      have g4 : ¬ n = 28 := by omega
      simp [hmark, sOf, hname, nm_bad, nm1, nm2, nm3, nm4, nm5, nm6, nm7, nm8, nm9, nm10, nm11, nm12, nm13, nm14, nm15, nm16, nm17, nm18, nm19, nm20, nm21, nm22, nm23, nm24, nm25, nm26, nm27, nm28, rn1, rn2, rn3, rn4, rn5, rn6, rn7, rn8, rn9, rn10, rn11, rn12, rn13, rn14, rn15, rn16, rn17, rn18, rn19, rn20, rn21, rn22, rn23, rn24, rn25, rn26, rn27, rn28, or11, h4, g1, g2, g3, g4, hpc, hac, hr, s2, s6, doneW, hmk, xB, outB, cntB, wrB, wOf]
    by_cases h26 : n = 26
    · subst h26
      simp [hmark, sOf, hname, nm_bad, nm1, nm2, nm3, nm4, nm5, nm6, nm7, nm8, nm9, nm10, nm11, nm12, nm13, nm14, nm15, nm16, nm17, nm18, nm19, nm20, nm21, nm22, nm23, nm24, nm25, nm26, nm27, nm28, rn1, rn2, rn3, rn4, rn5, rn6, rn7, rn8, rn9, rn10, rn11, rn12, rn13, rn14, rn15, rn16, rn17, rn18, rn19, rn20, rn21, rn22, rn23, rn24, rn25, rn26, rn27, rn28, or11, hpc, hac, hr, s2, s6, doneW, hmk, xB, outB, cntB, wrB, wOf]
    by_cases h7 : n = 7
    · subst h7
      simp [hmark, sOf, hname, nm_bad, nm1, nm2, nm3, nm4, nm5, nm6, nm7, nm8, nm9, nm10, nm11, nm12, nm13, nm14, nm15, nm16, nm17, nm18, nm19, nm20, nm21, nm22, nm23, nm24, nm25, nm26, nm27, nm28, rn1, rn2, rn3, rn4, rn5, rn6, rn7, rn8, rn9, rn10, rn11, rn12, rn13, rn14, rn15, rn16, rn17, rn18, rn19, rn20, rn21, rn22, rn23, rn24, rn25, rn26, rn27, rn28, or11, hpc, hac, hr, s2, s6, doneW, hmk, xB, outB, cntB, wrB, wOf]
    by_cases h8 : n = 8
    · have e := hdw (by simp [Asks, h8])
      subst e
      subst h8
      simp [hmark, sOf, hname, nm_bad, nm1, nm2, nm3, nm4, nm5, nm6, nm7, nm8, nm9, nm10, nm11, nm12, nm13, nm14, nm15, nm16, nm17, nm18, nm19, nm20, nm21, nm22, nm23, nm24, nm25, nm26, nm27, nm28, rn1, rn2, rn3, rn4, rn5, rn6, rn7, rn8, rn9, rn10, rn11, rn12, rn13, rn14, rn15, rn16, rn17, rn18, rn19, rn20, rn21, rn22, rn23, rn24, rn25, rn26, rn27, rn28, or11, hpc, hac, hr, s2, s6, doneW, hmk, xB, outB, cntB, wrB, wOf]
    by_cases h28 : n = 28
    · subst h28
      have f1 := fun w => t_leaf hm h w
      have f2 := t_fold hm hm1 h out (leafN m acc) ho ⟨Int.emod_nonneg _ (by omega), Int.emod_lt_of_pos _ hm⟩
      obtain ⟨_, ho, b, rfl⟩ := h
      obtain ⟨hi, hg⟩ := List.getElem?_eq_some_iff.mp ho
      have l3 : List.lookup (Str.ofString "leaf") [(Str.ofString "_bits", W.int b), (Str.ofString "_modulus", W.int m), (Str.ofString "_book", W.non)] = none := rfl
      have l4 : List.lookup (Str.ofString "fold") [(Str.ofString "_bits", W.int b), (Str.ofString "_modulus", W.int m), (Str.ofString "_book", W.non)] = none := rfl
      simp [hi, hg, l3, l4, f1, f2, hmark, sOf, hname, nm_bad, nm1, nm2, nm3, nm4, nm5, nm6, nm7, nm8, nm9, nm10, nm11, nm12, nm13, nm14, nm15, nm16, nm17, nm18, nm19, nm20, nm21, nm22, nm23, nm24, nm25, nm26, nm27, nm28, rn1, rn2, rn3, rn4, rn5, rn6, rn7, rn8, rn9, rn10, rn11, rn12, rn13, rn14, rn15, rn16, rn17, rn18, rn19, rn20, rn21, rn22, rn23, rn24, rn25, rn26, rn27, rn28, or11, hpc, hac, hr, s2, s6, doneW, hmk, xB, outB, cntB, wrB, wOf]
    simp [hmark, sOf, hname, nm_bad, nm1, nm2, nm3, nm4, nm5, nm6, nm7, nm8, nm9, nm10, nm11, nm12, nm13, nm14, nm15, nm16, nm17, nm18, nm19, nm20, nm21, nm22, nm23, nm24, nm25, nm26, nm27, nm28, rn1, rn2, rn3, rn4, rn5, rn6, rn7, rn8, rn9, rn10, rn11, rn12, rn13, rn14, rn15, rn16, rn17, rn18, rn19, rn20, rn21, rn22, rn23, rn24, rn25, rn26, rn27, rn28, or11, h4, h26, h7, h8, h28, hpc, hac, hr, s2, s6, doneW, hmk, xB, outB, cntB, wrB, wOf]
instance (n : Nat) : Decidable (Asks n) := by unfold Asks; infer_instance
/-! ### what a word asks for -/
def plB (n a : Nat) (x : Int) : Int := if n = 5 ∨ n = 6 then ((a : Int) % 256 + x) % 256 else (a : Int) % 256
def daW (n a : Nat) (x : Int) : W := if n = 4 ∨ n = 6 ∨ n = 26 then .tup [.int (plB n a x), .bl true] else if Asks n then .tup [.int (plB n a x), .bl false] else .non
theorem t_data_of (wd : Int) (n a : Nat) (hq : wd / 1024 = (n : Int)) (hr : wd % 1024 = (a : Int)) (p q r s t : W) (x : Int) (st : Sto) :
    m_data_of [.tup [p, q, .int x, r, s, t], .int wd] st = .ok (daW n a x) st := by
  have hname := t_name wd n hq
  have hr2 : wd % 256 = (a : Int) % 256 := by omega
  have s2 : (2 : Nat) ≤ sizeLine := by decide
  have x6 : atI [p, q, W.int x, r, s, t] 2 = some (.int x) := rfl
  simp only [m_data_of, b_data_of, w_PLACES, w_CHANGERS, w_READERS, w_SIGNS]
  by_cases h5 : n = 5
  · subst h5; simp [hname, nm_bad, nm1, nm2, nm3, nm4, nm5, nm6, nm7, nm8, nm9, nm10, nm11, nm12, nm13, nm14, nm15, nm16, nm17, nm18, nm19, nm20, nm21, nm22, nm23, nm24, nm25, nm26, nm27, nm28, rn1, rn2, rn3, rn4, rn5, rn6, rn7, rn8, rn9, rn10, rn11, rn12, rn13, rn14, rn15, rn16, rn17, rn18, rn19, rn20, rn21, rn22, rn23, rn24, rn25, rn26, rn27, rn28, or11, hr2, s2, x6, daW, plB, Asks]
  by_cases h6 : n = 6
  · subst h6; simp [hname, nm_bad, nm1, nm2, nm3, nm4, nm5, nm6, nm7, nm8, nm9, nm10, nm11, nm12, nm13, nm14, nm15, nm16, nm17, nm18, nm19, nm20, nm21, nm22, nm23, nm24, nm25, nm26, nm27, nm28, rn1, rn2, rn3, rn4, rn5, rn6, rn7, rn8, rn9, rn10, rn11, rn12, rn13, rn14, rn15, rn16, rn17, rn18, rn19, rn20, rn21, rn22, rn23, rn24, rn25, rn26, rn27, rn28, or11, hr2, s2, x6, daW, plB, Asks]
  by_cases h4 : n = 4
  · subst h4; simp [hname, nm_bad, nm1, nm2, nm3, nm4, nm5, nm6, nm7, nm8, nm9, nm10, nm11, nm12, nm13, nm14, nm15, nm16, nm17, nm18, nm19, nm20, nm21, nm22, nm23, nm24, nm25, nm26, nm27, nm28, rn1, rn2, rn3, rn4, rn5, rn6, rn7, rn8, rn9, rn10, rn11, rn12, rn13, rn14, rn15, rn16, rn17, rn18, rn19, rn20, rn21, rn22, rn23, rn24, rn25, rn26, rn27, rn28, or11, hr2, s2, x6, daW, plB, Asks]
  by_cases h26 : n = 26
  · subst h26; simp [hname, nm_bad, nm1, nm2, nm3, nm4, nm5, nm6, nm7, nm8, nm9, nm10, nm11, nm12, nm13, nm14, nm15, nm16, nm17, nm18, nm19, nm20, nm21, nm22, nm23, nm24, nm25, nm26, nm27, nm28, rn1, rn2, rn3, rn4, rn5, rn6, rn7, rn8, rn9, rn10, rn11, rn12, rn13, rn14, rn15, rn16, rn17, rn18, rn19, rn20, rn21, rn22, rn23, rn24, rn25, rn26, rn27, rn28, or11, hr2, s2, x6, daW, plB, Asks]
  by_cases hA : n = 3 ∨ n = 8 ∨ n = 10 ∨ n = 27
  · have hA2 : Asks n := by unfold Asks; omega
    have h8 : n = 3 ∨ n = 5 ∨ n = 8 ∨ n = 10 ∨ n = 27 := by omega
    simp [hname, nm_bad, nm1, nm2, nm3, nm4, nm5, nm6, nm7, nm8, nm9, nm10, nm11, nm12, nm13, nm14, nm15, nm16, nm17, nm18, nm19, nm20, nm21, nm22, nm23, nm24, nm25, nm26, nm27, nm28, rn1, rn2, rn3, rn4, rn5, rn6, rn7, rn8, rn9, rn10, rn11, rn12, rn13, rn14, rn15, rn16, rn17, rn18, rn19, rn20, rn21, rn22, rn23, rn24, rn25, rn26, rn27, rn28, or11, hr2, s2, x6, daW, plB, hA2, h5, h6, h4, h26, hA]
  by_cases h12 : 12 ≤ n ∧ n ≤ 22
  · have hA2 : Asks n := by unfold Asks; omega
    simp [hname, nm_bad, nm1, nm2, nm3, nm4, nm5, nm6, nm7, nm8, nm9, nm10, nm11, nm12, nm13, nm14, nm15, nm16, nm17, nm18, nm19, nm20, nm21, nm22, nm23, nm24, nm25, nm26, nm27, nm28, rn1, rn2, rn3, rn4, rn5, rn6, rn7, rn8, rn9, rn10, rn11, rn12, rn13, rn14, rn15, rn16, rn17, rn18, rn19, rn20, rn21, rn22, rn23, rn24, rn25, rn26, rn27, rn28, or11, hr2, s2, x6, daW, plB, hA2, h5, h6, h4, h26, hA, h12]
  have hA2 : ¬ Asks n := by unfold Asks; omega
  simp [hname, nm_bad, nm1, nm2, nm3, nm4, nm5, nm6, nm7, nm8, nm9, nm10, nm11, nm12, nm13, nm14, nm15, nm16, nm17, nm18, nm19, nm20, nm21, nm22, nm23, nm24, nm25, nm26, nm27, nm28, rn1, rn2, rn3, rn4, rn5, rn6, rn7, rn8, rn9, rn10, rn11, rn12, rn13, rn14, rn15, rn16, rn17, rn18, rn19, rn20, rn21, rn22, rn23, rn24, rn25, rn26, rn27, rn28, or11, hr2, s2, x6, daW, plB, hA2, h5, h6, h4, h26, hA, h12]
end Gn

namespace Gn
open PySem L2 Mi
/-! ### a machine made -/
theorem MemAt.set {m : Int} {j e w r : Nat} {rs : List Nat} {words : List Int} {st : Sto} (h : MemAt m j e w r rs words st) {M : Nat} {o : Ob} (hM : M ∉ e :: w :: r :: rs) : MemAt m j e w r rs words (st.set M o) := by
  have ne : ∀ i ∈ e :: w :: r :: rs, M ≠ i := fun i hi z => hM (by rw [z]; exact hi)
  refine ⟨by rw [List.getElem?_set_ne (ne e (by simp))]; exact h.ob, by rw [List.getElem?_set_ne (ne w (by simp))]; exact h.wo, by rw [List.getElem?_set_ne (ne r (by simp))]; exact h.ro, h.rl, fun k a ha => ?_, h.nd, h.wl⟩
  rw [List.getElem?_set_ne (ne a (by simp [List.mem_of_getElem? ha]))]
  exact h.rw k a ha
theorem MemK.mem {m : Int} {S : Sto} {j : Nat} {words : List Int} {st : Sto} (h : MemK m S j words 8 st) (hl : words.length = 256) : MemAt m j S.length (S.length + 1) (S.length + 3) ((List.range 9).map (ad S.length)) words st := by
  refine ⟨h.ob, h.wo, ?_, by simp, fun k a ha => ?_, ?_, hl⟩
  · rw [h.ro, List.map_map]; rfl
  · have hk : k < 9 := by have := (List.getElem?_eq_some_iff.mp ha).1; simpa using this
    rw [List.getElem?_map, List.getElem?_range hk] at ha
    cases ha
    exact h.rw k (by omega)
  · have hr : List.range 9 = [0, 1, 2, 3, 4, 5, 6, 7, 8] := rfl
    rw [hr]
    simp [ad]
    omega
abbrev machF (j e : Nat) (regs told : W) : Fl := [("_digests", .ref j), ("_registers", regs), ("_memory", .ref e), ("_told", told)]
theorem t_machinit {m : Int} {S : Sto} {j : Nat} {words : List Int} (regs : W) (hm : 0 < m) (hm1 : m < 18446744073709551616) (hl : words.length = 256) (hDS : DigAt m S j) :
    ∃ st' T, m_Machine_init [.ref S.length, .ref j, regs, .tup (words.map W.int)] (S ++ [.ins 3 []]) = .ok .non st' ∧ st' = S ++ T ∧ st'[S.length]? = some (.ins 3 (machF j (S.length + 1) regs (.tup []))) ∧
      MemAt m j (S.length + 1) (S.length + 2) (S.length + 4) ((List.range 9).map (ad (S.length + 1))) words st' := by
  have hD1 : DigAt m (S ++ [Ob.ins 3 [("_digests", .ref j), ("_registers", regs)]]) j := hDS.app
  obtain ⟨s1, e1, h1⟩ := t_meminit hm hm1 hl hD1
  have hm2 := h1.mem hl
  obtain ⟨T, hT, hTl⟩ := h1.pre
  simp only [List.length_append, List.length_cons, List.length_nil, Nat.zero_add] at hm2 e1
  have ho := h1.ob
  simp only [List.length_append, List.length_cons, List.length_nil, Nat.zero_add] at ho
  rw [List.append_assoc] at e1
  simp only [List.cons_append, List.nil_append] at e1
  have hM : s1[S.length]? = some (Ob.ins 3 [("_digests", .ref j), ("_registers", regs)]) := by rw [hT, List.append_assoc]; simp
  have hni : ∀ o, MemAt m j (S.length + 1) (S.length + 1 + 1) (S.length + 1 + 3) ((List.range 9).map (ad (S.length + 1))) words (s1.set S.length o) := fun o => hm2.set (by
    intro z
    have hr : List.range 9 = [0, 1, 2, 3, 4, 5, 6, 7, 8] := rfl
    rw [hr] at z
    simp [ad] at z
    omega)
  refine ⟨s1.set S.length (Ob.ins 3 (machF j (S.length + 1) regs (.tup []))), ([Ob.ins 3 [("_digests", .ref j), ("_registers", regs)]] ++ T).set 0 (Ob.ins 3 (machF j (S.length + 1) regs (.tup []))), ?_, ?_, ?_, hni _⟩
  · have sl : (0 : Nat) ≤ sizeLine := by decide
    have hML := (List.getElem?_eq_some_iff.mp hM).1
    have h2 : ∀ o, (s1.set S.length o)[S.length]? = some o := fun o => List.getElem?_set_self hML
    simp only [m_Machine_init, b_Machine_init]
    simp [putW, e1, ho, hM, h2, machF]
  · rw [hT, List.append_assoc]
    simp
  · rw [List.getElem?_set_self (List.getElem?_eq_some_iff.mp hM).1]
end Gn

namespace Gn
open PySem L2 Mi
/-! ### the machine's state -/
structure Rg where
  pc : Int
  acc : Int
  x : Int
  mrk : Int
  out : Int
  cnt : Int
abbrev rgW (g : Rg) : W := .tup [.int g.pc, .int g.acc, .int g.x, .int g.mrk, .int g.out, .int g.cnt]
structure Good (m : Int) (g : Rg) : Prop where
  pc : 0 ≤ g.pc ∧ g.pc < 256
  acc : Word g.acc
  x : Word g.x
  mrk : 0 ≤ g.mrk ∧ g.mrk < 7
  out : 0 ≤ g.out ∧ g.out < m
  cnt : 0 ≤ g.cnt ∧ g.cnt < 17
structure Mach (m : Int) (j M e w r : Nat) (rs : List Nat) (g : Rg) (told words : List Int) (st : Sto) : Prop where
  mo : st[M]? = some (.ins 3 (machF j e (rgW g) (.tup (told.map W.int))))
  me : MemAt m j e w r rs words st
  dg : DigAt m st j
  nm : M ∉ e :: w :: r :: rs
  go : Good m g
  ww : ∀ x ∈ words, Word x
  tl : (told.length : Int) ≤ g.cnt
section
variable {m : Int} {j M e w r : Nat} {rs : List Nat} {g : Rg} {told words : List Int} {st : Sto} (h : Mach m j M e w r rs g told words st)
include h
theorem t_memword (p : Nat) (hp : p < 256) : m_Memory_word [.ref e, .int (p : Int)] st = .ok (.int (gt words p)) st := by
  obtain ⟨hei, heg⟩ := List.getElem?_eq_some_iff.mp h.me.ob
  obtain ⟨hwi, hwg⟩ := List.getElem?_eq_some_iff.mp h.me.wo
  have l1 : List.lookup (Str.ofString "_words") [(Str.ofString "_digests", W.ref j), (Str.ofString "_words", W.ref w), (Str.ofString "_rows", W.ref r)] = some (W.ref w) := rfl
  have at1 := atI_ints words p (by rw [h.me.wl]; exact hp)
  simp only [m_Memory_word, b_Memory_word]
  simp [hei, heg, l1, hwi, hwg, at1]
theorem t_mregs : m_Machine_registers [.ref M] st = .ok (rgW g) st := by
  obtain ⟨hi, hg⟩ := List.getElem?_eq_some_iff.mp h.mo
  have l1 : List.lookup (Str.ofString "_registers") (machF j e (rgW g) (.tup (told.map W.int))) = some (rgW g) := rfl
  simp only [m_Machine_registers, b_Machine_registers]
  simp [hi, hg, l1]
theorem t_mtold : m_Machine_told [.ref M] st = .ok (.tup (told.map W.int)) st := by
  obtain ⟨hi, hg⟩ := List.getElem?_eq_some_iff.mp h.mo
  have l1 : List.lookup (Str.ofString "_told") (machF j e (rgW g) (.tup (told.map W.int))) = some (.tup (told.map W.int)) := rfl
  simp only [m_Machine_told, b_Machine_told]
  simp [hi, hg, l1]
theorem t_memwords : m_Memory_words [.ref e] st = .ok (.tup (words.map W.int)) st := by
  obtain ⟨hei, heg⟩ := List.getElem?_eq_some_iff.mp h.me.ob
  obtain ⟨hwi, hwg⟩ := List.getElem?_eq_some_iff.mp h.me.wo
  have l1 : List.lookup (Str.ofString "_words") [(Str.ofString "_digests", W.ref j), (Str.ofString "_words", W.ref w), (Str.ofString "_rows", W.ref r)] = some (W.ref w) := rfl
  simp only [m_Memory_words, b_Memory_words]
  simp [hei, heg, l1, hwi, hwg]
theorem t_mwords : m_Machine_words [.ref M] st = .ok (.tup (words.map W.int)) st := by
  obtain ⟨hi, hg⟩ := List.getElem?_eq_some_iff.mp h.mo
  obtain ⟨hei, heg⟩ := List.getElem?_eq_some_iff.mp h.me.ob
  have l1 : List.lookup (Str.ofString "_memory") (machF j e (rgW g) (.tup (told.map W.int))) = some (.ref e) := rfl
  have l2 : List.lookup (Str.ofString "words") (memF j w r) = none := rfl
  simp only [m_Machine_words, b_Machine_words]
  simp [hi, hg, l1, hei, heg, l2, t_memwords h]
theorem t_memroot : m_Memory_root [.ref e] st = .ok (.int (gt (lv m words 8) 0)) st := by
  obtain ⟨hei, heg⟩ := List.getElem?_eq_some_iff.mp h.me.ob
  obtain ⟨hri, hrg⟩ := List.getElem?_eq_some_iff.mp h.me.ro
  have hl8 : 8 < rs.length := by rw [h.me.rl]; omega
  have hrow := h.me.rw 8 rs[8] (List.getElem?_eq_getElem hl8)
  obtain ⟨hai, hag⟩ := List.getElem?_eq_some_iff.mp hrow
  have l1 : List.lookup (Str.ofString "_rows") [(Str.ofString "_digests", W.ref j), (Str.ofString "_words", W.ref w), (Str.ofString "_rows", W.ref r)] = some (W.ref r) := rfl
  have la : atI (rs.map W.ref) (-1) = some (.ref rs[8]) := by
    have h2 : ixN (rs.map W.ref).length (-1) = some 8 := by rw [List.length_map, h.me.rl]; rfl
    rw [atI, h2]
    simp [hl8]
  have hln := lev_len2 m words h.me.wl 8
  have at1 : (lv m words 8)[0]? = some (gt (lv m words 8) 0) := gt_get (by rw [hln]; decide)
  generalize rs[8] = a8 at *
  simp only [m_Memory_root, b_Memory_root]
  simp [hei, heg, l1, hri, hrg, la, hai, hag, at1]
end
end Gn

namespace Gn
open PySem L2 Mi
/-! ### what a step makes of the state -/
def nOf (g : Rg) (words : List Int) : Nat := (gt words g.pc.toNat / 1024).toNat
def aOf (g : Rg) (words : List Int) : Nat := (gt words g.pc.toNat % 1024).toNat
def dOf (g : Rg) (words : List Int) : Int := gt words (plB (nOf g words) (aOf g words) g.x).toNat
def mOf (g : Rg) (words : List Int) : Option Str := mkN (nOf g words) (aOf g words) g.x g.cnt g.acc (dOf g words)
def stepG (m : Int) (g : Rg) (words : List Int) : Rg := match mOf g words with
  | some s => { g with mrk := mkI s }
  | none => ⟨pcB (nOf g words) (aOf g words) g.pc g.acc (dOf g words), accB (nOf g words) (aOf g words) g.acc (dOf g words), xB (nOf g words) g.acc g.x (dOf g words), 0, outB m (nOf g words) g.acc g.out, cntB (nOf g words) g.cnt⟩
def stepW (g : Rg) (words : List Int) : List Int := match mOf g words with
  | some _ => words
  | none => match wrB (nOf g words) g.pc g.acc with
    | some v => words.set (plB (nOf g words) (aOf g words) g.x).toNat v
    | none => words
def stepT (g : Rg) (told words : List Int) : List Int := match mOf g words with
  | some _ => told
  | none => if nOf g words = 28 then told ++ [g.acc] else told
theorem plB_in (n a : Nat) (x : Int) : 0 ≤ plB n a x ∧ plB n a x < 256 := by
  unfold plB
  split <;> omega
theorem gt_word {words : List Int} (h : ∀ x ∈ words, Word x) (p : Nat) : Word (gt words p) := by
  by_cases hp : p < words.length
  · have e : gt words p = words[p] := by simp [gt, List.getD, hp]
    rw [e]; exact h _ (List.getElem_mem hp)
  · have e : gt words p = 0 := by simp [gt, List.getD, hp]
    rw [e]; exact ⟨by omega, by omega⟩
theorem mkI_in {s : Str} (h : s = "done" ∨ s = "divided" ∨ s = "place" ∨ s = "input" ∨ s = "full" ∨ s = "bad") : 0 < mkI s ∧ mkI s < 7 := by
  rcases h with rfl | rfl | rfl | rfl | rfl | rfl <;> simp [mkI]
theorem set_word {words : List Int} (h : ∀ x ∈ words, Word x) {v : Int} (hv : Word v) (p : Nat) : ∀ x ∈ words.set p v, Word x := by
  intro x hx
  rcases List.mem_or_eq_of_mem_set hx with z | z
  · exact h x z
  · rw [z]; exact hv
section
variable {m : Int} {g : Rg} {told words : List Int} (hm : 7 < m) (h : Good m g) (hw : ∀ x ∈ words, Word x) (ht : (told.length : Int) ≤ g.cnt)
include hm h hw ht
theorem good_step : Good m (stepG m g words) ∧ (∀ x ∈ stepW g words, Word x) ∧ ((stepT g told words).length : Int) ≤ (stepG m g words).cnt := by
  have hd : Word (dOf g words) := gt_word hw _
  have hwd : Word (gt words g.pc.toNat) := gt_word hw _
  obtain ⟨⟨p0, p1⟩, ⟨a0, a1⟩, ⟨x0, x1⟩, ⟨k0, k1⟩, ⟨o0, o1⟩, c0, c1⟩ := h
  have ha : aOf g words < 1024 := by unfold aOf; omega
  simp only [stepG, stepW, stepT]
  cases hmo : mOf g words with
  | some s =>
    have hs := mkI_in (mkN_in hmo)
    exact ⟨⟨⟨p0, p1⟩, ⟨a0, a1⟩, ⟨x0, x1⟩, ⟨by show 0 ≤ mkI s; omega, hs.2⟩, ⟨o0, o1⟩, c0, c1⟩, hw, ht⟩
  | none =>
    have h28 : nOf g words = 28 → g.cnt < 16 := fun e => by
      have z := hmo
      simp only [mOf, mkN, e] at z
      simp at z
      omega
    simp only [mOf] at hmo
    refine ⟨⟨?_, ?_, ?_, ⟨by show (0 : Int) ≤ 0; omega, by show (0 : Int) < 7; omega⟩, ?_, ?_⟩, ?_, ?_⟩
    · simp only [pcB]
      repeat' split
      all_goals omega
    · simp only [accB]
      split
      · exact ⟨by omega, by omega⟩
      split
      · exact hd
      split
      · split <;> exact ⟨by omega, by omega⟩
      split
      · rename_i h12
        cases hs : sem (nm (nOf g words)) g.acc (dOf g words) with
        | none => exact ⟨by simp, by simp⟩
        | some v => exact sem_word _ _ _ _ ⟨a0, a1⟩ hd hs
      · exact ⟨a0, a1⟩
    · simp only [xB]
      split
      · exact ⟨a0, a1⟩
      split
      · exact hd
      · exact ⟨x0, x1⟩
    · simp only [outB]
      split
      · exact ⟨Int.emod_nonneg _ (by omega), Int.emod_lt_of_pos _ (by omega)⟩
      · exact ⟨o0, o1⟩
    · simp only [cntB]
      split
      · rename_i e; have := h28 e; omega
      · omega
    · cases hwr : wrB (nOf g words) g.pc g.acc with
      | none => exact hw
      | some v =>
        refine set_word hw ?_ _
        simp only [wrB] at hwr
        split at hwr
        · cases hwr; exact ⟨a0, a1⟩
        split at hwr
        · cases hwr; exact ⟨by omega, by omega⟩
        · cases hwr
    · simp only [cntB]
      split
      · simp; omega
      · exact ht
end
end Gn

namespace Gn
open PySem L2 Mi
/-! ### a step -/
section
variable {m : Int} {j M e w r : Nat} {rs : List Nat} {g : Rg} {told words : List Int} {st : Sto} (h : Mach m j M e w r rs g told words st)
include h
theorem t_rest (hk : g.mrk ≠ 0) : m_Machine_step [.ref M] st = .ok .non st := by
  obtain ⟨hi, hg⟩ := List.getElem?_eq_some_iff.mp h.mo
  have l1 : List.lookup (Str.ofString "_registers") (machF j e (rgW g) (.tup (told.map W.int))) = some (rgW g) := rfl
  have x3 : ∀ p q s t u v : W, atI [p, q, s, t, u, v] 3 = some t := fun _ _ _ _ _ _ => rfl
  simp only [m_Machine_step, b_Machine_step]
  simp [hi, hg, l1, x3, hk]
end
end Gn

namespace Gn
open PySem L2 Mi
section
variable {m : Int} {j M e w r : Nat} {rs : List Nat} {g : Rg} {told words : List Int} {st : Sto}
theorem Mach.upd (h : Mach m j M e w r rs g told words st) {g2 : Rg} {told2 : List Int} (hg : Good m g2) (ht : (told2.length : Int) ≤ g2.cnt) : Mach m j M e w r rs g2 told2 words (st.set M (.ins 3 (machF j e (rgW g2) (.tup (told2.map W.int))))) := by
  have hML := (List.getElem?_eq_some_iff.mp h.mo).1
  have hjM : j ≠ M := by
    rintro rfl
    obtain ⟨_, h1, _, rfl⟩ := h.dg
    rw [h.mo] at h1
    cases h1
  exact ⟨List.getElem?_set_self hML, h.me.set h.nm, h.dg.set hjM, h.nm, hg, h.ww, ht⟩
/-- a step that changes no word -/
theorem t_stepN (hm : 7 < m) (hm1 : m < 18446744073709551616) (h : Mach m j M e w r rs g told words st) (hk : g.mrk = 0) (hwr : mOf g words = none → wrB (nOf g words) g.pc g.acc = none) :
    m_Machine_step [.ref M] st = .ok .non (st.set M (.ins 3 (machF j e (rgW (stepG m g words)) (.tup ((stepT g told words).map W.int))))) := by
  have hm0 : 0 < m := by omega
  have hgo := h.go
  have hd : Word (dOf g words) := gt_word h.ww _
  have hwd : Word (gt words g.pc.toNat) := gt_word h.ww _
  have hn : gt words g.pc.toNat / 1024 = (nOf g words : Int) := by have := hwd.1; unfold nOf; omega
  have ha : gt words g.pc.toNat % 1024 = (aOf g words : Int) := by unfold aOf; omega
  have pin := plB_in (nOf g words) (aOf g words) g.x
  have hpc : g.pc = (g.pc.toNat : Int) := by have := hgo.pc.1; omega
  have hw1 := t_memword h g.pc.toNat (by have := hgo.pc; omega)
  rw [← hpc] at hw1
  have hpl : plB (nOf g words) (aOf g words) g.x = ((plB (nOf g words) (aOf g words) g.x).toNat : Int) := by omega
  have hw2 : m_Memory_word [.ref e, .int (plB (nOf g words) (aOf g words) g.x)] st = .ok (.int (dOf g words)) st := by
    have z := t_memword h (plB (nOf g words) (aOf g words) g.x).toNat (by omega)
    rw [← hpl] at z
    exact z
  have hdo := t_data_of (gt words g.pc.toNat) (nOf g words) (aOf g words) hn ha (.int g.pc) (.int g.acc) (.int g.mrk) (.int g.out) (.int g.cnt) g.x st
  have hdn := fun dw hdw => t_done hm0 hm1 h.dg (gt words g.pc.toNat) (nOf g words) (aOf g words) hn ha g.pc g.acc g.x g.mrk g.out g.cnt (dOf g words) dw hgo.acc hd hgo.out hdw
  obtain ⟨hi, hg⟩ := List.getElem?_eq_some_iff.mp h.mo
  obtain ⟨hei, heg⟩ := List.getElem?_eq_some_iff.mp h.me.ob
  have hMe : M ≠ e := fun z => h.nm (by rw [z]; simp)
  have lr : ∀ X T, List.lookup (Str.ofString "_registers") [(Str.ofString "_digests", W.ref j), (Str.ofString "_registers", X), (Str.ofString "_memory", W.ref e), (Str.ofString "_told", T)] = some X := fun _ _ => rfl
  have lm : ∀ X T, List.lookup (Str.ofString "_memory") [(Str.ofString "_digests", W.ref j), (Str.ofString "_registers", X), (Str.ofString "_memory", W.ref e), (Str.ofString "_told", T)] = some (W.ref e) := fun _ _ => rfl
  have ld : ∀ X T, List.lookup (Str.ofString "_digests") [(Str.ofString "_digests", W.ref j), (Str.ofString "_registers", X), (Str.ofString "_memory", W.ref e), (Str.ofString "_told", T)] = some (W.ref j) := fun _ _ => rfl
  have lt : ∀ X T, List.lookup (Str.ofString "_told") [(Str.ofString "_digests", W.ref j), (Str.ofString "_registers", X), (Str.ofString "_memory", W.ref e), (Str.ofString "_told", T)] = some T := fun _ _ => rfl
  have lw : List.lookup (Str.ofString "word") [(Str.ofString "_digests", W.ref j), (Str.ofString "_words", W.ref w), (Str.ofString "_rows", W.ref r)] = none := rfl
  have x0 : ∀ p q s t u v : W, atI [p, q, s, t, u, v] 0 = some p := fun _ _ _ _ _ _ => rfl
  have x1 : ∀ p q s t u v : W, atI [p, q, s, t, u, v] 1 = some q := fun _ _ _ _ _ _ => rfl
  have x3 : ∀ p q s t u v : W, atI [p, q, s, t, u, v] 3 = some t := fun _ _ _ _ _ _ => rfl
  have x5 : ∀ p q s t u v : W, atI [p, q, s, t, u, v] 5 = some v := fun _ _ _ _ _ _ => rfl
  have pa0 : ∀ p q : W, atI [p, q] 0 = some p := fun _ _ => rfl
  have s1 : (1 : Nat) ≤ sizeLine := by decide
  have stl : told.length + 1 ≤ sizeLine := by have := h.tl; have := hgo.cnt.2; rw [sizeLine_eq]; omega
  have hset : ∀ o, (st.set M o)[M]? = some o := fun o => List.getElem?_set_self hi
  simp only [m_Machine_step, b_Machine_step]
  by_cases h4 : nOf g words = 4 ∨ nOf g words = 6 ∨ nOf g words = 26
  · exfalso
    have z : mOf g words = none := by
      unfold mOf
      rcases h4 with z | z | z <;> rw [z] <;> simp [mkN]
    have y := hwr z
    rcases h4 with z | z | z <;> rw [z] at y <;> simp [wrB] at y
  by_cases hA : Asks (nOf g words)
  · have hd1 := hdn (.int (dOf g words)) (fun _ => rfl)
    simp only [daW, h4, hA, if_true, if_false] at hdo
    have n28 : ¬ nOf g words = 28 := by unfold Asks at hA; omega
    cases hmo : mOf g words with
    | some s =>
      simp only [mOf] at hmo
      simp only [doneW, hmo] at hd1
      simp only [stepG, stepT, mOf, hmo]
      simp [hi, hg, hei, heg, lr, lm, ld, lt, lw, x0, x1, x3, x5, pa0, hk, hw1, hdo, hw2, hd1, hset, putW]
    | none =>
      have hwn := hwr hmo
      simp only [mOf] at hmo
      simp only [doneW, hmo, hwn, wOf] at hd1
      simp only [stepG, stepT, mOf, hmo, n28, cntB, if_false] at hd1 ⊢
      simp [hi, hg, hei, heg, lr, lm, ld, lt, lw, x0, x1, x3, x5, pa0, hk, hw1, hdo, hw2, hd1, hset, putW]
  · have hd1 := hdn .non (fun z => absurd z hA)
    simp only [daW, h4, hA, if_true, if_false] at hdo
    cases hmo : mOf g words with
    | some s =>
      simp only [mOf] at hmo
      simp only [doneW, hmo] at hd1
      simp only [stepG, stepT, mOf, hmo]
      simp [hi, hg, hei, heg, lr, lm, ld, lt, lw, x0, x1, x3, x5, pa0, hk, hw1, hdo, hw2, hd1, hset, putW]
    | none =>
      have hwn := hwr hmo
      simp only [mOf] at hmo
      simp only [doneW, hmo, hwn, wOf] at hd1
      by_cases n28 : nOf g words = 28
      · have hmo28 := hmo
        rw [n28] at hmo28
        have hlt : g.cnt < g.cnt + 1 := by omega
        simp only [stepG, stepT, mOf, hmo, n28, hmo28, cntB, if_true] at hd1 ⊢
        simp [hlt, hi, hg, hei, heg, lr, lm, ld, lt, lw, x0, x1, x3, x5, pa0, hk, hw1, hdo, hw2, hd1, hset, putW, s1, stl]
      · simp only [stepG, stepT, mOf, hmo, n28, cntB, if_false] at hd1 ⊢
        simp [hi, hg, hei, heg, lr, lm, ld, lt, lw, x0, x1, x3, x5, pa0, hk, hw1, hdo, hw2, hd1, hset, putW]
end
end Gn

namespace Gn
open PySem L2 Mi
section
variable {m : Int} {j M e w r : Nat} {rs : List Nat} {g : Rg} {told words : List Int} {st : Sto}
/-- a step that changes a word -/
theorem t_stepC (hm : 7 < m) (hm1 : m < 18446744073709551616) (h : Mach m j M e w r rs g told words st) (hk : g.mrk = 0) {v : Int} (hmo : mOf g words = none) (hwr : wrB (nOf g words) g.pc g.acc = some v) :
    ∃ st', m_Machine_step [.ref M] st = .ok .non st' ∧ Mach m j M e w r (rs.set 8 st.length) (stepG m g words) (stepT g told words) (stepW g words) st' ∧ st'.length = st.length + 1 ∧ ∀ i, i < st.length → i ≠ M → i ≠ w → i ≠ r → i ∉ rs → st'[i]? = st[i]? := by
  have hm0 : 0 < m := by omega
  have hgo := h.go
  have hd : Word (dOf g words) := gt_word h.ww _
  have hwd : Word (gt words g.pc.toNat) := gt_word h.ww _
  have hn : gt words g.pc.toNat / 1024 = (nOf g words : Int) := by have := hwd.1; unfold nOf; omega
  have ha : gt words g.pc.toNat % 1024 = (aOf g words : Int) := by unfold aOf; omega
  have pin := plB_in (nOf g words) (aOf g words) g.x
  have hpc : g.pc = (g.pc.toNat : Int) := by have := hgo.pc.1; omega
  have hw1 := t_memword h g.pc.toNat (by have := hgo.pc; omega)
  rw [← hpc] at hw1
  have hpl : plB (nOf g words) (aOf g words) g.x = ((plB (nOf g words) (aOf g words) g.x).toNat : Int) := by omega
  have hw2 : m_Memory_word [.ref e, .int (plB (nOf g words) (aOf g words) g.x)] st = .ok (.int (dOf g words)) st := by
    have z := t_memword h (plB (nOf g words) (aOf g words) g.x).toNat (by omega)
    rw [← hpl] at z
    exact z
  have hdo := t_data_of (gt words g.pc.toNat) (nOf g words) (aOf g words) hn ha (.int g.pc) (.int g.acc) (.int g.mrk) (.int g.out) (.int g.cnt) g.x st
  have hdn := fun dw hdw => t_done hm0 hm1 h.dg (gt words g.pc.toNat) (nOf g words) (aOf g words) hn ha g.pc g.acc g.x g.mrk g.out g.cnt (dOf g words) dw hgo.acc hd hgo.out hdw
  obtain ⟨hi, hg⟩ := List.getElem?_eq_some_iff.mp h.mo
  obtain ⟨hei, heg⟩ := List.getElem?_eq_some_iff.mp h.me.ob
  have hMe : M ≠ e := fun z => h.nm (by rw [z]; simp)
  have lr : ∀ X T, List.lookup (Str.ofString "_registers") [(Str.ofString "_digests", W.ref j), (Str.ofString "_registers", X), (Str.ofString "_memory", W.ref e), (Str.ofString "_told", T)] = some X := fun _ _ => rfl
  have lm : ∀ X T, List.lookup (Str.ofString "_memory") [(Str.ofString "_digests", W.ref j), (Str.ofString "_registers", X), (Str.ofString "_memory", W.ref e), (Str.ofString "_told", T)] = some (W.ref e) := fun _ _ => rfl
  have ld : ∀ X T, List.lookup (Str.ofString "_digests") [(Str.ofString "_digests", W.ref j), (Str.ofString "_registers", X), (Str.ofString "_memory", W.ref e), (Str.ofString "_told", T)] = some (W.ref j) := fun _ _ => rfl
  have lt : ∀ X T, List.lookup (Str.ofString "_told") [(Str.ofString "_digests", W.ref j), (Str.ofString "_registers", X), (Str.ofString "_memory", W.ref e), (Str.ofString "_told", T)] = some T := fun _ _ => rfl
  have lw : List.lookup (Str.ofString "word") [(Str.ofString "_digests", W.ref j), (Str.ofString "_words", W.ref w), (Str.ofString "_rows", W.ref r)] = none := rfl
  have x0 : ∀ p q s t u v : W, atI [p, q, s, t, u, v] 0 = some p := fun _ _ _ _ _ _ => rfl
  have x1 : ∀ p q s t u v : W, atI [p, q, s, t, u, v] 1 = some q := fun _ _ _ _ _ _ => rfl
  have x3 : ∀ p q s t u v : W, atI [p, q, s, t, u, v] 3 = some t := fun _ _ _ _ _ _ => rfl
  have x5 : ∀ p q s t u v : W, atI [p, q, s, t, u, v] 5 = some v := fun _ _ _ _ _ _ => rfl
  have pa0 : ∀ p q : W, atI [p, q] 0 = some p := fun _ _ => rfl
  have s1 : (1 : Nat) ≤ sizeLine := by decide
  have stl : told.length + 1 ≤ sizeLine := by have := h.tl; have := hgo.cnt.2; rw [sizeLine_eq]; omega
  have hset : ∀ o, (st.set M o)[M]? = some o := fun o => List.getElem?_set_self hi
  have h4 : nOf g words = 4 ∨ nOf g words = 6 ∨ nOf g words = 26 := by
    simp only [wrB] at hwr
    split at hwr
    · omega
    split at hwr
    · omega
    · cases hwr
  have n28 : ¬ nOf g words = 28 := by omega
  obtain ⟨G1, G2, G3⟩ := good_step hm hgo h.ww h.tl (told := told)
  have hT : stepT g told words = told := by simp only [stepT, hmo, n28, if_false]
  have hW : stepW g words = words.set (plB (nOf g words) (aOf g words) g.x).toNat v := by simp only [stepW, hmo, hwr]
  rw [hT] at G3
  have h1 := h.upd G1 G3
  obtain ⟨st2, ec, hM2, hf2, hl2⟩ := t_change (p := (plB (nOf g words) (aOf g words) g.x).toNat) (v := v) hm0 hm1 h1.me h1.dg (by omega)
  rw [← hpl] at ec
  rw [List.length_set] at hM2 hf2 hl2
  have hMw : M ≠ w := fun z => h.nm (by rw [z]; simp)
  have hMr : M ≠ r := fun z => h.nm (by rw [z]; simp)
  have hMs : M ∉ rs := fun z => h.nm (by simp [z])
  have h2M := hf2 M hi hMw hMr hMs
  rw [h1.mo] at h2M
  have hjne : j ≠ w ∧ j ≠ r ∧ j ∉ rs := by
    refine ⟨MemAt.dig_ne h1.dg h1.me.wo, MemAt.dig_ne h1.dg h1.me.ro, fun z => ?_⟩
    obtain ⟨k, hk2, hk3⟩ := List.getElem_of_mem z
    exact MemAt.dig_ne h1.dg (h1.me.rw k _ (List.getElem?_eq_getElem hk2)) hk3.symm
  have hjl : j < st.length := by
    obtain ⟨_, z, _⟩ := h.dg
    exact (List.getElem?_eq_some_iff.mp z).1
  refine ⟨st2, ?_, ⟨?_, by rw [hW]; exact hM2, ?_, ?_, G1, G2, by rw [hT]; exact G3⟩, hl2, fun i hi1 hi2 hi3 hi4 hi5 => ?_⟩
  · have hd1 := hdn (.int (dOf g words)) (fun _ => rfl)
    have he2 : ∀ o, (st.set M o)[e]? = some (Ob.ins 2 (memF j w r)) := fun o => by rw [List.getElem?_set_ne hMe]; exact h.me.ob
    have lc : List.lookup (Str.ofString "change") [(Str.ofString "_digests", W.ref j), (Str.ofString "_words", W.ref w), (Str.ofString "_rows", W.ref r)] = none := rfl
    simp only [daW, h4, if_true] at hdo
    simp only [mOf] at hmo
    simp only [doneW, hmo, hwr, wOf] at hd1
    simp only [stepG, mOf, hmo] at ec h2M
    simp only [cntB, n28, if_false] at hd1 ec h2M
    simp only [m_Machine_step, b_Machine_step]
    simp [hi, hg, hei, heg, lr, lm, ld, lt, lw, x0, x1, x3, x5, pa0, hk, hw1, hdo, hw2, hd1, hset, putW, he2, hMe, lc, ec, h2M]
  · rw [hT]; exact h2M
  · obtain ⟨o, z1, z2⟩ := h1.dg
    exact ⟨o, by rw [hf2 j hjl hjne.1 hjne.2.1 hjne.2.2]; exact z1, z2⟩
  · intro z
    simp only [List.mem_cons] at z
    rcases z with z | z | z | z
    · exact hMe z
    · exact hMw z
    · exact hMr z
    · rcases List.mem_or_eq_of_mem_set z with z | z
      · exact hMs z
      · omega
  · rw [hf2 i hi1 hi3 hi4 hi5, List.getElem?_set_ne (Ne.symm hi2)]
end
end Gn

namespace Gn
open PySem L2 Mi
/-! ### the digest of a state -/
def stS (m f n : Int) : Int := ((f + n) * (f + 48611) + 52774 * n + 19) % m
def stateN (m : Int) (ns : List Int) : Int := (ns.foldl (stS m) 3) % m
theorem stS_in {m : Int} (hm : 3 < m) : ∀ (ns : List Int) (f : Int), 0 ≤ f ∧ f < m → 0 ≤ ns.foldl (stS m) f ∧ ns.foldl (stS m) f < m
  | [], f, h => h
  | n :: ns, f, h => stS_in hm ns _ ⟨Int.emod_nonneg _ (by omega), Int.emod_lt_of_pos _ (by omega)⟩
theorem t_state {m : Int} {st : Sto} {j : Nat} (hm : 3 < m) (hm1 : m < 4611686018427387904) (h : DigAt m st j) (ns : List Int) :
    m_Digests_state [.ref j, .tup (ns.map W.int)] st = .ok (.int (stateN m ns)) st := by
  have hk := fun k t x => t_kept (by omega) h k t x
  obtain ⟨_, ho, b, rfl⟩ := h
  obtain ⟨s2, st2, e1, ⟨rfl, x, rfl⟩⟩ := loop_st (ws := ns.map W.int) (g := mGN 3) (n := ns.length) (s := [some (.ref j), some (.tup (ns.map W.int)), some (.int 3), none]) (st := st) (body := l0_Digests_state) (by simp)
    (fun k s t => t = st ∧ ∃ x : Option W, s = [some (.ref j), some (.tup (ns.map W.int)), some (.int ((ns.take k).foldl (stS m) 3)), x])
    ⟨rfl, none, by simp⟩ (by
      rintro k w s t hw ⟨rfl, x, rfl⟩
      rw [List.getElem?_map, Option.map_eq_some_iff] at hw
      obtain ⟨n, hn, rfl⟩ := hw
      refine ⟨_, _, rfl, ?_⟩
      have hin := stS_in hm (ns.take k) 3 (by omega)
      have e := take_foldl (stS m) 3 ns k n hn
      generalize (ns.take k).foldl (stS m) 3 = f at hin e ⊢
      have h1 : mulOk (f + n) (f + 48611) = true := by
        simp only [mulOk, Bool.or_eq_true, decide_eq_true_eq]
        exact .inl (.inr (by omega))
      have h0 : (0 : Int) < m := by omega
      simp [l0_Digests_state, -mulOk, h1, ho, h0, e, stS, mo_small])
  rw [List.take_length] at e1
  simp only [m_Digests_state, b_Digests_state, w_FIRST_STATE]
  simp [e1, ho, hk, stateN]
end Gn

namespace Gn
open PySem L2 Mi
abbrev rgL (g : Rg) : List Int := [g.pc, g.acc, g.x, g.mrk, g.out, g.cnt]
def digN (m : Int) (g : Rg) (words : List Int) : Int := stateN m (rgL g ++ [gt (lv m words 8) 0])
section
variable {m : Int} {j M e w r : Nat} {rs : List Nat} {g : Rg} {told words : List Int} {st : Sto} (h : Mach m j M e w r rs g told words st)
include h
theorem t_mroot : m_Machine_root [.ref M] st = .ok (.int (gt (lv m words 8) 0)) st := by
  have h1 := t_memroot h
  have h2 := h.mo
  have h3 := h.me.ob
  simp only [m_Machine_root, b_Machine_root]
  simp [h2, h3, h1]
theorem t_mdig (hm : 7 < m) (hm1 : m < 4611686018427387904) : m_Machine_digest [.ref M] st = .ok (.int (digN m g words)) st := by
  have h1 := t_mroot h
  have h2 := h.mo
  have h3 := t_state (by omega) hm1 h.dg (rgL g ++ [gt (lv m words 8) 0])
  obtain ⟨_, h4, b, rfl⟩ := h.dg
  simp only [rgL, List.map_cons, List.map_nil, List.cons_append, List.nil_append] at h3
  simp only [m_Machine_digest, b_Machine_digest, digN]
  simp [h2, h4, h1, h3, sizeLine_eq]
end
end Gn

namespace Gn
open PySem L2 Mi
/-! ### any step -/
def nxG (m : Int) (g : Rg) (words : List Int) : Rg := if g.mrk = 0 then stepG m g words else g
def nxW (g : Rg) (words : List Int) : List Int := if g.mrk = 0 then stepW g words else words
def nxT (g : Rg) (told words : List Int) : List Int := if g.mrk = 0 then stepT g told words else told
theorem t_step {m : Int} {j M e w r : Nat} {rs : List Nat} {g : Rg} {told words : List Int} {st : Sto} (hm : 7 < m) (hm1 : m < 18446744073709551616) (h : Mach m j M e w r rs g told words st) :
    ∃ st' rs', m_Machine_step [.ref M] st = .ok .non st' ∧ Mach m j M e w r rs' (nxG m g words) (nxT g told words) (nxW g words) st' ∧ Only (M :: w :: r :: rs) st st' ∧ ∀ i ∈ rs', i ∈ rs ∨ st.length ≤ i := by
  by_cases hk : g.mrk = 0
  · simp only [nxG, nxW, nxT, hk, if_true]
    by_cases hc : mOf g words = none ∧ wrB (nOf g words) g.pc g.acc ≠ none
    · obtain ⟨v, hv⟩ : ∃ v, wrB (nOf g words) g.pc g.acc = some v := Option.ne_none_iff_exists'.mp hc.2
      obtain ⟨st', e1, h1, hl, hf⟩ := t_stepC hm hm1 h hk hc.1 hv
      refine ⟨st', _, e1, h1, ⟨by omega, fun i hi hn => hf i hi (fun z => hn (by simp [z])) (fun z => hn (by simp [z])) (fun z => hn (by simp [z])) (fun z => hn (by simp [z]))⟩, fun i hi => ?_⟩
      rcases List.mem_or_eq_of_mem_set hi with z | z
      · exact .inl z
      · exact .inr (by omega)
    · have hn : mOf g words = none → wrB (nOf g words) g.pc g.acc = none := fun z => by
        cases hw : wrB (nOf g words) g.pc g.acc with
        | none => rfl
        | some v => exact absurd ⟨z, by rw [hw]; simp⟩ hc
      have e1 := t_stepN hm hm1 h hk hn
      obtain ⟨G1, G2, G3⟩ := good_step hm h.go h.ww h.tl (told := told)
      have hW : stepW g words = words := by
        simp only [stepW]
        cases hmo : mOf g words with
        | some s => rfl
        | none => simp only [hn hmo]
      rw [hW]
      exact ⟨_, rs, e1, h.upd G1 G3, Only.set (by simp), fun i hi => .inl hi⟩
  · simp only [nxG, nxW, nxT, hk, if_false]
    exact ⟨st, rs, t_rest h hk, h, Only.refl _ _, fun i hi => .inl hi⟩
end Gn

namespace Gn
open PySem L2 Mi
/-! ### machines among other objects -/
structure Ms where
  g : Rg
  t : List Int
  w : List Int
def nx (m : Int) (s : Ms) : Ms := ⟨nxG m s.g s.w, nxT s.g s.t s.w, nxW s.g s.w⟩
def runM (m : Int) : Nat → Ms → Ms
  | 0, s => s
  | n + 1, s => nx m (runM m n s)
/-- at M stands a machine, all of it at A -/
def Mh (m : Int) (j M : Nat) (s : Ms) (A : List Nat) (st : Sto) : Prop := ∃ e w r rs, A = M :: e :: w :: r :: rs ∧ Mach m j M e w r rs s.g s.t s.w st
structure Ok (m : Int) (s : Ms) : Prop where
  go : Good m s.g
  ww : ∀ x ∈ s.w, Word x
  wl : s.w.length = 256
  tl : (s.t.length : Int) ≤ s.g.cnt
section
variable {m : Int} {j M : Nat} {s : Ms} {A : List Nat} {st st' : Sto}
theorem Mh.ok (h : Mh m j M s A st) : Ok m s := by
  obtain ⟨e, w, r, rs, rfl, h⟩ := h
  exact ⟨h.go, h.ww, h.me.wl, h.tl⟩
theorem Mh.rd (h : Mh m j M s A st) : ∀ i ∈ A, ∃ o, st[i]? = some o ∧ ¬ DigOb m o := by
  obtain ⟨e, w, r, rs, rfl, h⟩ := h
  have nd : ∀ (fs : Fl) (c : Nat), c ≠ 0 → ¬ DigOb m (.ins c fs) := fun fs c hc ⟨b, hb⟩ => by injection hb with h1; exact hc h1
  have nl : ∀ xs, ¬ DigOb m (.lst xs) := fun xs ⟨b, hb⟩ => by cases hb
  intro i hi
  simp only [List.mem_cons] at hi
  rcases hi with rfl | rfl | rfl | rfl | hi
  · exact ⟨_, h.mo, nd _ _ (by omega)⟩
  · exact ⟨_, h.me.ob, nd _ _ (by omega)⟩
  · exact ⟨_, h.me.wo, nl _⟩
  · exact ⟨_, h.me.ro, nl _⟩
  · obtain ⟨k, hk, rfl⟩ := List.getElem_of_mem hi
    exact ⟨_, h.me.rw k _ (List.getElem?_eq_getElem hk), nl _⟩
theorem Mh.lt (h : Mh m j M s A st) : ∀ i ∈ A, i < st.length := fun i hi => by
  obtain ⟨o, h1, _⟩ := h.rd i hi
  exact (List.getElem?_eq_some_iff.mp h1).1
theorem Mh.dig (h : Mh m j M s A st) : DigAt m st j := by
  obtain ⟨e, w, r, rs, rfl, h⟩ := h
  exact h.dg
theorem Mh.jn (h : Mh m j M s A st) : j ∉ A := fun hj => by
  obtain ⟨o, h1, h2⟩ := h.rd j hj
  obtain ⟨o', h3, h4⟩ := h.dig
  rw [h1] at h3
  cases h3
  exact h2 h4
theorem Mh.self (h : Mh m j M s A st) : M ∈ A := by
  obtain ⟨e, w, r, rs, rfl, h⟩ := h
  simp
theorem Mh.only (h : Mh m j M s A st) {B : List Nat} (k : Only B st st') (hA : ∀ i ∈ A, i ∉ B) (hj : j ∉ B) : Mh m j M s A st' := by
  obtain ⟨e, w, r, rs, rfl, h⟩ := h
  refine ⟨e, w, r, rs, rfl, ⟨k.rd h.mo (hA _ (by simp)), ⟨k.rd h.me.ob (hA _ (by simp)), k.rd h.me.wo (hA _ (by simp)), k.rd h.me.ro (hA _ (by simp)), h.me.rl, fun i a ha => ?_, h.me.nd, h.me.wl⟩, h.dg.only k hj, h.nm, h.go, h.ww, h.tl⟩⟩
  exact k.rd (h.me.rw i a ha) (hA _ (by simp [List.mem_of_getElem? ha]))
theorem Mh.step (h : Mh m j M s A st) (hm : 7 < m) (hm1 : m < 18446744073709551616) :
    ∃ st' A', m_Machine_step [.ref M] st = .ok .non st' ∧ Mh m j M (nx m s) A' st' ∧ Only A st st' ∧ ∀ i ∈ A', i ∈ A ∨ st.length ≤ i := by
  obtain ⟨e, w, r, rs, rfl, h⟩ := h
  obtain ⟨st', rs', e1, h1, h2, h3⟩ := t_step hm hm1 h
  refine ⟨st', _, e1, ⟨e, w, r, rs', rfl, h1⟩, h2.mono (fun i hi _ => ?_), fun i hi => ?_⟩
  · simp only [List.mem_cons] at hi ⊢
    rcases hi with hi | hi | hi | hi <;> simp [hi]
  · simp only [List.mem_cons] at hi ⊢
    rcases hi with hi | hi | hi | hi | hi
    · simp [hi]
    · simp [hi]
    · simp [hi]
    · simp [hi]
    · rcases h3 i hi with z | z
      · simp [z]
      · exact .inr z
/-- a machine made -/
theorem Mh.make {S : Sto} {g : Rg} {words : List Int} (hm : 7 < m) (hm1 : m < 18446744073709551616) (hl : words.length = 256) (hD : DigAt m S j) (hg : Good m g) (hw : ∀ x ∈ words, Word x) :
    ∃ st' A, m_Machine_init [.ref S.length, .ref j, rgW g, .tup (words.map W.int)] (S ++ [.ins 3 []]) = .ok .non st' ∧ Mh m j S.length ⟨g, [], words⟩ A st' ∧ Only [] S st' ∧ S.length < st'.length ∧ (∀ i ∈ A, S.length ≤ i) ∧ (∃ fs, st'[S.length]? = some (.ins 3 fs)) := by
  obtain ⟨st', T, e1, rfl, h5, h6⟩ := t_machinit (rgW g) (by omega) hm1 hl hD
  have hr : List.range 9 = [0, 1, 2, 3, 4, 5, 6, 7, 8] := rfl
  refine ⟨S ++ T, _, e1, ⟨_, _, _, _, rfl, ⟨h5, h6, hD.app, ?_, hg, hw, by simpa using hg.cnt.1⟩⟩, Only.app _ _ _, (List.getElem?_eq_some_iff.mp h5).1, fun i hi => ?_, _, h5⟩
  · rw [hr]
    simp [ad]
    omega
  · rw [hr] at hi
    simp [ad] at hi
    omega
theorem Mh.regs (h : Mh m j M s A st) : m_Machine_registers [.ref M] st = .ok (rgW s.g) st := by
  obtain ⟨e, w, r, rs, rfl, h⟩ := h
  exact t_mregs h
theorem Mh.words (h : Mh m j M s A st) : m_Machine_words [.ref M] st = .ok (.tup (s.w.map W.int)) st := by
  obtain ⟨e, w, r, rs, rfl, h⟩ := h
  exact t_mwords h
theorem Mh.told (h : Mh m j M s A st) : m_Machine_told [.ref M] st = .ok (.tup (s.t.map W.int)) st := by
  obtain ⟨e, w, r, rs, rfl, h⟩ := h
  exact t_mtold h
theorem Mh.root (h : Mh m j M s A st) : m_Machine_root [.ref M] st = .ok (.int (gt (lv m s.w 8) 0)) st := by
  obtain ⟨e, w, r, rs, rfl, h⟩ := h
  exact t_mroot h
theorem Mh.digest (h : Mh m j M s A st) (hm : 7 < m) (hm1 : m < 4611686018427387904) : m_Machine_digest [.ref M] st = .ok (.int (digN m s.g s.w)) st := by
  obtain ⟨e, w, r, rs, rfl, h⟩ := h
  exact t_mdig h hm hm1
theorem Mh.obj (h : Mh m j M s A st) : ∃ e, st[M]? = some (.ins 3 (machF j e (rgW s.g) (.tup (s.t.map W.int)))) := by
  obtain ⟨e, w, r, rs, rfl, h⟩ := h
  exact ⟨e, h.mo⟩
end
end Gn

namespace Gn
open PySem L2 Mi
/-- Machine.word -/
theorem Mh.word {m : Int} {j M : Nat} {s : Ms} {A : List Nat} {st : Sto} (h : Mh m j M s A st) (p : Nat) (hp : p < 256) : m_Machine_word [.ref M, .int (p : Int)] st = .ok (.int (gt s.w p)) st := by
  obtain ⟨e, w, r, rs, rfl, h⟩ := h
  have h1 := t_memword h p hp
  have h2 := h.mo
  have h3 := h.me.ob
  simp only [m_Machine_word, b_Machine_word]
  simp [h2, h3, h1]
end Gn

namespace Gn
open PySem L2 Mi
/-! ### what a step reads -/
theorem mkN_na {n : Nat} (h : ¬ Asks n) (a : Nat) (x cnt acc d d' : Int) : mkN n a x cnt acc d = mkN n a x cnt acc d' := by
  unfold Asks at h
  have h1 : n ≠ 10 := by omega
  have h2 : ¬ (12 ≤ n ∧ n ≤ 22) := by omega
  simp only [mkN, h1, h2, false_and, if_false]
theorem pcB_na {n : Nat} (h : ¬ Asks n) (a : Nat) (pc acc d d' : Int) : pcB n a pc acc d = pcB n a pc acc d' := by
  unfold Asks at h
  have h1 : n ≠ 27 := by omega
  simp only [pcB, h1, if_false]
theorem accB_na {n : Nat} (h : ¬ Asks n) (a : Nat) (acc d d' : Int) : accB n a acc d = accB n a acc d' := by
  unfold Asks at h
  have h1 : ¬ (n = 3 ∨ n = 5) := by omega
  have h2 : ¬ (12 ≤ n ∧ n ≤ 22) := by omega
  simp only [accB, h1, h2, if_false]
theorem xB_na {n : Nat} (h : ¬ Asks n) (acc x d d' : Int) : xB n acc x d = xB n acc x d' := by
  unfold Asks at h
  have h1 : n ≠ 8 := by omega
  simp only [xB, h1, if_false]
/-- the places that a step reads or changes -/
def uses (s : Ms) : List Int := if s.g.mrk = 0 then (if (nOf s.g s.w = 4 ∨ nOf s.g s.w = 6 ∨ nOf s.g s.w = 26) ∨ Asks (nOf s.g s.w) then [s.g.pc, plB (nOf s.g s.w) (aOf s.g s.w) s.g.x] else [s.g.pc]) else []
/-- a step of two machines that differ at places that it does not use -/
theorem nx_sim {m : Int} {s s' : Ms} (hg : s'.g = s.g) (ht : s'.t = s.t) (hu : ∀ p ∈ uses s, gt s'.w p.toNat = gt s.w p.toNat) :
    (nx m s').g = (nx m s).g ∧ (nx m s').t = (nx m s).t ∧ (((nx m s).w = s.w ∧ (nx m s').w = s'.w) ∨ ∃ p ∈ uses s, ∃ v, (nx m s).w = s.w.set p.toNat v ∧ (nx m s').w = s'.w.set p.toNat v) := by
  obtain ⟨g, t, w⟩ := s
  obtain ⟨g', t', w'⟩ := s'
  cases hg
  cases ht
  by_cases hk : g.mrk = 0
  · have e1 : ∀ v, nxG m g v = stepG m g v := fun _ => if_pos hk
    have e2 : ∀ v, nxW g v = stepW g v := fun _ => if_pos hk
    have e3 : ∀ v, nxT g t v = stepT g t v := fun _ => if_pos hk
    simp only [nx, e1, e2, e3]
    simp only [uses, hk, if_true] at hu ⊢
    have hpc : gt w' g.pc.toNat = gt w g.pc.toNat := hu g.pc (by split <;> simp)
    have hn : nOf g w' = nOf g w := by unfold nOf; rw [hpc]
    have ha : aOf g w' = aOf g w := by unfold aOf; rw [hpc]
    generalize hN : nOf g w = n at hn hu ⊢
    generalize hA : aOf g w = a at ha hu ⊢
    by_cases hA2 : Asks n
    · have hd : dOf g w' = dOf g w := by
        unfold dOf
        rw [hn, ha, hN, hA]
        exact hu _ (by rw [if_pos (.inr hA2)]; simp)
      have hm : mOf g w' = mOf g w := by unfold mOf; rw [hn, ha, hN, hA, hd]
      refine ⟨?_, ?_, ?_⟩
      · simp only [stepG, hm, hn, ha, hN, hA, hd]
      · simp only [stepT, hm, hn, hN]
      · left
        have hw : wrB n g.pc g.acc = none := by
          unfold Asks at hA2
          unfold wrB
          rw [if_neg (by omega), if_neg (by omega)]
        simp only [stepW, hm, hn, hN, hw]
        cases mOf g w <;> exact ⟨rfl, rfl⟩
    · have hm : mOf g w' = mOf g w := by
        unfold mOf
        rw [hn, ha, hN, hA]
        exact mkN_na hA2 _ _ _ _ _ _
      refine ⟨?_, ?_, ?_⟩
      · simp only [stepG, hm, hn, ha, hN, hA]
        rw [pcB_na hA2 a g.pc g.acc (dOf g w') (dOf g w), accB_na hA2 a g.acc (dOf g w') (dOf g w), xB_na hA2 g.acc g.x (dOf g w') (dOf g w)]
      · simp only [stepT, hm, hn, hN]
      · cases hmo : mOf g w with
        | some s => simp only [stepW, hm, hmo]; exact .inl ⟨trivial, trivial⟩
        | none =>
          cases hwr : wrB n g.pc g.acc with
          | none => simp only [stepW, hm, hmo, hn, hN, hwr]; exact .inl ⟨trivial, trivial⟩
          | some v =>
            have h4 : n = 4 ∨ n = 6 ∨ n = 26 := by
              unfold wrB at hwr
              split at hwr
              · omega
              · split at hwr
                · omega
                · cases hwr
            right
            refine ⟨plB n a g.x, by rw [if_pos (.inl h4)]; simp, v, ?_⟩
            simp only [stepW, hm, hmo, hn, ha, hN, hA, hwr, and_self]
  · have e1 : ∀ v, nxG m g v = g := fun _ => if_neg hk
    have e2 : ∀ v, nxW g v = v := fun _ => if_neg hk
    have e3 : ∀ v, nxT g t v = t := fun _ => if_neg hk
    simp only [nx, e1, e2, e3]
    simp
theorem uses_in {m : Int} {s : Ms} (h : Ok m s) : ∀ p ∈ uses s, 0 ≤ p ∧ p < 256 := by
  intro p hp
  have h1 := h.go.pc
  have h2 := plB_in (nOf s.g s.w) (aOf s.g s.w) s.g.x
  unfold uses at hp
  split at hp
  · split at hp
    · simp only [List.mem_cons, List.not_mem_nil, or_false] at hp
      rcases hp with rfl | rfl <;> assumption
    · simp only [List.mem_cons, List.not_mem_nil, or_false] at hp
      subst hp; exact h1
  · simp at hp
/-- told words are appended -/
theorem nxT_app (g : Rg) (t u w : List Int) : nxT g (t ++ u) w = t ++ nxT g u w := by
  unfold nxT stepT
  split
  · cases mOf g w with
    | some s => rfl
    | none => simp only []; split <;> simp
  · rfl
theorem ok_nx {m : Int} {s : Ms} (hm : 7 < m) (h : Ok m s) : Ok m (nx m s) := by
  by_cases hk : s.g.mrk = 0
  · have e1 : nxG m s.g s.w = stepG m s.g s.w := if_pos hk
    have e2 : nxW s.g s.w = stepW s.g s.w := if_pos hk
    have e3 : nxT s.g s.t s.w = stepT s.g s.t s.w := if_pos hk
    obtain ⟨G1, G2, G3⟩ := good_step hm h.go h.ww h.tl (told := s.t)
    have hl : (stepW s.g s.w).length = 256 := by
      unfold stepW
      have := h.wl
      cases mOf s.g s.w with
      | some s => exact this
      | none => simp only []; split <;> simp [this]
    exact ⟨by show Good m (nxG m s.g s.w); rw [e1]; exact G1, by show ∀ x ∈ nxW s.g s.w, _; rw [e2]; exact G2, by show (nxW s.g s.w).length = 256; rw [e2]; exact hl, by show ((nxT s.g s.t s.w).length : Int) ≤ (nxG m s.g s.w).cnt; rw [e1, e3]; exact G3⟩
  · have e1 : nxG m s.g s.w = s.g := if_neg hk
    have e2 : nxW s.g s.w = s.w := if_neg hk
    have e3 : nxT s.g s.t s.w = s.t := if_neg hk
    have : nx m s = s := by unfold nx; rw [e1, e2, e3]
    rw [this]; exact h
theorem ok_run {m : Int} {s : Ms} (hm : 7 < m) (h : Ok m s) : ∀ n, Ok m (runM m n s)
  | 0 => h
  | n + 1 => ok_nx hm (ok_run hm h n)
end Gn

namespace Gn
open PySem L2 Mi
/-! ### paths -/
def sib (p : Nat) : Nat := p + 1 - 2 * (p % 2)
theorem xor1 (p : Nat) : Builtin.bitXor (p : Int) 1 = ((sib p : Nat) : Int) := by
  have h : Builtin.bitAnd (p : Int) 1 = ((p % 2 : Nat) : Int) := by
    have e : Builtin.bitAnd (p : Int) 1 = ((p &&& 1 : Nat) : Int) := by simp [Builtin.bitAnd]
    rw [e, Nat.and_one_is_mod]
  rw [PyProof.Rows.bitXor_and, h]
  unfold sib
  omega
theorem sib_lt {p n : Nat} (h : p < 2 * n) : sib p < 2 * n := by unfold sib; omega
/-- the path of a place in a memory -/
def pathN (m : Int) (words : List Int) (p : Nat) : List Int := (List.range 8).map fun k => gt (lv m words k) (sib (p / 2 ^ k))
theorem atI_ints' {row : List Int} {p : Nat} {i : Int} (hp : p < row.length) (hi : i = (p : Int)) : atI (row.map W.int) i = some (.int (gt row p)) := by
  rw [hi]; exact atI_ints row p hp
theorem half (p k : Nat) : ((p / 2 ^ k : Nat) : Int) / 2 = ((p / 2 ^ (k + 1) : Nat) : Int) := by
  have : p / 2 ^ (k + 1) = p / 2 ^ k / 2 := by rw [Nat.div_div_eq_div_mul, Nat.pow_succ]
  rw [this]; omega
theorem lv_len {m : Int} {words : List Int} (h : words.length = 256) (k : Nat) : (lv m words k).length = 256 / 2 ^ k := lev_len2 m words h k
theorem sib_in {p k : Nat} (hp : p < 256) (hk : k < 8) : sib (p / 2 ^ k) < 256 / 2 ^ k := by
  obtain ⟨p1, p2, p3, p4, p5⟩ := pow_sm k hk
  rw [p3]
  refine sib_lt ?_
  rw [← p3]
  exact Nat.div_lt_div_of_lt_of_dvd (pow_dv k (by omega)) hp
theorem path_take (m : Int) (words : List Int) (p k : Nat) (hk : k < 8) : ((pathN m words p).take (k + 1)) = (pathN m words p).take k ++ [gt (lv m words k) (sib (p / 2 ^ k))] := by
  rw [List.take_succ]
  simp [pathN, hk]
theorem path_len (m : Int) (words : List Int) (p : Nat) : (pathN m words p).length = 8 := by simp [pathN]
section
variable {m : Int} {j M : Nat} {s : Ms} {A : List Nat} {st : Sto}
theorem Mh.path (h : Mh m j M s A st) (p : Nat) (hp : p < 256) : m_Machine_path [.ref M, .int (p : Int)] st = .ok (.tup ((pathN m s.w p).map W.int)) (st ++ [.lst ((pathN m s.w p).map W.int)]) := by
  obtain ⟨e, w, r, rs, rfl, h⟩ := h
  have c1 := h.mo
  have c2 := h.me.ob
  have c3 := h.me.ro
  have c8 := cut8 rs h.me.rl
  have key := loop_st (ws := (rs.take 8).map W.ref) (g := mGN 3) (n := 8) (s := [some (.ref e), some (.int (p : Int)), some (.ref st.length), none]) (st := st ++ [.lst []]) (body := l0_Memory_path) (by simp [h.me.rl])
    (fun k s2 t => (∃ x : Option W, s2 = [some (.ref e), some (.int ((p / 2 ^ k : Nat) : Int)), some (.ref st.length), x]) ∧ t = st ++ [.lst (((pathN m s.w p).take k).map W.int)])
    ⟨⟨none, by simp⟩, by simp⟩ (by
      rintro k w' s2 t hw ⟨⟨x, rfl⟩, rfl⟩
      rw [List.getElem?_map] at hw
      have hk : k < 8 := by
        rcases Nat.lt_or_ge k 8 with hk | hk
        · exact hk
        · rw [List.getElem?_eq_none (by simp; omega)] at hw; cases hw
      rw [List.getElem?_take_of_lt hk] at hw
      obtain ⟨a, ha⟩ : ∃ a, rs[k]? = some a := ⟨rs[k]'(by have := h.me.rl; omega), List.getElem?_eq_getElem _⟩
      rw [ha] at hw
      cases hw
      have hrow := app_lt (t := [Ob.lst (((pathN m s.w p).take k).map W.int)]) (h.me.rw k a ha)
      refine ⟨_, _, rfl, ?_⟩
      have at1 := atI_ints (lv m s.w k) (sib (p / 2 ^ k)) (by rw [lv_len h.me.wl]; exact sib_in hp hk)
      have hx := xor1 (p / 2 ^ k)
      have hh := half p k
      have hpt := path_take m s.w p k hk
      have hsz : (((pathN m s.w p).take k).map W.int).length < sizeLine := by rw [sizeLine_eq, List.length_map, List.length_take, path_len]; omega
      have g1 : (st ++ [Ob.lst (((pathN m s.w p).take k).map W.int)])[st.length]? = some (Ob.lst (((pathN m s.w p).take k).map W.int)) := by simp
      generalize p / 2 ^ k = q at *
      rw [hpt, List.map_append]
      generalize ((pathN m s.w p).take k).map W.int = R at *
      simp only [mGN, List.set]
      simp only [l0_Memory_path]
      simp [hrow, hx, at1, hh, hsz])
  obtain ⟨s8, t8, hlp, ⟨x, rfl⟩, rfl⟩ := key
  have ht : (pathN m s.w p).take 8 = pathN m s.w p := List.take_of_length_le (by rw [path_len]; exact Nat.le_refl _)
  rw [ht] at hlp
  have e1 : m_Memory_path [.ref e, .int (p : Int)] st = .ok (.tup ((pathN m s.w p).map W.int)) (st ++ [.lst ((pathN m s.w p).map W.int)]) := by
    generalize (pathN m s.w p).map W.int = V at hlp ⊢
    have d1 := app_lt (t := [Ob.lst []]) c2
    have d2 := app_lt (t := [Ob.lst []]) c3
    refine def_rt rfl ?_
    show b_Memory_path [some (.ref e), some (.int (p : Int)), none, none] st = _
    unfold b_Memory_path
    refine seq_nx (by simp [sizeLine_eq]; exact ⟨rfl, rfl⟩) ?_
    refine seq_nx (by simp [d1, d2, c8, h.me.rl, -List.map_take, hlp]; exact ⟨rfl, rfl⟩) ?_
    simp
  simp only [m_Machine_path, b_Machine_path]
  simp [c1, c2, e1]
end
end Gn

namespace Gn
open PySem L2 Mi
/-! ### the form of openings -/
def isI (w : W) (a b : Int) : Bool := match w with
  | .int x => decide (a ≤ x) && decide (x ≤ b)
  | _ => false
/-- a value without objects of the store -/
def plainW : W → Bool
  | .ref _ => false
  | _ => true
theorem t_isinteger (w : W) (a b : Int) (st : Sto) (h : plainW w = true) : m_is_integer [w, .int a, .int b] st = .ok (.bl (isI w a b)) st := by
  simp only [m_is_integer, b_is_integer]
  cases w with
  | int x =>
    by_cases h1 : a ≤ x
    · simp [isI, h1]
    · simp [isI, h1]
  | ref i => cases h
  | bl b => cases b <;> simp [isI]
  | _ => simp [isI]
theorem t_isword (w : W) (st : Sto) (h : plainW w = true) : m_is_word [w] st = .ok (.bl (isI w 0 65535)) st := by
  have e := t_isinteger w 0 65535 st h
  simp only [m_is_word, b_is_word, w_MOST_WORD]
  simp [e]
theorem t_isdigest {m : Int} {j : Nat} {st : Sto} (hD : DigAt m st j) (w : W) (h : plainW w = true) : m_Digests_is_digest [.ref j, w] st = .ok (.bl (isI w 0 (m - 1))) st := by
  have e := t_isinteger w 0 (m - 1) st h
  obtain ⟨_, ho, b, rfl⟩ := hD
  simp only [m_Digests_is_digest, b_Digests_is_digest]
  simp [ho, e]
def areR (m : Int) : W → Bool
  | .tup [a, b, c, d, e, f] => isI a 0 255 && isI b 0 65535 && isI c 0 65535 && isI d 0 6 && isI e 0 (m - 1) && isI f 0 16
  | _ => false
section
variable {m : Int} {j : Nat} {st : Sto} (hD : DigAt m st j)
include hD
theorem t_areregs (w : W) (h : plainW w = true) (hi : ∀ ws, w = .tup ws → ∀ x ∈ ws, plainW x = true) : m_are_registers [.ref j, w] st = .ok (.bl (areR m w)) st := by
  have hm : w_MARKS = W.tup [.str "long", .str "done", .str "divided", .str "place", .str "input", .str "full", .str "bad"] := rfl
  simp only [m_are_registers, b_are_registers, w_PLACES, w_MOST_TOLD]
  cases w with
  | tup ws =>
    match ws, hi ws rfl with
    | [a, b, c, d, e, f], hp =>
      have ea := t_isinteger a 0 255 st (hp a (by simp))
      have eb := t_isword b st (hp b (by simp))
      have ec := t_isword c st (hp c (by simp))
      have ed := t_isinteger d 0 6 st (hp d (by simp))
      have ee := t_isdigest hD e (hp e (by simp))
      have ef := t_isinteger f 0 16 st (hp f (by simp))
      obtain ⟨_, ho, bb, rfl⟩ := hD
      cases h1 : isI a 0 255 <;> cases h2 : isI b 0 65535 <;> cases h3 : isI c 0 65535 <;> cases h4 : isI d 0 6 <;> cases h5 : isI e 0 (m - 1) <;>
        simp [areR, ea, eb, ec, ed, ee, ef, h1, h2, h3, h4, h5, hm, ho]
    | [], _ => simp [areR]
    | [a], _ => simp [areR]
    | [a, b], _ => simp [areR]
    | [a, b, c], _ => simp [areR]
    | [a, b, c, d], _ => simp [areR]
    | [a, b, c, d, e], _ => simp [areR]
    | a :: b :: c :: d :: e :: f :: g :: r, _ =>
      have h7 : ¬ (r.length : Int) + 1 + 1 + 1 + 1 + 1 + 1 + 1 = 6 := by omega
      simp [areR, h7]
  | ref i => cases h
  | _ => simp [areR]
end
end Gn

namespace Gn
open PySem L2 Mi
/-! ### parts, openings -/
theorem boolsW_map {α : Type} (f : α → Bool) : ∀ l : List α, boolsW (l.map fun x => W.bl (f x)) = some (l.map f)
  | [] => rfl
  | x :: l => by simp [boolsW_map f l]
theorem mAll_map {α : Type} (f : α → Bool) (l : List α) (st : Sto) : mAll [.lst (l.map fun x => W.bl (f x))] st = .ok (.bl (l.all f)) st := by
  simp only [mAll, asL, boolsW_map]
  rw [List.all_map]; rfl
/-- all([.. for x in a tuple]) -/
theorem all_tup {it : MI} {n v : Nat} {e : ME} {s : Slo} {st : Sto} {ws : List W} (f : W → Bool) (hi : it s st = .ok (.vals ws) st) (hl : ws.length ≤ 1000000) (h : ∀ w ∈ ws, e ((wipeW s [v]).set v (some w)) st = .ok (.bl (f w)) st) :
    mCB mAll (mCons (mLc it (.nm v) mYes e [v]) mNil) s st = .ok (.bl (ws.all f)) st := by
  have z := mLc_of (n := .nm v) (t := mYes) (e := e) (vs := [v]) hi hl (fun _ => true) (fun w => .bl (f w)) (fun w hw => ⟨_, rfl, rfl, fun _ => h w hw⟩)
  rw [filter_yes] at z
  simp only [mCB, mCons, z, Out.bind, mNil, mAll_map f ws]
def isP (m : Int) : W → Bool
  | .tup [a, .tup p] => isI a 0 65535 && decide (p.length = 8) && p.all fun x => isI x 0 (m - 1)
  | _ => false
section
variable {m : Int} {j : Nat} {st : Sto} (hD : DigAt m st j)
include hD
theorem t_ispart (a : W) (p : List W) (ha : plainW a = true) (hp : ∀ x ∈ p, plainW x = true) (hl : p.length ≤ 1000000) : m_is_part [.ref j, .tup [a, .tup p]] st = .ok (.bl (isP m (.tup [a, .tup p]))) st := by
  have e1 := t_isword a st ha
  have e2 := all_tup (it := mITup (mOp mIx (mVar 1) (mC (W.int 1)))) (n := 2) (v := 2) (e := e0_is_part) (s := [some (.ref j), some (.tup [a, .tup p]), none]) (st := st) (ws := p) (fun x => isI x 0 (m - 1)) (by simp) hl (fun w hw => by
    have e := t_isdigest hD w (hp w hw)
    obtain ⟨_, ho, bb, rfl⟩ := hD
    simp [e0_is_part, wipeW, ho, e])
  have h8 : ((p.length : Int) = 8) = (p.length = 8) := by apply propext; omega
  refine def_rt rfl ?_
  show b_is_part [some (.ref j), some (.tup [a, .tup p]), none] st = _
  unfold b_is_part
  simp only [w_DEPTH]
  by_cases h1 : isI a 0 65535 = true
  · by_cases h2 : p.length = 8
    · refine seq_nx (by simp [e1, h1]; exact ⟨rfl, rfl⟩) ?_
      refine seq_nx (by simp [h8, h2]; exact ⟨rfl, rfl⟩) ?_
      simp only [mRet, e2, Out.run]
      simp [isP, h1, h2]
    · refine seq_nx (by simp [e1, h1]; exact ⟨rfl, rfl⟩) ?_
      refine seq_rt ?_
      simp [h8, h2, isP]
  · refine seq_rt ?_
    simp at h1
    simp [e1, h1, isP]
def isO (m : Int) : W → Bool
  | .tup [r, d, .tup ps] => areR m r && isI d 0 (m - 1) && ps.all (isP m)
  | _ => false
/-- a part as a value -/
def prt (a : Int) (p : List Int) : W := .tup [.int a, .tup (p.map W.int)]
theorem t_isopening (r : Rg) (d : Int) (ps : List (Int × List Int)) (hl : ps.length ≤ 1000) (hp : ∀ q ∈ ps, q.2.length ≤ 1000000) :
    m_is_opening [.ref j, .tup [rgW r, .int d, .tup (ps.map fun q => prt q.1 q.2)]] st = .ok (.bl (isO m (.tup [rgW r, .int d, .tup (ps.map fun q => prt q.1 q.2)]))) st := by
  have e1 := t_areregs hD (rgW r) rfl (fun ws h x hx => by injection h with h; subst h; simp at hx; rcases hx with rfl | rfl | rfl | rfl | rfl | rfl <;> rfl)
  have e2 := t_isdigest hD (.int d) rfl
  have e3 := all_tup (it := mITup (mOp mIx (mVar 1) (mC (W.int 2)))) (n := 2) (v := 2) (e := e0_is_opening) (s := [some (.ref j), some (.tup [rgW r, .int d, .tup (ps.map fun q => prt q.1 q.2)]), none]) (st := st) (ws := ps.map fun q => prt q.1 q.2) (isP m) (by simp) (by rw [List.length_map]; omega) (fun w hw => by
    simp only [List.mem_map] at hw
    obtain ⟨q, hq, rfl⟩ := hw
    have e := t_ispart hD (.int q.1) (q.2.map W.int) rfl (fun x hx => by simp only [List.mem_map] at hx; obtain ⟨y, _, rfl⟩ := hx; rfl) (by rw [List.length_map]; exact hp q hq)
    simp only [prt]
    simp [e0_is_opening, wipeW, e])
  generalize (ps.map fun q => prt q.1 q.2) = Q at *
  refine def_rt rfl ?_
  show b_is_opening [some (.ref j), some (.tup [rgW r, .int d, .tup Q]), none] st = _
  unfold b_is_opening
  refine seq_nx (by simp; exact ⟨rfl, rfl⟩) ?_
  obtain ⟨_, ho, bb, rfl⟩ := hD
  by_cases h1 : areR m (rgW r) = true
  · by_cases h2 : isI (.int d) 0 (m - 1) = true
    · refine seq_nx (by simp [e1, h1, ho, e2, h2]; exact ⟨rfl, rfl⟩) ?_
      simp only [mRet, e3, Out.run]
      simp [isO, h1, h2]
    · refine seq_rt ?_
      simp only [Bool.not_eq_true] at h2
      simp [e1, h1, ho, e2, h2, isO]
  · refine seq_rt ?_
    simp only [Bool.not_eq_true] at h1
    simp [e1, h1, isO]
end
end Gn

namespace Gn
open PySem L2 Mi
/-! ### a run that changes A and tells the book just the rows L -/
structure Gm (m : Int) (j bk T : Nat) (A : List Nat) (st : Sto) (B : BS) (st' : Sto) (B' : BS) (L : List Row) : Prop where
  inv : DigB m st' j bk T B'
  only : Only (A ++ fpB bk T B.es) st st'
  grow : ∀ i ∈ fpB bk T B'.es, i ∈ fpB bk T B.es ∨ st.length ≤ i
  told : ∀ r, TR B'.es r ↔ TR B.es r ∨ r ∈ L
  cnt : B'.n = B.n + L.length
  col : B.c = true → B'.c = true
section
variable {m : Int} {j bk T : Nat} {A A' : List Nat} {st st' st'' : Sto} {B B' B'' : BS} {L L' : List Row}
theorem Gx.gm (h : Gx m j bk T st B st' B' L) : Gm m j bk T [] st B st' B' L := ⟨h.inv, h.only, h.grow, h.told, h.cnt, h.col⟩
theorem Gm.refl (h : DigB m st j bk T B) : Gm m j bk T [] st B st B [] := (Gx.refl h).gm
theorem Gm.trans (a : Gm m j bk T A st B st' B' L) (b : Gm m j bk T A' st' B' st'' B'' L') (hA : ∀ i ∈ A', i < st.length → i ∈ A) : Gm m j bk T A st B st'' B'' (L ++ L') where
  inv := b.inv
  only := a.only.trans b.only fun i hi hl => by
    rcases List.mem_append.mp hi with hi | hi
    · exact List.mem_append_left _ (hA i hi hl)
    · exact (a.grow i hi).elim (fun x => List.mem_append_right _ x) fun x => by omega
  grow := fun i hi => (b.grow i hi).elim (fun x => a.grow i x) fun x => .inr (Nat.le_trans a.only.1 x)
  told := fun r => by rw [b.told, a.told, List.mem_append, or_assoc]
  cnt := by rw [b.cnt, a.cnt, List.length_append]; omega
  col := fun h => b.col (a.col h)
theorem Gm.mono (a : Gm m j bk T A st B st' B' L) (h : ∀ i ∈ A, i < st.length → i ∈ A') : Gm m j bk T A' st B st' B' L :=
  ⟨a.inv, a.only.mono fun i hi hl => by
    rcases List.mem_append.mp hi with hi | hi
    · exact List.mem_append_left _ (h i hi hl)
    · exact List.mem_append_right _ hi, a.grow, a.told, a.cnt, a.col⟩
theorem Gm.safe (a : Gm m j bk T A st B st' B' L) {i : Nat} (hl : i < st.length) (hn : i ∉ fpB bk T B.es) : i ∉ fpB bk T B'.es ∧ (i ∉ A → st'[i]? = st[i]?) :=
  ⟨fun z => (a.grow i z).elim hn fun x => by omega, fun hA => a.only.2 i hl fun z => (List.mem_append.mp z).elim hA hn⟩
theorem Gm.rd (a : Gm m j bk T A st B st' B' L) {i : Nat} {o : Ob} (e : st[i]? = some o) (hn : i ∉ fpB bk T B.es) (hA : i ∉ A) : st'[i]? = some o := ((a.safe (gE e).1 hn).2 hA).trans e
theorem Gm.set (h : DigB m st j bk T B) {i : Nat} (hj : i ≠ j) (hn : i ∉ fpB bk T B.es) (o : Ob) : Gm m j bk T [i] st B (st.set i o) B [] :=
  ⟨h.keep (Only.set (A := [i]) (by simp)) (by simp only [List.mem_singleton]; rintro k rfl; exact ⟨hj, hn⟩), (Only.set (A := [i]) (by simp)).mono (fun k hk _ => List.mem_append_left _ hk), fun k hk => .inl hk, fun r => by simp, rfl, fun h => h⟩
theorem Gm.app (h : DigB m st j bk T B) (S : Sto) : Gm m j bk T [] st B (st ++ S) B [] := (Gx.app h S).gm
theorem Gm.grew (a : Gm m j bk T A st B st' B' L) (S : Sto) : Gm m j bk T A st B (st' ++ S) B' L := by
  have h := a.trans (Gm.app a.inv S) (by simp)
  rwa [List.append_nil] at h
theorem Gm.put (a : Gm m j bk T A st B st' B' L) {i : Nat} (hA : i < st.length → i ∈ A) (hj : i ≠ j) (hn : i ∉ fpB bk T B'.es) (o : Ob) : Gm m j bk T A st B (st'.set i o) B' L := by
  have h := a.trans (Gm.set a.inv hj hn o) (by simp only [List.mem_singleton]; rintro k rfl hl; exact hA hl)
  rwa [List.append_nil] at h
end
/-- a comprehension over a list of the store, whose items change the store -/
theorem lc_invC {ws : List W} {c n : Nat} (hn : ws.length = n) {g : MG} {e : ME} {s : Slo} (I : Nat → List W → Sto → Prop) (hc : ∀ i acc st, I i acc st → st[c]? = some (.lst ws))
    (h : ∀ i w acc st, ws[i]? = some w → I i acc st → ∃ s2 y st', g w s st = some (s2, st) ∧ e s2 st = .ok y st' ∧ I (i + 1) (acc ++ [y]) st') :
    ∀ (k i : Nat) (acc : List W) (st : Sto), i + k = n → acc.length + k ≤ sizeLine → I i acc st → ∃ ys st', mLcLoop (.cell c n) g mYes e s k i acc st = .ok ys st' ∧ I n ys st'
  | 0, i, acc, st, hk, hl, hI => by
    have : i = n := by omega
    subst this
    exact ⟨acc, st, by simp [mLcLoop, Src.fine, hc i acc st hI, hn], hI⟩
  | k + 1, i, acc, st, hk, hl, hI => by
    have hi : i < ws.length := by omega
    obtain ⟨s2, y, st1, hg, he, h1⟩ := h i ws[i] acc st (List.getElem?_eq_getElem hi) hI
    obtain ⟨ys, st2, e2, h2⟩ := lc_invC hn I hc h k (i + 1) (acc ++ [y]) st1 (by omega) (by simp; omega) h1
    refine ⟨ys, st2, ?_, h2⟩
    have ht : mYes s2 st = .ok true st := rfl
    simp only [mLcLoop, Src.fine, Src.at, hc i acc st hI, hn, decide_true, if_true, List.getElem?_eq_getElem hi, hg, ht, he]
    rw [if_pos (by omega), e2]
/-! ### folds -/
def foldRow (m : Int) (row : List Int) (i : Nat) : Row := ("fold", foldN m (gt row (2 * i)) (gt row (2 * i + 1)), .many [gt row (2 * i), gt row (2 * i + 1)])
def foldRows (m : Int) (row : List Int) (n : Nat) : List Row := (List.range n).map (foldRow m row)
def leafRow (m : Int) (w : Int) : Row := ("leaf", leafN m w, .one w)
theorem range_snoc {α : Type} (f : Nat → α) (k : Nat) : (List.range (k + 1)).map f = (List.range k).map f ++ [f k] := by rw [List.range_succ, List.map_append]; rfl
section
variable {m : Int} (hm : 0 < m) (hm1 : m < 18446744073709551616)
include hm hm1
theorem t_e0X {j bk T a : Nat} {st : Sto} {B : BS} {row : List Int} (hD : DigB m st j bk T B) (hn : B.n < 999999) (ha : st[a]? = some (.lst (row.map W.int))) (hr : ∀ x ∈ row, In m x) (i : Nat) (hp : 2 * i + 1 < row.length) (u : List (Option W)) :
    ∃ st' B', e0_folded (some (.ref j) :: some (.ref a) :: some (.int ((2 * i : Nat) : Int)) :: u) st = .ok (.int (foldN m (gt row (2 * i)) (gt row (2 * i + 1)))) st' ∧ Gx m j bk T st B st' B' [foldRow m row i] := by
  obtain ⟨st', B', f, g⟩ := t_foldX hm hm1 hD hn (gt row (2 * i)) (gt row (2 * i + 1)) (getD_in hm hr _) (getD_in hm hr _)
  refine ⟨st', B', ?_, g⟩
  have at1 := atI_ints row (2 * i) (by omega)
  have at2 : atI (row.map W.int) (((2 * i : Nat) : Int) + 1) = some (.int (gt row (2 * i + 1))) := atI_ints row (2 * i + 1) hp
  obtain ⟨b, ho⟩ := hD.1
  obtain ⟨hi, hg⟩ := gE ho
  obtain ⟨hai, hag⟩ := gE ha
  generalize 2 * i = p at *
  simp [e0_folded, hi, hg, hai, hag, at1, at2, f]
theorem t_foldedX {j bk T a : Nat} {st : Sto} {B : BS} {row : List Int} (hD : DigB m st j bk T B) (ha : st[a]? = some (.lst (row.map W.int))) (hout : a ∉ fpB bk T B.es) (hr : ∀ x ∈ row, In m x)
    (n : Nat) (hn : row.length = 2 * n) (hnn : B.n + n < 999999) (h1 : Builtin.Range.small 0 (row.length : Int) 2 = true) (h2 : Builtin.Range.rangeSize 0 (row.length : Int) 2 = (n : Int)) (hz : n ≤ 1000) :
    ∃ st' B' a', m_folded [.ref j, .ref a] st = .ok (.ref a') st' ∧ st'[a']? = some (.lst ((prs (foldN m) row).map W.int)) ∧ st.length ≤ a' ∧ a' ∉ fpB bk T B'.es ∧ Gx m j bk T st B st' B' (foldRows m row n) := by
  have hal := (gE ha).1
  have hl : row.length / 2 = n := by omega
  obtain ⟨ys, st1, e1, B', g, hys⟩ := lc_inv (ws := (List.range n).map fun k => W.int (0 + (k : Nat) * 2)) (g := NT.m (.nm 2)) (e := e0_folded) (s := [some (.ref j), some (.ref a), none])
    (fun k acc s => ∃ Bk, Gx m j bk T st B s Bk (foldRows m row k) ∧ acc = ((prs (foldN m) row).take k).map W.int)
    (fun k w acc s hw hI => by
      obtain ⟨Bk, g, hacc⟩ := hI
      obtain ⟨hk, hw'⟩ := gE hw
      simp only [List.length_map, List.length_range] at hk
      simp only [List.getElem_map, List.getElem_range] at hw'
      subst hw'
      have ek : (0 : Int) + (k : Nat) * 2 = ((2 * k : Nat) : Int) := by omega
      have q2 := (g.gm.safe hal hout).2 (by simp)
      have hBk : Bk.n < 999999 := by rw [g.cnt]; unfold foldRows; rw [List.length_map, List.length_range]; omega
      obtain ⟨s', B2, f1, g2⟩ := t_e0X hm hm1 g.inv hBk (q2.trans ha) hr k (by omega) []
      have ep : gt (prs (foldN m) row) k = foldN m (gt row (2 * k)) (gt row (2 * k + 1)) := prs_getD _ _ _ (by omega)
      refine ⟨[some (.ref j), some (.ref a), some (.int (0 + (k : Nat) * 2))], _, s', rfl, by rw [ek]; exact f1, B2, ?_, ?_⟩
      · have := g.trans g2
        unfold foldRows at this ⊢
        rw [range_snoc]
        exact this
      · have hkl : k < (prs (foldN m) row).length := by rw [prs_len]; omega
        rw [hacc, List.take_succ, gt_get hkl, ep]
        simp)
    n 0 [] st (by simp) (by simp [sizeLine_eq]; omega) ⟨B, Gx.refl hD, by simp⟩
  simp only [List.length_map, List.length_range] at g hys
  rw [List.take_of_length_le (by rw [prs_len]; omega)] at hys
  have hlt : ∀ i ∈ fpB bk T B'.es, i < st1.length := g.inv.lt
  refine ⟨st1 ++ [.lst ((prs (foldN m) row).map W.int)], B', st1.length, ?_, by simp, g.only.1, fun z => by have := hlt _ z; omega, ?_⟩
  · obtain ⟨hai, hag⟩ := gE ha
    have h3 : (0 : Int) ≤ (n : Int) := by omega
    simp only [m_folded, b_folded]
    simp [hai, hag, h1, h2, wipeW]
    simp at e1
    simp [e1, hys]
  · have := g.trans (Gx.app g.inv [.lst ((prs (foldN m) row).map W.int)])
    rwa [List.append_nil] at this
end
end Gn

namespace Gn
open PySem L2 Mi
/-- rows 0 to k of a memory in the making stand, apart from the book -/
structure MK (m : Int) (j bk T e w r : Nat) (rs : List Nat) (words : List Int) (k lo : Nat) (st : Sto) (B : BS) : Prop where
  dg : DigB m st j bk T B
  ob : st[e]? = some (Ob.ins 2 (memF j w r))
  wo : st[w]? = some (Ob.lst (words.map W.int))
  ro : st[r]? = some (Ob.lst (rs.map W.ref))
  rl : rs.length = k + 1
  rw : ∀ i a, rs[i]? = some a → st[a]? = some (Ob.lst ((lv m words i).map W.int))
  nd : (e :: w :: r :: rs).Nodup
  out : ∀ a ∈ e :: w :: r :: rs, a ∉ fpB bk T B.es ∧ lo ≤ a
/-- what making tells: the folds of the levels below k -/
def lvRows (m : Int) (words : List Int) : Nat → List Row
  | 0 => []
  | k + 1 => lvRows m words k ++ foldRows m (lv m words k) (256 / 2 ^ (k + 1))
theorem foldRows_len (m : Int) (row : List Int) (n : Nat) : (foldRows m row n).length = n := by simp [foldRows]
theorem dig_ne {m : Int} {j bk T : Nat} {st : Sto} {B : BS} (h : DigB m st j bk T B) {a : Nat} {o : Ob} (ha : st[a]? = some o) (hn : ∀ fs, o ≠ .ins 0 fs) : a ≠ j := by
  rintro rfl
  obtain ⟨b, hj⟩ := h.1
  rw [ha] at hj
  cases hj
  exact hn _ rfl
section
variable {m : Int} (hm : 0 < m) (hm1 : m < 18446744073709551616)
include hm hm1
theorem t_mktest {j bk T e w r : Nat} {rs : List Nat} {words : List Int} (hl : words.length = 256) {k lo : Nat} {st : Sto} {B : BS} (h : MK m j bk T e w r rs words k lo st B) (x y z : Option W) : t1_Memory_init [some (.ref e), x, y, z] st = .ok (decide (1 < 256 / 2 ^ k)) st := by
  obtain ⟨hi, hg⟩ := gE h.ob
  obtain ⟨hri, hrg⟩ := gE h.ro
  obtain ⟨a, ha⟩ : ∃ a, rs[k]? = some a := ⟨rs[k]'(by rw [h.rl]; omega), List.getElem?_eq_getElem _⟩
  obtain ⟨hki, hkg⟩ := gE (h.rw k a ha)
  have la : atI (rs.map W.ref) (-1) = some (.ref a) := by
    rw [Mi.atI_last, List.getLast?_eq_getElem?, List.length_map, h.rl, List.getElem?_map]
    simp [ha]
  have hlen := (lev_ok hm hm1 hl k).1
  generalize 256 / 2 ^ k = q at hlen ⊢
  have e : decide ((1 : Int) < (q : Int)) = decide (1 < q) := decide_eq_decide.mpr (by omega)
  simp only [t1_Memory_init]
  simp [hi, hg, hri, hrg, la, hki, hkg, hlen, e]
theorem t_mkstep {j bk T e w r : Nat} {rs : List Nat} {words : List Int} (hl : words.length = 256) {k lo : Nat} (hk : k < 8) {st : Sto} {B : BS} (h : MK m j bk T e w r rs words k lo st B) (hlo : lo ≤ st.length) (hn : B.n < 900000) (y z : Option W) :
    ∃ st' B' a', l2_Memory_init [some (.ref e), some (.ref j), y, z] st = .nx [some (.ref e), some (.ref j), y, z] st' ∧ MK m j bk T e w r (rs ++ [a']) words (k + 1) lo st' B' ∧ Gm m j bk T [r] st B st' B' (foldRows m (lv m words k) (256 / 2 ^ (k + 1))) := by
  obtain ⟨hi, hg⟩ := gE h.ob
  obtain ⟨hri, hrg⟩ := gE h.ro
  obtain ⟨a, ha⟩ : ∃ a, rs[k]? = some a := ⟨rs[k]'(by rw [h.rl]; omega), List.getElem?_eq_getElem _⟩
  have ham : a ∈ rs := List.mem_of_getElem? ha
  have la : atI (rs.map W.ref) (-1) = some (.ref a) := by
    rw [Mi.atI_last, List.getLast?_eq_getElem?, List.length_map, h.rl, List.getElem?_map]
    simp [ha]
  obtain ⟨p1, p2, p3, p4, p5⟩ := pow_sm k hk
  obtain ⟨q1, q2⟩ := lev_ok hm hm1 hl (words := words) k
  obtain ⟨st1, B1, a', f1, ha1, hle, hout1, g1⟩ := t_foldedX hm hm1 h.dg (h.rw k a ha) (h.out a (by simp [ham])).1 q2 (256 / 2 ^ (k + 1)) (by rw [q1, p3]) (by omega) (by rw [q1]; exact p1) (by rw [q1]; exact p2) p5
  have g := g1.gm
  have old : ∀ b ∈ e :: w :: r :: rs, b < st.length := by
    intro b hb
    simp only [List.mem_cons] at hb
    rcases hb with rfl | rfl | rfl | hb
    · exact hi
    · exact (gE h.wo).1
    · exact hri
    · obtain ⟨i, hi2, rfl⟩ := List.getElem_of_mem hb
      exact (gE (h.rw i _ (List.getElem?_eq_getElem hi2))).1
  have keep : ∀ b ∈ e :: w :: r :: rs, ∀ o, st[b]? = some o → st1[b]? = some o := fun b hb o ho => g.rd ho (h.out b hb).1 (by simp)
  have hr1 := keep r (by simp) _ h.ro
  obtain ⟨hri1, hrg1⟩ := gE hr1
  have nds := List.nodup_cons.mp h.nd
  have ndw := List.nodup_cons.mp nds.2
  have ndr := List.nodup_cons.mp ndw.2
  have her : e ≠ r := fun z => nds.1 (by rw [z]; simp)
  have hwr : w ≠ r := fun z => ndw.1 (by rw [z]; simp)
  have hrj : r ≠ j := dig_ne h.dg h.ro (fun _ z => by cases z)
  have hra' : r ≠ a' := fun z => by have := old r (by simp); omega
  have hr1f : r ∉ fpB bk T B1.es := (g.safe (old r (by simp)) (h.out r (by simp)).1).1
  have gs := (g.mono (A' := [r]) (by simp)).put (i := r) (fun _ => by simp) hrj hr1f (Ob.lst ((rs ++ [a']).map W.ref))
  have sl : rs.length < sizeLine := by rw [sizeLine_eq, h.rl]; omega
  refine ⟨st1.set r (Ob.lst ((rs ++ [a']).map W.ref)), B1, a', ?_, ⟨gs.inv, ?_, ?_, ?_, by simp [h.rl], ?_, ?_, ?_⟩, gs⟩
  · simp only [l2_Memory_init]
    simp [hi, hg, hri, hrg, la, f1, hri1, hrg1, sl]
  · rw [List.getElem?_set_ne (Ne.symm her)]; exact keep e (by simp) _ h.ob
  · rw [List.getElem?_set_ne (Ne.symm hwr)]; exact keep w (by simp) _ h.wo
  · rw [List.getElem?_set_self hri1]
  · intro i b hb
    by_cases hik : i < rs.length
    · rw [List.getElem?_append_left hik] at hb
      have hbm : b ∈ rs := List.mem_of_getElem? hb
      rw [List.getElem?_set_ne (fun z => ndr.1 (by rw [z]; exact hbm))]
      exact keep b (by simp [hbm]) _ (h.rw i b hb)
    · rw [List.getElem?_append_right (by omega)] at hb
      have hik2 : i = k + 1 := by
        have := (gE hb).1
        simp at this
        have := h.rl
        omega
      subst hik2
      rw [h.rl, Nat.sub_self] at hb
      cases hb
      rw [List.getElem?_set_ne hra']
      simp only [lv, lev]
      exact ha1
  · have hne : ∀ b ∈ e :: w :: r :: rs, b ≠ a' := fun b hb z => by have := old b hb; omega
    have : e :: w :: r :: (rs ++ [a']) = (e :: w :: r :: rs) ++ [a'] := by simp
    rw [this, List.nodup_append]
    exact ⟨h.nd, by simp, fun b hb c hc => by rw [List.mem_singleton.mp hc]; exact hne b hb⟩
  · intro b hb
    have : b ∈ (e :: w :: r :: rs) ++ [a'] := by simpa using hb
    rcases List.mem_append.mp this with hb | hb
    · exact ⟨(g.safe (old b hb) (h.out b hb).1).1, (h.out b hb).2⟩
    · rw [List.mem_singleton.mp hb]
      exact ⟨hout1, by omega⟩
theorem t_mkloop {j bk T e w r : Nat} {words : List Int} (hl : words.length = 256) {lo : Nat} (y z : Option W) : ∀ (n k : Nat) (rs : List Nat) (st : Sto) (B : BS), k + n = 8 → MK m j bk T e w r rs words k lo st B → lo ≤ st.length → B.n + 256 * n < 900000 →
    ∃ st' B' rs', mWhileN t1_Memory_init l2_Memory_init (n + 1) [some (.ref e), some (.ref j), y, z] st = .nx [some (.ref e), some (.ref j), y, z] st' ∧ MK m j bk T e w r rs' words 8 lo st' B' ∧ ∃ L, lvRows m words 8 = lvRows m words k ++ L ∧ Gm m j bk T [r] st B st' B' L
  | 0, k, rs, st, B, hk, h, hlo, hn => by
    have e8 : k = 8 := by omega
    subst e8
    have ht := t_mktest hm hm1 hl h (some (.ref j)) y z
    refine ⟨st, B, rs, ?_, h, [], by simp, (Gm.refl h.dg).mono (by simp)⟩
    simp only [mWhileN, ht]
    rfl
  | n + 1, k, rs, st, B, hk, h, hlo, hn => by
    have ht := t_mktest hm hm1 hl h (some (.ref j)) y z
    obtain ⟨st1, B1, a', s1, h1, g1⟩ := t_mkstep hm hm1 hl (by omega) h hlo (by omega) y z
    have hB1 : B1.n + 256 * n < 900000 := by
      rw [g1.cnt, foldRows_len]
      have := (pow_sm k (by omega)).2.2.1
      have h2 : 256 / 2 ^ k ≤ 256 := Nat.div_le_self _ _
      omega
    obtain ⟨st2, B2, rs', s2, h2, L, hL, g2⟩ := t_mkloop hl y z n (k + 1) (rs ++ [a']) st1 B1 (by omega) h1 (Nat.le_trans hlo g1.only.1) hB1
    have hp : decide (1 < 256 / 2 ^ k) = true := decide_eq_true (pow_sm k (by omega)).2.2.2.1
    rw [hp] at ht
    refine ⟨st2, B2, rs', ?_, h2, _, ?_, g1.trans g2 (by intro i hi _; exact hi)⟩
    · rw [mWhileN]
      simp only [ht, Out.run, if_true, s1]
      exact s2
    · rw [hL]
      simp only [lvRows, List.append_assoc]
end
end Gn

namespace Gn
open PySem L2 Mi
def pad (ws : List Int) : List Int := ws ++ List.replicate (256 - ws.length) 0
theorem pad_len {ws : List Int} (h : ws.length ≤ 256) : (pad ws).length = 256 := by simp [pad]; omega
/-- all that is told when a memory is made -/
def memRows (m : Int) (words : List Int) : List Row := words.map (leafRow m) ++ lvRows m words 8
section
variable {m : Int} (hm : 0 < m) (hm1 : m < 18446744073709551616)
include hm hm1
theorem t_leafsX {j bk T e : Nat} {words : List Int} (hl : words.length = 256) {S : Sto} {B : BS} (hD : DigB m S j bk T B) (hB : B.n < 900000) (hc : S[e]? = some (Ob.lst (words.map W.int))) (hout : e ∉ fpB bk T B.es) (x y : Option W) :
    ∃ st' B', mLcLoop (.cell e 256) (NT.m (.nm 3)) mYes e0_Memory_init [x, some (.ref j), y, none] 256 0 [] S = .ok ((words.map (leafN m)).map W.int) st' ∧ Gx m j bk T S B st' B' (words.map (leafRow m)) := by
  have hcl := (gE hc).1
  obtain ⟨ys, st1, e1, B', g, hys⟩ := lc_invC (ws := words.map W.int) (c := e) (n := 256) (by simp [hl]) (g := NT.m (.nm 3)) (e := e0_Memory_init) (s := [x, some (.ref j), y, none])
    (fun k acc s => ∃ Bk, Gx m j bk T S B s Bk ((words.take k).map (leafRow m)) ∧ acc = ((words.map (leafN m)).take k).map W.int)
    (fun k acc s hI => by
      obtain ⟨Bk, g, -⟩ := hI
      exact g.gm.rd hc hout (by simp))
    (fun k w acc s hw hI => by
      obtain ⟨Bk, g, hacc⟩ := hI
      rw [List.getElem?_map, Option.map_eq_some_iff] at hw
      obtain ⟨v, hv, rfl⟩ := hw
      have hk := (gE hv).1
      have hBk : Bk.n < 999999 := by rw [g.cnt, List.length_map, List.length_take]; omega
      obtain ⟨s', B2, f1, g2⟩ := t_leafX hm g.inv hBk v
      obtain ⟨b, ho⟩ := g.inv.1
      obtain ⟨hi, hg⟩ := gE ho
      refine ⟨_, .int (leafN m v), s', rfl, by simp [e0_Memory_init, NT.m, hi, hg, f1], B2, ?_, ?_⟩
      · have := g.trans g2
        rw [List.take_succ, hv, Option.toList_some, List.map_append]
        exact this
      · rw [hacc, List.take_succ, List.getElem?_map, hv]
        simp)
    256 0 [] S (by omega) (by simp [sizeLine_eq]) ⟨B, Gx.refl hD, by simp⟩
  rw [List.take_of_length_le (by omega)] at g
  rw [List.take_of_length_le (by simp; omega)] at hys
  exact ⟨st1, B', by rw [e1, hys], g⟩
/-- a memory made, with a book -/
theorem t_meminitX {S : Sto} {j bk T : Nat} {B : BS} (ws : List Int) (hw : ws.length ≤ 256) (hD : DigB m S j bk T B) (hB : B.n < 800000) :
    ∃ st' B' w r rs, m_Memory_init [.ref S.length, .ref j, .tup (ws.map W.int)] (S ++ [.ins 2 []]) = .ok .non st' ∧ MemAt m j S.length w r rs (pad ws) st' ∧ (∀ a ∈ S.length :: w :: r :: rs, a ∉ fpB bk T B'.es ∧ S.length ≤ a) ∧ Gm m j bk T [] S B st' B' (memRows m (pad ws)) := by
  obtain ⟨words, hwd⟩ : ∃ words, words = pad ws := ⟨_, rfl⟩
  have hl : words.length = 256 := by rw [hwd]; exact pad_len hw
  rw [← hwd]
  have hlt := hD.lt
  obtain ⟨bj, hjo⟩ := hD.1
  have hjl := (gE hjo).1
  obtain ⟨S1, hS1⟩ : ∃ S1, S1 = S ++ [Ob.ins 2 [("_digests", .ref j), ("_words", .ref (S.length + 1))], Ob.lst (words.map W.int)] := ⟨_, rfl⟩
  have g0 : Gm m j bk T [] S B S1 B [] := by rw [hS1]; exact Gm.app hD _
  have l1 : S1.length = S.length + 2 := by rw [hS1]; simp
  have n1 : ∀ a, S.length ≤ a → a ∉ fpB bk T B.es := fun a ha z => by have := hlt a z; omega
  have hw1 : S1[S.length + 1]? = some (Ob.lst (words.map W.int)) := by rw [hS1]; simp
  have ho1 : S1[S.length]? = some (Ob.ins 2 [("_digests", .ref j), ("_words", .ref (S.length + 1))]) := by rw [hS1]; simp
  obtain ⟨S2, B2, e2, g2⟩ := t_leafsX hm hm1 hl g0.inv (by omega) hw1 (n1 _ (by omega)) (some (.ref S.length)) (some (.tup (ws.map W.int)))
  have G2 := g0.trans g2.gm (by simp)
  rw [List.nil_append] at G2
  have l2 : S1.length ≤ S2.length := g2.only.1
  have hw2 := g2.gm.rd hw1 (n1 _ (by omega)) (by simp)
  have ho2 := g2.gm.rd ho1 (n1 _ (by omega)) (by simp)
  have hlt2 := g2.inv.lt
  obtain ⟨S3, hS3⟩ : ∃ S3, S3 = S2 ++ [Ob.lst ((words.map (leafN m)).map W.int), Ob.lst [.ref S2.length]] := ⟨_, rfl⟩
  have G3 : Gm m j bk T [] S B S3 B2 (words.map (leafRow m)) := by rw [hS3]; exact G2.grew _
  have l3 : S3.length = S2.length + 2 := by rw [hS3]; simp
  have n3 : S.length ∉ fpB bk T B2.es := (g2.gm.safe (by omega) (n1 _ (by omega))).1
  have nj : S.length ≠ j := by omega
  have hw3 : S3[S.length + 1]? = some (Ob.lst (words.map W.int)) := by rw [hS3]; exact app_lt0 hw2
  have ho3 : S3[S.length]? = some (Ob.ins 2 [("_digests", .ref j), ("_words", .ref (S.length + 1))]) := by rw [hS3]; exact app_lt0 ho2
  have hr3 : S3[S2.length]? = some (Ob.lst ((words.map (leafN m)).map W.int)) := by rw [hS3]; simp
  have hq3 : S3[S2.length + 1]? = some (Ob.lst [.ref S2.length]) := by rw [hS3]; simp
  obtain ⟨S4, hS4⟩ : ∃ S4, S4 = S3.set S.length (Ob.ins 2 (memF j (S.length + 1) (S2.length + 1))) := ⟨_, rfl⟩
  have G4 : Gm m j bk T [] S B S4 B2 (words.map (leafRow m)) := by rw [hS4]; exact G3.put (fun h => absurd h (Nat.lt_irrefl _)) nj n3 _
  have l4 : S4.length = S3.length := by rw [hS4]; simp
  have mk : MK m j bk T S.length (S.length + 1) (S2.length + 1) [S2.length] words 0 S.length S4 B2 := by
    refine ⟨G4.inv, ?_, ?_, ?_, rfl, ?_, ?_, ?_⟩
    · rw [hS4, List.getElem?_set_self (by omega)]
    · rw [hS4, List.getElem?_set_ne (by omega)]; exact hw3
    · rw [hS4, List.getElem?_set_ne (by omega)]; exact hq3
    · intro i a ha
      match i, ha with
      | 0, ha =>
        cases ha
        rw [hS4, List.getElem?_set_ne (by omega)]
        exact hr3
    · simp; omega
    · intro a ha
      simp only [List.mem_cons, List.not_mem_nil, or_false] at ha
      rcases ha with rfl | rfl | rfl | rfl
      · exact ⟨n3, by omega⟩
      · exact ⟨(g2.gm.safe (by omega) (n1 _ (by omega))).1, by omega⟩
      · exact ⟨fun z => by have := hlt2 _ z; omega, by omega⟩
      · exact ⟨fun z => by have := hlt2 _ z; omega, by omega⟩
  have hB2 : B2.n + 256 * 8 < 900000 := by rw [G2.cnt, List.length_map]; omega
  obtain ⟨S5, B5, rs, e5, h5, L, hL, g5⟩ := t_mkloop hm hm1 hl (some (.tup (ws.map W.int))) none 8 0 _ S4 B2 (by omega) mk (by omega) hB2
  have hL' : L = lvRows m words 8 := by rw [hL]; simp [lvRows]
  have G5 := G4.trans g5 (by simp; omega)
  rw [hL'] at G5
  refine ⟨S5, B5, S.length + 1, S2.length + 1, rs, ?_, ⟨h5.ob, h5.wo, h5.ro, h5.rl, h5.rw, h5.nd, hl⟩, h5.out, G5⟩
  have hz : ws.length ≤ 16777216 := by omega
  have hz2 : ws.length + (256 - ws.length) ≤ 16777216 := by omega
  have hz3 : (256 - (ws.length : Int)).toNat = 256 - ws.length := by omega
  have hmapw : ws.map W.int ++ List.replicate (256 - ws.length) (W.int 0) = words.map W.int := by rw [hwd]; simp [pad]
  have lc : ∀ c n, (Src.cell c n).len = n := fun _ _ => rfl
  refine def_nx (s' := [some (.ref S.length), some (.ref j), some (.tup (ws.map W.int)), none]) rfl ?_
  show b_Memory_init [some (.ref S.length), some (.ref j), some (.tup (ws.map W.int)), none] (S ++ [.ins 2 []]) = _
  unfold b_Memory_init
  refine seq_nx (s1 := [some (.ref S.length), some (.ref j), some (.tup (ws.map W.int)), none]) (st1 := S ++ [Ob.ins 2 [("_digests", .ref j)]]) (by simp [putW]) ?_
  refine seq_nx (s1 := [some (.ref S.length), some (.ref j), some (.tup (ws.map W.int)), none]) (st1 := S1) ?_ ?_
  · rw [hS1, ← hmapw]
    have q : ∀ v : W, (List.replicate (256 - ws.length) [v]).flatten = List.replicate (256 - ws.length) v := fun v => by
      induction (256 - ws.length) with
      | zero => rfl
      | succ n ih => rw [List.replicate_succ, List.flatten_cons, ih]; rfl
    have zA : -9223372036854775808 ≤ 256 - (ws.length : Int) := by omega
    have zB : 256 - (ws.length : Int) < 9223372036854775808 := by omega
    have zC : 256 ≤ 16777216 + ws.length := by omega
    simp [w_PLACES, sizeLine_eq, hz, hz2, hz3, q, putW, zA, zB, zC]
  refine seq_nx (s1 := [some (.ref S.length), some (.ref j), some (.tup (ws.map W.int)), none]) (st1 := S4) ?_ ?_
  · obtain ⟨h1i, h1g⟩ := gE ho1
    obtain ⟨hwi, hwg⟩ := gE hw1
    have ho4 := ho3
    rw [hS3] at ho4
    obtain ⟨h2i, h2g⟩ := gE ho4
    rw [hS4, hS3]
    generalize (words.map (leafN m)).map W.int = R0 at *
    simp [h1i, h1g, hwi, hwg, hl, lc, wipeW, e2, sizeLine_eq]
    simp [ho4, h2g, putW]
  exact e5
end
end Gn

namespace Gn
open PySem L2 Mi
/-! ### a memory changed, with a book -/
theorem MidAt.keep {m : Int} {j e w r bk T : Nat} {rs : List Nat} {old new : List Int} {k : Nat} {st st' : Sto} {B B' : BS} {L : List Row} (h : MidAt m j e w r rs old new k st) (g : Gm m j bk T [] st B st' B' L) (hout : ∀ b ∈ e :: w :: r :: rs, b ∉ fpB bk T B.es) : MidAt m j e w r rs old new k st' :=
  ⟨g.rd h.ob (hout _ (by simp)) (by simp), g.rd h.wo (hout _ (by simp)) (by simp), g.rd h.ro (hout _ (by simp)) (by simp), fun i a ha => g.rd (h.rw i a ha) (hout _ (by simp [List.mem_of_getElem? ha])) (by simp)⟩
/-- the row told at level k -/
def chRow (m : Int) (words : List Int) (p k : Nat) : Row := foldRow m (lv m words k) (p / 2 ^ k / 2)
def chRows (m : Int) (words : List Int) (p : Nat) (k : Nat) : List Row := leafRow m (gt words p) :: (List.range k).map (chRow m words p)
section
variable {m : Int} {j bk T e w r : Nat} {rs : List Nat} {old : List Int} {p : Nat} {v : Int} (hm : 0 < m) (hm1 : m < 18446744073709551616) (hrl : rs.length = 9) (hnd : (e :: w :: r :: rs).Nodup) (hl : old.length = 256) (hp : p < 256)
include hm hm1 hrl hnd hl hp
theorem t_chstepX (k : Nat) (hk : k < 8) (a : Nat) (ha : rs[k]? = some a) (st : Sto) (B : BS) (hD : DigB m st j bk T B) (hn : B.n < 900000) (hout : ∀ b ∈ e :: w :: r :: rs, b ∉ fpB bk T B.es) (h : MidAt m j e w r rs old (old.set p v) k st) (u x : Option W) (vw : W) :
    ∃ st' B', l0_Memory_change [some (.ref e), some (.int ((p / 2 ^ k : Nat) : Int)), some vw, some (.int (gt (lv m (old.set p v) k) (p / 2 ^ k))), some (.ref a), x] st =
      .nx [some (.ref e), some (.int ((p / 2 ^ (k + 1) : Nat) : Int)), some vw, some (.int (gt (lv m (old.set p v) (k + 1)) (p / 2 ^ (k + 1)))), some (.ref a), some (.int ((2 * (p / 2 ^ k / 2) : Nat) : Int))] st' ∧
    MidAt m j e w r rs old (old.set p v) (k + 1) st' ∧ Gm m j bk T [a] st B st' B' [chRow m (old.set p v) p k] := by
  have hrow := h.rw k a ha
  rw [if_neg (Nat.lt_irrefl k)] at hrow
  have hq : p / 2 ^ k < 256 / 2 ^ k := Nat.div_lt_div_of_lt_of_dvd (pow_dv k (by omega)) hp
  obtain ⟨p1, p2, p3, p4, p5⟩ := pow_sm k hk
  have hll := lev_len2 m old hl k
  have hln := lev_len2 m (old.set p v) (by simpa using hl) k
  have hset : (lv m old k).set (p / 2 ^ k) (gt (lv m (old.set p v) k) (p / 2 ^ k)) = lv m (old.set p v) k := by
    have z := lev_set (foldN m) (old.map (leafN m)) p (leafN m v) (by simp [hl, hp]) k (by rw [List.length_map, hl]; exact pow_dv k (by omega))
    rw [← List.map_set] at z
    exact z.symm
  have hmap : ((lv m old k).map W.int).set (p / 2 ^ k) (W.int (gt (lv m (old.set p v) k) (p / 2 ^ k))) = (lv m (old.set p v) k).map W.int := by rw [← List.map_set, hset]
  have e2 : p / 2 ^ (k + 1) = p / 2 ^ k / 2 := by rw [Nat.div_div_eq_div_mul, Nat.pow_succ]
  have hin : ∀ x ∈ lv m (old.set p v) k, In m x := (lev_ok hm hm1 (words := old.set p v) (by simpa using hl) k).2
  have hnx : gt (lv m (old.set p v) (k + 1)) (p / 2 ^ (k + 1)) = foldN m (gt (lv m (old.set p v) k) (2 * (p / 2 ^ k / 2))) (gt (lv m (old.set p v) k) (2 * (p / 2 ^ k / 2) + 1)) := by
    rw [e2]
    exact prs_getD _ _ _ (by rw [hln]; omega)
  have nds := List.nodup_cons.mp hnd
  have ndw := List.nodup_cons.mp nds.2
  have ndr := List.nodup_cons.mp ndw.2
  have ham : a ∈ rs := List.mem_of_getElem? ha
  have hea : e ≠ a := fun z => nds.1 (by rw [z]; simp [ham])
  have hwa : w ≠ a := fun z => ndw.1 (by rw [z]; simp [ham])
  have hra : r ≠ a := fun z => ndr.1 (by rw [z]; exact ham)
  have haj : a ≠ j := dig_ne hD hrow (fun _ z => by cases z)
  have g0 := Gm.set hD haj (hout a (by simp [ham])) (Ob.lst ((lv m (old.set p v) k).map W.int))
  obtain ⟨st2, B2, f2, g2⟩ := t_foldX hm hm1 g0.inv (by omega) (gt (lv m (old.set p v) k) (2 * (p / 2 ^ k / 2))) (gt (lv m (old.set p v) k) (2 * (p / 2 ^ k / 2) + 1)) (getD_in hm hin _) (getD_in hm hin _)
  have hM1 : MidAt m j e w r rs old (old.set p v) (k + 1) (st.set a (Ob.lst ((lv m (old.set p v) k).map W.int))) := by
    refine ⟨by rw [List.getElem?_set_ne (Ne.symm hea)]; exact h.ob, by rw [List.getElem?_set_ne (Ne.symm hwa)]; exact h.wo, by rw [List.getElem?_set_ne (Ne.symm hra)]; exact h.ro, fun i b hb => ?_⟩
    by_cases hik : i = k
    · subst hik
      rw [ha] at hb
      cases hb
      rw [if_pos (Nat.lt_succ_self i), List.getElem?_set_self (gE hrow).1]
    · rw [List.getElem?_set_ne (nd_at ndr.2 ha hb (Ne.symm hik)), h.rw i b hb]
      have he : (if i < k then old.set p v else old) = (if i < k + 1 then old.set p v else old) := by
        by_cases h1 : i < k
        · rw [if_pos h1, if_pos (by omega)]
        · rw [if_neg h1, if_neg (by omega)]
      rw [he]
  refine ⟨st2, B2, ?_, hM1.keep g2.gm hout, g0.trans g2.gm (by simp)⟩
  have at1 := atI_ints (lv m (old.set p v) k) (2 * (p / 2 ^ k / 2)) (by rw [hln]; omega)
  have at2 : atI ((lv m (old.set p v) k).map W.int) (((2 * (p / 2 ^ k / 2) : Nat) : Int) + 1) = some (.int (gt (lv m (old.set p v) k) (2 * (p / 2 ^ k / 2) + 1))) := atI_ints (lv m (old.set p v) k) (2 * (p / 2 ^ k / 2) + 1) (by rw [hln]; omega)
  rw [hnx, e2]
  obtain ⟨b, hjo⟩ := g0.inv.1
  have g1 : (st.set a (Ob.lst ((lv m (old.set p v) k).map W.int)))[e]? = some (Ob.ins 2 (memF j w r)) := hM1.ob
  have g3 : (st.set a (Ob.lst ((lv m (old.set p v) k).map W.int)))[a]? = some (Ob.lst ((lv m (old.set p v) k).map W.int)) := by rw [List.getElem?_set_self (gE hrow).1]
  obtain ⟨hai, hag⟩ := gE hrow
  clear g0 g2 hM1 hset hnx
  generalize hG : gt (lv m (old.set p v) k) (p / 2 ^ k) = g at hmap ⊢
  generalize hQ : p / 2 ^ k = q at *
  have hix : ixN (256 / 2 ^ k) (q : Int) = some q := by
    simp only [ixN]
    rw [if_pos (by omega), if_pos (by omega), Int.toNat_natCast]
  have s1 : ((q : Int) - (q : Int) % 2) = ((2 * (q / 2) : Nat) : Int) := by omega
  have l2 : (2 : Nat).log2 < 9000 := by decide
  generalize 2 * (q / 2) = q2 at *
  generalize (lv m (old.set p v) k).map W.int = R at *
  simp only [l0_Memory_change]
  simp [hai, hag, hll, hix, hmap]
  generalize st.set a (Ob.lst R) = S2 at hjo f2 g1 g3 ⊢
  simp [g1, g3, hjo, l2, s1, at1, at2, f2]
end
end Gn

namespace Gn
open PySem L2 Mi
theorem t_changeX {m : Int} {j bk T e w r : Nat} {rs : List Nat} {old : List Int} {p : Nat} {v : Int} {st : Sto} {B : BS} (hm : 0 < m) (hm1 : m < 18446744073709551616) (h : MemAt m j e w r rs old st) (hD : DigB m st j bk T B) (hB : B.n < 800000) (hout : ∀ b ∈ e :: w :: r :: rs, b ∉ fpB bk T B.es) (hp : p < 256) :
    ∃ st' B' a', m_Memory_change [.ref e, .int (p : Int), .int v] st = .ok .non st' ∧ MemAt m j e w r (rs.set 8 a') (old.set p v) st' ∧ st.length ≤ a' ∧ (∀ b ∈ e :: w :: r :: rs.set 8 a', b ∉ fpB bk T B'.es) ∧ Gm m j bk T (w :: r :: rs) st B st' B' (chRows m (old.set p v) p 8) := by
  have hrl := h.rl
  have hnd := h.nd
  have hl := h.wl
  have nds := List.nodup_cons.mp hnd
  have ndw := List.nodup_cons.mp nds.2
  have ndr := List.nodup_cons.mp ndw.2
  have hew : e ≠ w := fun z => nds.1 (by rw [z]; simp)
  have her : e ≠ r := fun z => nds.1 (by rw [z]; simp)
  have hwr : w ≠ r := fun z => ndw.1 (by rw [z]; simp)
  have hwj : w ≠ j := dig_ne hD h.wo (fun _ z => by cases z)
  have hrj : r ≠ j := dig_ne hD h.ro (fun _ z => by cases z)
  have lt : ∀ {i : Nat} {o : Ob}, st[i]? = some o → i < st.length := fun h => (gE h).1
  have hall : ∀ i ∈ e :: w :: r :: rs, i < st.length := by
    intro i hi
    simp only [List.mem_cons] at hi
    rcases hi with rfl | rfl | rfl | hi
    · exact lt h.ob
    · exact lt h.wo
    · exact lt h.ro
    · obtain ⟨k, hk, rfl⟩ := List.getElem_of_mem hi
      exact lt (h.rw k _ (List.getElem?_eq_getElem hk))
  obtain ⟨S1, hS1⟩ : ∃ S1, S1 = st.set w (Ob.lst ((old.set p v).map W.int)) := ⟨_, rfl⟩
  have g1 : Gm m j bk T [w] st B S1 B [] := by rw [hS1]; exact Gm.set hD hwj (hout w (by simp)) _
  have m0 : MidAt m j e w r rs old (old.set p v) 0 S1 := by
    rw [hS1]
    refine ⟨by rw [List.getElem?_set_ne (Ne.symm hew)]; exact h.ob, by rw [List.getElem?_set_self (lt h.wo)], by rw [List.getElem?_set_ne hwr]; exact h.ro, fun i a ha => ?_⟩
    rw [if_neg (Nat.not_lt_zero i), List.getElem?_set_ne (fun z => ndw.1 (by rw [z]; simp [List.mem_of_getElem? ha]))]
    exact h.rw i a ha
  obtain ⟨S2, B2, f2, g2⟩ := t_leafX hm g1.inv (by omega) v
  have hgp : gt (old.set p v) p = v := getD_set_self (by rw [hl]; exact hp)
  have hgt0 : gt (lv m (old.set p v) 0) (p / 2 ^ 0) = leafN m v := by
    show gt ((old.set p v).map (leafN m)) (p / 2 ^ 0) = _
    rw [Nat.pow_zero, Nat.div_one, List.map_set, getD_set_self (by simp [hl, hp])]
  have G2 := g1.trans g2.gm (by simp)
  have out2 : ∀ b ∈ e :: w :: r :: rs, b ∉ fpB bk T B2.es := fun b hb => (G2.safe (hall b hb) (hout b hb)).1
  have m2 := m0.keep g2.gm hout
  have hB2 : B2.n = B.n + 1 := by rw [g2.cnt]; rfl
  have key := loop_st (ws := (rs.take 8).map W.ref) (g := mGN 4) (n := 8) (s := [some (.ref e), some (.int (p : Int)), some (.int v), some (.int (leafN m v)), none, none]) (st := S2) (body := l0_Memory_change) (by simp [hrl])
    (fun k s t => (∃ a x : Option W, s = [some (.ref e), some (.int ((p / 2 ^ k : Nat) : Int)), some (.int v), some (.int (gt (lv m (old.set p v) k) (p / 2 ^ k))), a, x]) ∧ MidAt m j e w r rs old (old.set p v) k t ∧ ∃ Bk, Gm m j bk T rs S2 B2 t Bk ((List.range k).map (chRow m (old.set p v) p)))
    ⟨⟨none, none, by rw [hgt0, Nat.pow_zero, Nat.div_one]⟩, m2, B2, (Gm.refl g2.inv).mono (by simp)⟩ (by
      rintro k w' s t hw ⟨⟨a0, x0, rfl⟩, hM, Bk, gk⟩
      rw [List.getElem?_map] at hw
      have hk : k < 8 := by
        rcases Nat.lt_or_ge k 8 with hk | hk
        · exact hk
        · rw [List.getElem?_eq_none (by simp; omega)] at hw; cases hw
      rw [List.getElem?_take_of_lt hk] at hw
      obtain ⟨a, ha⟩ : ∃ a, rs[k]? = some a := ⟨rs[k]'(by omega), List.getElem?_eq_getElem (by omega)⟩
      rw [ha] at hw
      cases hw
      have hBk : Bk.n < 900000 := by rw [gk.cnt]; simp; omega
      have hl2 : ∀ b ∈ e :: w :: r :: rs, b < S2.length := fun b hb => Nat.lt_of_lt_of_le (hall b hb) G2.only.1
      have outk : ∀ b ∈ e :: w :: r :: rs, b ∉ fpB bk T Bk.es := fun b hb => (gk.safe (hl2 b hb) (out2 b hb)).1
      obtain ⟨st', B', e1, e2, g'⟩ := t_chstepX hm hm1 hrl hnd hl hp k hk a ha t Bk gk.inv hBk outk hM none x0 (.int v)
      refine ⟨_, _, rfl, ?_⟩
      show Step _ _ (l0_Memory_change [some (.ref e), some (.int ((p / 2 ^ k : Nat) : Int)), some (.int v), some (.int (gt (lv m (old.set p v) k) (p / 2 ^ k))), some (.ref a), x0] t)
      rw [e1]
      refine ⟨⟨_, _, rfl⟩, e2, B', ?_⟩
      have z := gk.trans g' (by simp only [List.mem_singleton]; rintro b rfl _; exact List.mem_of_getElem? ha)
      rw [range_snoc]
      exact z)
  obtain ⟨s8, t8, hlp, ⟨a8, x8, rfl⟩, hM8, B8, g8⟩ := key
  have h8 : p / 2 ^ 8 = 0 := by omega
  rw [h8] at hlp
  have hln := lev_len2 m (old.set p v) (by simpa using hl) 8
  have hone : [gt (lv m (old.set p v) 8) 0] = lv m (old.set p v) 8 := by
    match hz : lv m (old.set p v) 8, hln with
    | [x], _ => rfl
  have G8 := (G2.mono (A' := w :: r :: rs) (by simp)).trans g8 (fun i hi _ => by simp [hi])
  have G8 : Gm m j bk T (w :: r :: rs) st B t8 B8 (chRows m (old.set p v) p 8) := by
    unfold chRows leafRow
    rw [hgp]
    exact G8
  have hl8 : st.length ≤ t8.length := G8.only.1
  have out8 : ∀ b ∈ e :: w :: r :: rs, b ∉ fpB bk T B8.es := fun b hb => (G8.safe (hall b hb) (hout b hb)).1
  have hlt8 := G8.inv.lt
  have G9 := G8.grew [Ob.lst [.int (gt (lv m (old.set p v) 8) 0)]]
  have G10 := G9.put (i := r) (fun _ => by simp) hrj (out8 r (by simp)) (Ob.lst ((rs.map W.ref).set 8 (.ref t8.length)))
  refine ⟨(t8 ++ [Ob.lst [.int (gt (lv m (old.set p v) 8) 0)]]).set r (Ob.lst ((rs.map W.ref).set 8 (.ref t8.length))), B8, t8.length, ?_, ?_, hl8, ?_, G10⟩
  · obtain ⟨hwi, hwg⟩ := gE h.wo
    obtain ⟨hei, heg⟩ := gE h.ob
    have hix : ixN 256 (p : Int) = some p := by
      simp only [ixN]
      rw [if_pos (by omega), if_pos (by omega), Int.toNat_natCast]
    have hix9 : ixN 9 (-1) = some 8 := rfl
    have q1 := m0.ob
    have q2 := m2.ob
    have q3 := m2.ro
    obtain ⟨bj, hjo⟩ := g1.inv.1
    have g5 := app_lt (t := [Ob.lst [W.int (gt (lv m (old.set p v) 8) 0)]]) hM8.ob
    have g6 := app_lt (t := [Ob.lst [W.int (gt (lv m (old.set p v) 8) 0)]]) hM8.ro
    have hms : (old.map W.int).set p (.int v) = (old.set p v).map W.int := by rw [List.map_set]
    have sl : (1 : Nat) ≤ sizeLine := by decide
    have c8 := cut8 rs hrl
    refine def_nx (s' := [some (.ref e), some (.int ((0 : Nat) : Int)), some (.int v), some (.int (gt (lv m (old.set p v) 8) 0)), a8, x8]) rfl ?_
    show b_Memory_change [some (.ref e), some (.int (p : Int)), some (.int v), none, none, none] st = _
    unfold b_Memory_change
    refine seq_nx (s1 := [some (.ref e), some (.int (p : Int)), some (.int v), none, none, none]) (st1 := S1) (by rw [hS1]; simp [hwi, hwg, hei, heg, hl, hix, -List.map_set, hms]) ?_
    refine seq_nx (s1 := [some (.ref e), some (.int (p : Int)), some (.int v), some (.int (leafN m v)), none, none]) (st1 := S2) (by simp [q1, hjo, f2]) ?_
    refine seq_nx (mFor_vals (ws := (rs.take 8).map W.ref) (n := 8) (st1 := S2) (by simp [q2, q3, c8, -List.map_take]) (by simp [hrl]) hlp) ?_
    generalize hG8 : t8 ++ [Ob.lst [W.int (gt (lv m (old.set p v) 8) 0)]] = S9 at g5 g6 ⊢
    simp [sl, hG8, g5, g6, hix9, hrl]
  · have hrt : r < (t8 ++ [Ob.lst [W.int (gt (lv m (old.set p v) 8) 0)]]).length := by simp; have := lt h.ro; omega
    refine ⟨by rw [List.getElem?_set_ne (Ne.symm her)]; exact app_lt hM8.ob, by rw [List.getElem?_set_ne (Ne.symm hwr)]; exact app_lt hM8.wo, ?_, by simp [hrl], fun k a ha => ?_, ?_, by simp [hl]⟩
    · rw [List.getElem?_set_self hrt, List.map_set]
    · by_cases hk8 : k = 8
      · subst hk8
        rw [List.getElem?_set_self (by omega)] at ha
        cases ha
        rw [List.getElem?_set_ne (by have := lt h.ro; omega), List.getElem?_append_right (Nat.le_refl _), Nat.sub_self, ← hone]
        rfl
      · rw [List.getElem?_set_ne (Ne.symm hk8)] at ha
        have hk9 : k < 9 := by have := (gE ha).1; omega
        have har : r ≠ a := fun z => ndr.1 (by rw [z]; exact List.mem_of_getElem? ha)
        have z := hM8.rw k a ha
        rw [if_pos (by omega)] at z
        rw [List.getElem?_set_ne har]
        exact app_lt z
    · exact nd_set hnd (fun z => by have := hall _ z; omega) 11
  · intro b hb
    simp only [List.mem_cons] at hb
    rcases hb with rfl | rfl | rfl | hb
    · exact out8 _ (by simp)
    · exact out8 _ (by simp)
    · exact out8 _ (by simp)
    · rcases List.mem_or_eq_of_mem_set hb with hb | rfl
      · exact out8 _ (by simp [hb])
      · exact fun z => by have := hlt8 _ z; omega
end Gn

namespace Gn
open PySem L2 Mi
/-! ### a step of registers, with a book -/
theorem t_doneN {m : Int} {st : Sto} {j : Nat} (wd : Int) (n a : Nat) (hq : wd / 1024 = (n : Int)) (hr : wd % 1024 = (a : Int)) (pc acc x mk out cnt data : Int) (dw : W) (hacc : Word acc) (hd : Word data) (h28n : ¬ (n = 28 ∧ mkN n a x cnt acc data = none)) (hdw : Asks n → dw = .int data) :
    m_done_by [.ref j, .tup [.int pc, .int acc, .int x, .int mk, .int out, .int cnt], .int wd, dw] st = .ok (doneW m n a pc acc x out cnt data) st := by
  have hname := t_name wd n hq
  have s2 : (2 : Nat) ≤ sizeLine := by decide
  have s6 : (6 : Nat) ≤ sizeLine := by decide
  have hmark := fun st => t_mark wd n a hq hr pc acc x mk out cnt data dw st hacc hd hdw
  have hpc := fun st => t_pc wd n a hq hr pc acc data dw st hdw
  simp only [m_done_by, b_done_by, w_PLACES, w_ARGUMENTS]
  cases hmk : mkN n a x cnt acc data with
  | some s =>
    rw [hmk] at hmark
    simp [hmark, sOf, t_halted s (mkN_in hmk), s2, doneW, hmk]
  | none =>
    rw [hmk] at hmark
    have hns : 12 ≤ n ∧ n ≤ 22 → sem (nm n) acc data ≠ none := fun h12 e => by
      simp only [mkN] at hmk
      simp [h12, e, show ¬ (n = 0 ∨ 29 ≤ n) by omega, show ¬ n = 1 by omega, show ¬ n = 9 by omega, show ¬ n = 10 by omega] at hmk
    have hac := fun st => t_acc n a acc data dw st hacc hd hdw hns
    by_cases h4 : n = 4 ∨ n = 6
    · have g1 : ¬ n = 26 := by omega
      have g2 : ¬ n = 7 := by omega
      have g3 : ¬ n = 8 := by omega
      have g4 : ¬ n = 28 := by omega
      simp [hmark, sOf, hname, nm_bad, nm1, nm2, nm3, nm4, nm5, nm6, nm7, nm8, nm9, nm10, nm11, nm12, nm13, nm14, nm15, nm16, nm17, nm18, nm19, nm20, nm21, nm22, nm23, nm24, nm25, nm26, nm27, nm28, rn1, rn2, rn3, rn4, rn5, rn6, rn7, rn8, rn9, rn10, rn11, rn12, rn13, rn14, rn15, rn16, rn17, rn18, rn19, rn20, rn21, rn22, rn23, rn24, rn25, rn26, rn27, rn28, or11, h4, g1, g2, g3, g4, hpc, hac, hr, s2, s6, doneW, hmk, xB, outB, cntB, wrB, wOf]
    by_cases h26 : n = 26
    · subst h26
      simp [hmark, sOf, hname, nm_bad, nm1, nm2, nm3, nm4, nm5, nm6, nm7, nm8, nm9, nm10, nm11, nm12, nm13, nm14, nm15, nm16, nm17, nm18, nm19, nm20, nm21, nm22, nm23, nm24, nm25, nm26, nm27, nm28, rn1, rn2, rn3, rn4, rn5, rn6, rn7, rn8, rn9, rn10, rn11, rn12, rn13, rn14, rn15, rn16, rn17, rn18, rn19, rn20, rn21, rn22, rn23, rn24, rn25, rn26, rn27, rn28, or11, hpc, hac, hr, s2, s6, doneW, hmk, xB, outB, cntB, wrB, wOf]
    by_cases h7 : n = 7
    · subst h7
      simp [hmark, sOf, hname, nm_bad, nm1, nm2, nm3, nm4, nm5, nm6, nm7, nm8, nm9, nm10, nm11, nm12, nm13, nm14, nm15, nm16, nm17, nm18, nm19, nm20, nm21, nm22, nm23, nm24, nm25, nm26, nm27, nm28, rn1, rn2, rn3, rn4, rn5, rn6, rn7, rn8, rn9, rn10, rn11, rn12, rn13, rn14, rn15, rn16, rn17, rn18, rn19, rn20, rn21, rn22, rn23, rn24, rn25, rn26, rn27, rn28, or11, hpc, hac, hr, s2, s6, doneW, hmk, xB, outB, cntB, wrB, wOf]
    by_cases h8 : n = 8
    · have e := hdw (by simp [Asks, h8])
      subst e
      subst h8
      simp [hmark, sOf, hname, nm_bad, nm1, nm2, nm3, nm4, nm5, nm6, nm7, nm8, nm9, nm10, nm11, nm12, nm13, nm14, nm15, nm16, nm17, nm18, nm19, nm20, nm21, nm22, nm23, nm24, nm25, nm26, nm27, nm28, rn1, rn2, rn3, rn4, rn5, rn6, rn7, rn8, rn9, rn10, rn11, rn12, rn13, rn14, rn15, rn16, rn17, rn18, rn19, rn20, rn21, rn22, rn23, rn24, rn25, rn26, rn27, rn28, or11, hpc, hac, hr, s2, s6, doneW, hmk, xB, outB, cntB, wrB, wOf]
    have h28 : ¬ n = 28 := fun z => h28n ⟨z, hmk⟩
    simp [hmark, sOf, hname, nm_bad, nm1, nm2, nm3, nm4, nm5, nm6, nm7, nm8, nm9, nm10, nm11, nm12, nm13, nm14, nm15, nm16, nm17, nm18, nm19, nm20, nm21, nm22, nm23, nm24, nm25, nm26, nm27, nm28, rn1, rn2, rn3, rn4, rn5, rn6, rn7, rn8, rn9, rn10, rn11, rn12, rn13, rn14, rn15, rn16, rn17, rn18, rn19, rn20, rn21, rn22, rn23, rn24, rn25, rn26, rn27, rn28, or11, h4, h26, h7, h8, h28, hpc, hac, hr, s2, s6, doneW, hmk, xB, outB, cntB, wrB, wOf]
theorem t_done28 {m : Int} {st : Sto} {j bk T : Nat} {B : BS} (hm : 0 < m) (hm1 : m < 18446744073709551616) (h : DigB m st j bk T B) (hB : B.n < 900000) (wd : Int) (a : Nat) (hq : wd / 1024 = ((28 : Nat) : Int)) (hr : wd % 1024 = (a : Int)) (pc acc x mk out cnt data : Int) (dw : W) (hacc : Word acc) (hd : Word data) (ho : 0 ≤ out ∧ out < m) (hmk : mkN 28 a x cnt acc data = none) :
    ∃ st' B', m_done_by [.ref j, .tup [.int pc, .int acc, .int x, .int mk, .int out, .int cnt], .int wd, dw] st = .ok (doneW m 28 a pc acc x out cnt data) st' ∧ Gx m j bk T st B st' B' [("leaf", leafN m acc, .one acc), ("fold", foldN m out (leafN m acc), .many [out, leafN m acc])] := by
  have hname := t_name wd 28 hq
  have s2 : (2 : Nat) ≤ sizeLine := by decide
  have s6 : (6 : Nat) ≤ sizeLine := by decide
  have hA : Asks 28 → dw = .int data := fun z => by simp [Asks] at z
  have hmark := fun st => t_mark wd 28 a hq hr pc acc x mk out cnt data dw st hacc hd hA
  have hpc := fun st => t_pc wd 28 a hq hr pc acc data dw st hA
  rw [hmk] at hmark
  have hac := fun st => t_acc 28 a acc data dw st hacc hd hA (by omega)
  obtain ⟨st1, B1, f1, g1⟩ := t_leafX hm h (by omega) acc
  obtain ⟨st2, B2, f2, g2⟩ := t_foldX hm hm1 g1.inv (by rw [g1.cnt]; simp; omega) out (leafN m acc) ho ⟨Int.emod_nonneg _ (by omega), Int.emod_lt_of_pos _ hm⟩
  refine ⟨st2, B2, ?_, g1.trans g2⟩
  obtain ⟨b, hj⟩ := h.1
  obtain ⟨b1, hj1⟩ := g1.inv.1
  simp only [m_done_by, b_done_by, w_PLACES, w_ARGUMENTS]
  simp [hj, hj1, f1, f2, hmark, sOf, hname, nm_bad, nm1, nm2, nm3, nm4, nm5, nm6, nm7, nm8, nm9, nm10, nm11, nm12, nm13, nm14, nm15, nm16, nm17, nm18, nm19, nm20, nm21, nm22, nm23, nm24, nm25, nm26, nm27, nm28, rn1, rn2, rn3, rn4, rn5, rn6, rn7, rn8, rn9, rn10, rn11, rn12, rn13, rn14, rn15, rn16, rn17, rn18, rn19, rn20, rn21, rn22, rn23, rn24, rn25, rn26, rn27, rn28, or11, hpc, hac, hr, s2, s6, doneW, hmk, xB, outB, cntB, wrB, wOf]
end Gn

namespace Gn
open PySem L2 Mi
/-! ### a memory is read -/
section
variable {m : Int} {j e w r : Nat} {rs : List Nat} {words : List Int} {st : Sto} (h : MemAt m j e w r rs words st)
include h
theorem mem_path (p : Nat) (hp : p < 256) : m_Memory_path [.ref e, .int (p : Int)] st = .ok (.tup ((pathN m words p).map W.int)) (st ++ [.lst ((pathN m words p).map W.int)]) := by
  have c2 := h.ob
  have c3 := h.ro
  have c8 := cut8 rs h.rl
  have key := loop_st (ws := (rs.take 8).map W.ref) (g := mGN 3) (n := 8) (s := [some (.ref e), some (.int (p : Int)), some (.ref st.length), none]) (st := st ++ [.lst []]) (body := l0_Memory_path) (by simp [h.rl])
    (fun k s2 t => (∃ x : Option W, s2 = [some (.ref e), some (.int ((p / 2 ^ k : Nat) : Int)), some (.ref st.length), x]) ∧ t = st ++ [.lst (((pathN m words p).take k).map W.int)])
    ⟨⟨none, by simp⟩, by simp⟩ (by
      rintro k w' s2 t hw ⟨⟨x, rfl⟩, rfl⟩
      rw [List.getElem?_map] at hw
      have hk : k < 8 := by
        rcases Nat.lt_or_ge k 8 with hk | hk
        · exact hk
        · rw [List.getElem?_eq_none (by simp; omega)] at hw; cases hw
      rw [List.getElem?_take_of_lt hk] at hw
      obtain ⟨a, ha⟩ : ∃ a, rs[k]? = some a := ⟨rs[k]'(by have := h.rl; omega), List.getElem?_eq_getElem _⟩
      rw [ha] at hw
      cases hw
      have hrow := app_lt (t := [Ob.lst (((pathN m words p).take k).map W.int)]) (h.rw k a ha)
      refine ⟨_, _, rfl, ?_⟩
      have at1 := atI_ints (lv m words k) (sib (p / 2 ^ k)) (by rw [lv_len h.wl]; exact sib_in hp hk)
      have hx := xor1 (p / 2 ^ k)
      have hh := half p k
      have hpt := path_take m words p k hk
      have hsz : (((pathN m words p).take k).map W.int).length < sizeLine := by rw [sizeLine_eq, List.length_map, List.length_take, path_len]; omega
      have g1 : (st ++ [Ob.lst (((pathN m words p).take k).map W.int)])[st.length]? = some (Ob.lst (((pathN m words p).take k).map W.int)) := by simp
      generalize p / 2 ^ k = q at *
      rw [hpt, List.map_append]
      generalize ((pathN m words p).take k).map W.int = R at *
      simp only [mGN, List.set]
      simp only [l0_Memory_path]
      simp [hrow, hx, at1, hh, hsz])
  obtain ⟨s8, t8, hlp, ⟨x, rfl⟩, rfl⟩ := key
  have ht : (pathN m words p).take 8 = pathN m words p := List.take_of_length_le (by rw [path_len]; exact Nat.le_refl _)
  rw [ht] at hlp
  generalize (pathN m words p).map W.int = V at hlp ⊢
  have d1 := app_lt (t := [Ob.lst []]) c2
  have d2 := app_lt (t := [Ob.lst []]) c3
  refine def_rt rfl ?_
  show b_Memory_path [some (.ref e), some (.int (p : Int)), none, none] st = _
  unfold b_Memory_path
  refine seq_nx (by simp [sizeLine_eq]; exact ⟨rfl, rfl⟩) ?_
  refine seq_nx (by simp [d1, d2, c8, h.rl, -List.map_take, hlp]; exact ⟨rfl, rfl⟩) ?_
  simp
theorem mem_root : m_Memory_root [.ref e] st = .ok (.int (gt (lv m words 8) 0)) st := by
  obtain ⟨a, ha⟩ : ∃ a, rs[8]? = some a := ⟨rs[8]'(by have := h.rl; omega), List.getElem?_eq_getElem _⟩
  have la : atI (rs.map W.ref) (-1) = some (.ref a) := by
    rw [Mi.atI_last, List.getLast?_eq_getElem?, List.length_map, h.rl, List.getElem?_map]
    simp [ha]
  have hl8 := lv_len (m := m) h.wl 8
  have h0 : ((lv m words 8).map W.int)[0]? = some (.int (gt (lv m words 8) 0)) := by
    rw [List.getElem?_map, gt_get (by rw [hl8]; decide)]; rfl
  have hob := h.ob
  have hro := h.ro
  have hrw := h.rw 8 a ha
  generalize gt (lv m words 8) 0 = G at *
  generalize (lv m words 8).map W.int = R at *
  simp only [m_Memory_root, b_Memory_root]
  simp [hob, hro, la, hrw, h0]
theorem mem_word (p : Nat) (hp : p < 256) : m_Memory_word [.ref e, .int (p : Int)] st = .ok (.int (gt words p)) st := by
  have at1 := atI_ints words p (by rw [h.wl]; exact hp)
  have hob := h.ob
  have hwo := h.wo
  simp only [m_Memory_word, b_Memory_word]
  simp [hob, hwo, at1]
theorem mem_words : m_Memory_words [.ref e] st = .ok (.tup (words.map W.int)) st := by
  have hob := h.ob
  have hwo := h.wo
  have hl := h.wl
  simp only [m_Memory_words, b_Memory_words]
  simp [hob, hwo, sizeLine_eq, hl]
end
/-! ### a machine whose digests have a book -/
structure MachB (m : Int) (j bk T M e w r : Nat) (rs : List Nat) (g : Rg) (told words : List Int) (st : Sto) (B : BS) : Prop where
  mo : st[M]? = some (.ins 3 (machF j e (rgW g) (.tup (told.map W.int))))
  me : MemAt m j e w r rs words st
  dg : DigB m st j bk T B
  nm : M ∉ e :: w :: r :: rs
  out : ∀ a ∈ M :: e :: w :: r :: rs, a ∉ fpB bk T B.es
  go : Good m g
  ww : ∀ x ∈ words, Word x
  tl : (told.length : Int) ≤ g.cnt
section
variable {m : Int} {j bk T M e w r : Nat} {rs : List Nat} {g : Rg} {told words : List Int} {st : Sto} {B : BS}
theorem MachB.jne (h : MachB m j bk T M e w r rs g told words st B) : ∀ a ∈ M :: e :: w :: r :: rs, a ≠ j := by
  intro a ha
  simp only [List.mem_cons] at ha
  rcases ha with rfl | rfl | rfl | rfl | ha
  · exact dig_ne h.dg h.mo (fun _ z => by injection z with z; exact absurd z (by decide))
  · exact dig_ne h.dg h.me.ob (fun _ z => by injection z with z; exact absurd z (by decide))
  · exact dig_ne h.dg h.me.wo (fun _ z => by cases z)
  · exact dig_ne h.dg h.me.ro (fun _ z => by cases z)
  · obtain ⟨k, hk, rfl⟩ := List.getElem_of_mem ha
    exact dig_ne h.dg (h.me.rw k _ (List.getElem?_eq_getElem hk)) (fun _ z => by cases z)
theorem MemAt.moved {st' : Sto} (h : MemAt m j e w r rs words st) (k : ∀ a ∈ e :: w :: r :: rs, ∀ o, st[a]? = some o → st'[a]? = some o) : MemAt m j e w r rs words st' :=
  ⟨k _ (by simp) _ h.ob, k _ (by simp) _ h.wo, k _ (by simp) _ h.ro, h.rl, fun i a ha => k a (by simp [List.mem_of_getElem? ha]) _ (h.rw i a ha), h.nd, h.wl⟩
/-- a run that changes nothing of the machine -/
theorem MachB.keep {A : List Nat} {st' : Sto} {B' : BS} {L : List Row} (h : MachB m j bk T M e w r rs g told words st B) (k : Gm m j bk T A st B st' B' L) (hA : ∀ a ∈ M :: e :: w :: r :: rs, a ∉ A) : MachB m j bk T M e w r rs g told words st' B' := by
  have kp : ∀ a ∈ M :: e :: w :: r :: rs, ∀ o, st[a]? = some o → st'[a]? = some o := fun a ha o ho => k.rd ho (h.out a ha) (hA a ha)
  refine ⟨kp M (by simp) _ h.mo, h.me.moved fun a ha => kp a (by simp only [List.mem_cons] at ha ⊢; exact .inr ha), k.inv, h.nm, fun a ha => ?_, h.go, h.ww, h.tl⟩
  have hl : ∃ o, st[a]? = some o := by
    simp only [List.mem_cons] at ha
    rcases ha with rfl | rfl | rfl | rfl | ha
    · exact ⟨_, h.mo⟩
    · exact ⟨_, h.me.ob⟩
    · exact ⟨_, h.me.wo⟩
    · exact ⟨_, h.me.ro⟩
    · obtain ⟨i, hi, rfl⟩ := List.getElem_of_mem ha
      exact ⟨_, h.me.rw i _ (List.getElem?_eq_getElem hi)⟩
  obtain ⟨o, ho⟩ := hl
  exact (k.safe (gE ho).1 (h.out a ha)).1
/-- other registers and told words -/
theorem MachB.upd (h : MachB m j bk T M e w r rs g told words st B) {g2 : Rg} {told2 : List Int} (hg : Good m g2) (ht : (told2.length : Int) ≤ g2.cnt) :
    MachB m j bk T M e w r rs g2 told2 words (st.set M (.ins 3 (machF j e (rgW g2) (.tup (told2.map W.int))))) B ∧ Gm m j bk T [M] st B (st.set M (.ins 3 (machF j e (rgW g2) (.tup (told2.map W.int))))) B [] := by
  have hML := (gE h.mo).1
  have gm := Gm.set h.dg (h.jne M (by simp)) (h.out M (by simp)) (.ins 3 (machF j e (rgW g2) (.tup (told2.map W.int))))
  exact ⟨⟨List.getElem?_set_self hML, h.me.set h.nm, gm.inv, h.nm, h.out, hg, h.ww, ht⟩, gm⟩
end
end Gn

namespace Gn
open PySem L2 Mi
theorem pad_256 {ws : List Int} (h : ws.length = 256) : pad ws = ws := by unfold pad; rw [h]; simp
theorem memRows_len (m : Int) {words : List Int} (h : words.length = 256) : (memRows m words).length = 511 := by
  simp only [memRows, lvRows, List.length_append, foldRows_len, List.length_map, h]
  decide
/-- Machine(..) with digests that have a book -/
theorem t_machinitX {m : Int} {S : Sto} {j bk T : Nat} {B : BS} {g : Rg} {words : List Int} (hm : 0 < m) (hm1 : m < 18446744073709551616) (hl : words.length = 256) (hD : DigB m S j bk T B) (hB : B.n < 800000) (hg : Good m g) (hw : ∀ x ∈ words, Word x) :
    ∃ st' B' e w r rs, m_Machine_init [.ref S.length, .ref j, rgW g, .tup (words.map W.int)] (S ++ [.ins 3 []]) = .ok .non st' ∧ MachB m j bk T S.length e w r rs g [] words st' B' ∧ (∀ a ∈ S.length :: e :: w :: r :: rs, S.length ≤ a) ∧ Gm m j bk T [] S B st' B' (memRows m words) := by
  have hD1 : DigB m (S ++ [Ob.ins 3 [("_digests", .ref j), ("_registers", rgW g)]]) j bk T B := hD.app _
  obtain ⟨s1, B1, w, r, rs, e1, h1, h2, g1⟩ := t_meminitX hm hm1 words (by omega) hD1 hB
  rw [pad_256 hl] at h1 g1
  simp only [List.length_append, List.length_cons, List.length_nil, Nat.zero_add] at e1 h1 h2
  rw [List.append_assoc] at e1
  simp only [List.cons_append, List.nil_append] at e1
  have hM0 : (S ++ [Ob.ins 3 [("_digests", .ref j), ("_registers", rgW g)]])[S.length]? = some (Ob.ins 3 [("_digests", .ref j), ("_registers", rgW g)]) := by simp
  have hMf : S.length ∉ fpB bk T B.es := fun z => by have := hD.lt _ z; omega
  have hM := g1.rd hM0 hMf (by simp)
  have hMf1 := (g1.safe (gE hM0).1 hMf).1
  have hjM : S.length ≠ j := by
    obtain ⟨b, hj⟩ := hD.1
    have := (gE hj).1
    omega
  have ho := h1.ob
  have ga := (Gm.app hD [Ob.ins 3 [("_digests", .ref j), ("_registers", rgW g)]]).trans g1 (by simp)
  rw [List.nil_append] at ga
  have gs := ga.put (i := S.length) (by omega) hjM hMf1 (.ins 3 (machF j (S.length + 1) (rgW g) (.tup [])))
  have hnm : S.length ∉ (S.length + 1) :: w :: r :: rs := fun z => by
    have := (h2 _ z).2
    omega
  refine ⟨s1.set S.length (.ins 3 (machF j (S.length + 1) (rgW g) (.tup []))), B1, S.length + 1, w, r, rs, ?_, ⟨List.getElem?_set_self (gE hM).1, h1.set hnm, gs.inv, hnm, fun a ha => ?_, hg, hw, by simpa using hg.cnt.1⟩, fun a ha => ?_, gs⟩
  · have sl : (0 : Nat) ≤ sizeLine := by decide
    have h2 : ∀ o, (s1.set S.length o)[S.length]? = some o := fun o => List.getElem?_set_self (gE hM).1
    simp only [m_Machine_init, b_Machine_init]
    simp [putW, e1, ho, hM, h2, machF]
  · simp only [List.mem_cons] at ha
    rcases ha with rfl | ha
    · exact hMf1
    · exact (h2 a (by simpa using ha)).1
  · simp only [List.mem_cons] at ha
    rcases ha with rfl | ha
    · exact Nat.le_refl _
    · have := (h2 a (by simpa using ha)).2
      omega
/-! ### a step -/
def stepRows (m : Int) (g : Rg) (words : List Int) : List Row := match mOf g words with
  | some _ => []
  | none => if nOf g words = 28 then [("leaf", leafN m g.acc, .one g.acc), ("fold", foldN m g.out (leafN m g.acc), .many [g.out, leafN m g.acc])]
    else match wrB (nOf g words) g.pc g.acc with
      | some v => chRows m (words.set (plB (nOf g words) (aOf g words) g.x).toNat v) (plB (nOf g words) (aOf g words) g.x).toNat 8
      | none => []
section
variable {m : Int} {j bk T M e w r : Nat} {rs : List Nat} {g : Rg} {told words : List Int} {st : Sto} {B : BS}
/-- what a step that changes no word does: one equation, the digests aside -/
theorem t_stepQ (h : MachB m j bk T M e w r rs g told words st B) (hk : g.mrk = 0) (hwr : mOf g words = none → wrB (nOf g words) g.pc g.acc = none) {st1 : Sto} {B1 : BS} {L : List Row} (k : Gx m j bk T st B st1 B1 L)
    (hdn : ∀ dw, (Asks (nOf g words) → dw = .int (dOf g words)) → m_done_by [.ref j, rgW g, .int (gt words g.pc.toNat), dw] st = .ok (doneW m (nOf g words) (aOf g words) g.pc g.acc g.x g.out g.cnt (dOf g words)) st1) :
    m_Machine_step [.ref M] st = .ok .non (st1.set M (.ins 3 (machF j e (rgW (stepG m g words)) (.tup ((stepT g told words).map W.int))))) := by
  have hgo := h.go
  have hd : Word (dOf g words) := gt_word h.ww _
  have hwd : Word (gt words g.pc.toNat) := gt_word h.ww _
  have hn : gt words g.pc.toNat / 1024 = (nOf g words : Int) := by have := hwd.1; unfold nOf; omega
  have ha : gt words g.pc.toNat % 1024 = (aOf g words : Int) := by unfold aOf; omega
  have pin := plB_in (nOf g words) (aOf g words) g.x
  have hpc : g.pc = (g.pc.toNat : Int) := by have := hgo.pc.1; omega
  have hw1 := mem_word h.me g.pc.toNat (by have := hgo.pc; omega)
  rw [← hpc] at hw1
  have hpl : plB (nOf g words) (aOf g words) g.x = ((plB (nOf g words) (aOf g words) g.x).toNat : Int) := by omega
  have hw2 : m_Memory_word [.ref e, .int (plB (nOf g words) (aOf g words) g.x)] st = .ok (.int (dOf g words)) st := by
    have z := mem_word h.me (plB (nOf g words) (aOf g words) g.x).toNat (by omega)
    rw [← hpl] at z
    exact z
  have hdo := t_data_of (gt words g.pc.toNat) (nOf g words) (aOf g words) hn ha (.int g.pc) (.int g.acc) (.int g.mrk) (.int g.out) (.int g.cnt) g.x st
  have hM := h.mo
  have hE := h.me.ob
  have hM1 := k.gm.rd hM (h.out M (by simp)) (by simp)
  have hset : ∀ o, (st1.set M o)[M]? = some o := fun o => List.getElem?_set_self (gE hM1).1
  have x0 : ∀ p q s t u v : W, atI [p, q, s, t, u, v] 0 = some p := fun _ _ _ _ _ _ => rfl
  have x1 : ∀ p q s t u v : W, atI [p, q, s, t, u, v] 1 = some q := fun _ _ _ _ _ _ => rfl
  have x3 : ∀ p q s t u v : W, atI [p, q, s, t, u, v] 3 = some t := fun _ _ _ _ _ _ => rfl
  have x5 : ∀ p q s t u v : W, atI [p, q, s, t, u, v] 5 = some v := fun _ _ _ _ _ _ => rfl
  have pa0 : ∀ p q : W, atI [p, q] 0 = some p := fun _ _ => rfl
  have s1 : (1 : Nat) ≤ sizeLine := by decide
  have stl : told.length + 1 ≤ sizeLine := by have := h.tl; have := hgo.cnt.2; rw [sizeLine_eq]; omega
  simp only [m_Machine_step, b_Machine_step]
  by_cases h4 : nOf g words = 4 ∨ nOf g words = 6 ∨ nOf g words = 26
  · exfalso
    have z : mOf g words = none := by
      unfold mOf
      rcases h4 with z | z | z <;> rw [z] <;> simp [mkN]
    have y := hwr z
    rcases h4 with z | z | z <;> rw [z] at y <;> simp [wrB] at y
  by_cases hA : Asks (nOf g words)
  · have hd1 := hdn (.int (dOf g words)) (fun _ => rfl)
    simp only [daW, h4, hA, if_true, if_false] at hdo
    have n28 : ¬ nOf g words = 28 := by unfold Asks at hA; omega
    cases hmo : mOf g words with
    | some s =>
      simp only [mOf] at hmo
      simp only [doneW, hmo] at hd1
      simp only [stepG, stepT, mOf, hmo]
      simp [hM, hE, hM1, x0, x1, x3, x5, pa0, hk, hw1, hdo, hw2, hd1, hset, putW]
    | none =>
      have hwn := hwr hmo
      simp only [mOf] at hmo
      simp only [doneW, hmo, hwn, wOf] at hd1
      simp only [stepG, stepT, mOf, hmo, n28, cntB, if_false] at hd1 ⊢
      simp [hM, hE, hM1, x0, x1, x3, x5, pa0, hk, hw1, hdo, hw2, hd1, hset, putW]
  · have hd1 := hdn .non (fun z => absurd z hA)
    simp only [daW, h4, hA, if_true, if_false] at hdo
    cases hmo : mOf g words with
    | some s =>
      simp only [mOf] at hmo
      simp only [doneW, hmo] at hd1
      simp only [stepG, stepT, mOf, hmo]
      simp [hM, hE, hM1, x0, x1, x3, x5, pa0, hk, hw1, hdo, hw2, hd1, hset, putW]
    | none =>
      have hwn := hwr hmo
      simp only [mOf] at hmo
      simp only [doneW, hmo, hwn, wOf] at hd1
      by_cases n28 : nOf g words = 28
      · have hmo28 := hmo
        rw [n28] at hmo28
        have hlt : g.cnt < g.cnt + 1 := by omega
        simp only [stepG, stepT, mOf, hmo, n28, hmo28, cntB, if_true] at hd1 ⊢
        simp [hlt, hM, hE, hM1, x0, x1, x3, x5, pa0, hk, hw1, hdo, hw2, hd1, hset, putW, s1, stl]
      · simp only [stepG, stepT, mOf, hmo, n28, cntB, if_false] at hd1 ⊢
        simp [hM, hE, hM1, x0, x1, x3, x5, pa0, hk, hw1, hdo, hw2, hd1, hset, putW]
end
end Gn

namespace Gn
open PySem L2 Mi
section
variable {m : Int} {j bk T M e w r : Nat} {rs : List Nat} {g : Rg} {told words : List Int} {st : Sto} {B : BS}
/-- a step that changes no word -/
theorem t_stepNX (hm : 7 < m) (hm1 : m < 18446744073709551616) (h : MachB m j bk T M e w r rs g told words st B) (hB : B.n < 800000) (hk : g.mrk = 0) (hwr : mOf g words = none → wrB (nOf g words) g.pc g.acc = none) :
    ∃ st' B', m_Machine_step [.ref M] st = .ok .non st' ∧ MachB m j bk T M e w r rs (stepG m g words) (stepT g told words) words st' B' ∧ Gm m j bk T [M] st B st' B' (stepRows m g words) := by
  have hm0 : 0 < m := by omega
  have hgo := h.go
  have hd : Word (dOf g words) := gt_word h.ww _
  have hwd : Word (gt words g.pc.toNat) := gt_word h.ww _
  have hn : gt words g.pc.toNat / 1024 = (nOf g words : Int) := by have := hwd.1; unfold nOf; omega
  have ha : gt words g.pc.toNat % 1024 = (aOf g words : Int) := by unfold aOf; omega
  obtain ⟨G1, G2, G3⟩ := good_step hm hgo h.ww h.tl (told := told)
  have fin : ∀ (st1 : Sto) (B1 : BS) (L : List Row), L = stepRows m g words → Gx m j bk T st B st1 B1 L →
      (∀ dw, (Asks (nOf g words) → dw = .int (dOf g words)) → m_done_by [.ref j, rgW g, .int (gt words g.pc.toNat), dw] st = .ok (doneW m (nOf g words) (aOf g words) g.pc g.acc g.x g.out g.cnt (dOf g words)) st1) →
      ∃ st' B', m_Machine_step [.ref M] st = .ok .non st' ∧ MachB m j bk T M e w r rs (stepG m g words) (stepT g told words) words st' B' ∧ Gm m j bk T [M] st B st' B' (stepRows m g words) := by
    intro st1 B1 L hL k hdn
    have e1 := t_stepQ h hk hwr k hdn
    have h1 := h.keep k.gm (by simp)
    obtain ⟨h2, g2⟩ := h1.upd G1 G3
    have gg := (k.gm.mono (A' := [M]) (by simp)).trans g2 (by simp)
    rw [List.append_nil, hL] at gg
    exact ⟨_, _, e1, h2, gg⟩
  by_cases h28 : nOf g words = 28 ∧ mOf g words = none
  · obtain ⟨n28, hmo⟩ := h28
    have hmo' := hmo
    simp only [mOf, n28] at hmo'
    rw [n28] at hn
    have hdn := fun dw => t_done28 hm0 hm1 h.dg (by omega) (gt words g.pc.toNat) (aOf g words) hn ha g.pc g.acc g.x g.mrk g.out g.cnt (dOf g words) dw hgo.acc hd hgo.out hmo'
    obtain ⟨st1, B1, e1, k⟩ := hdn .non
    refine fin st1 B1 _ (by simp only [stepRows, hmo, n28, if_true]) k fun dw _ => ?_
    obtain ⟨st2, B2, e2, k2⟩ := hdn dw
    have hname := t_name (gt words g.pc.toNat) 28 hn
    have same : m_done_by [.ref j, rgW g, .int (gt words g.pc.toNat), dw] st = m_done_by [.ref j, rgW g, .int (gt words g.pc.toNat), .non] st := by
      have hA : ∀ dw : W, Asks 28 → dw = .int (dOf g words) := fun _ z => by simp [Asks] at z
      have q1 := fun dw st => t_mark (gt words g.pc.toNat) 28 (aOf g words) hn ha g.pc g.acc g.x g.mrk g.out g.cnt (dOf g words) dw st hgo.acc hd (hA dw)
      have q2 := fun dw st => t_pc (gt words g.pc.toNat) 28 (aOf g words) hn ha g.pc g.acc (dOf g words) dw st (hA dw)
      have q3 := fun dw st => t_acc 28 (aOf g words) g.acc (dOf g words) dw st hgo.acc hd (hA dw) (by omega)
      rw [hmo'] at q1
      have s2 : (2 : Nat) ≤ sizeLine := by decide
      have s6 : (6 : Nat) ≤ sizeLine := by decide
      obtain ⟨st1, B1, f1, g1⟩ := t_leafX hm0 h.dg (by omega) g.acc
      obtain ⟨st2, B2, f2, g2⟩ := t_foldX hm0 hm1 g1.inv (by rw [g1.cnt]; simp; omega) g.out (leafN m g.acc) hgo.out ⟨Int.emod_nonneg _ (by omega), Int.emod_lt_of_pos _ hm0⟩
      obtain ⟨b, hj⟩ := h.dg.1
      obtain ⟨b1, hj1⟩ := g1.inv.1
      simp only [m_done_by, b_done_by, w_PLACES, w_ARGUMENTS]
      simp [hj, hj1, f1, f2, q1, sOf, hname, nm_bad, nm4, nm6, nm7, nm8, nm26, nm28, rn4, rn6, rn7, rn8, rn26, rn28, q2, q3, ha, s2, s6]
    rw [n28] at *
    rw [same]
    exact e1
  · have hL : stepRows m g words = [] := by
      simp only [stepRows]
      cases hmo : mOf g words with
      | some s => rfl
      | none => simp only [hwr hmo]; rw [if_neg (fun z => h28 ⟨z, hmo⟩)]
    refine fin st B [] hL.symm (Gx.refl h.dg) fun dw hdw => ?_
    exact t_doneN (gt words g.pc.toNat) (nOf g words) (aOf g words) hn ha g.pc g.acc g.x g.mrk g.out g.cnt (dOf g words) dw hgo.acc hd h28 hdw
end
end Gn

namespace Gn
open PySem L2 Mi
section
variable {m : Int} {j bk T M e w r : Nat} {rs : List Nat} {g : Rg} {told words : List Int} {st : Sto} {B : BS}
/-- a step that changes a word -/
theorem t_stepCX (hm : 7 < m) (hm1 : m < 18446744073709551616) (h : MachB m j bk T M e w r rs g told words st B) (hB : B.n < 800000) (hk : g.mrk = 0) {v : Int} (hmo : mOf g words = none) (hwr : wrB (nOf g words) g.pc g.acc = some v) :
    ∃ st' B' a', m_Machine_step [.ref M] st = .ok .non st' ∧ MachB m j bk T M e w r (rs.set 8 a') (stepG m g words) (stepT g told words) (stepW g words) st' B' ∧ st.length ≤ a' ∧ Gm m j bk T (M :: w :: r :: rs) st B st' B' (stepRows m g words) := by
  have hm0 : 0 < m := by omega
  have hgo := h.go
  have hd : Word (dOf g words) := gt_word h.ww _
  have hwd : Word (gt words g.pc.toNat) := gt_word h.ww _
  have hn : gt words g.pc.toNat / 1024 = (nOf g words : Int) := by have := hwd.1; unfold nOf; omega
  have ha : gt words g.pc.toNat % 1024 = (aOf g words : Int) := by unfold aOf; omega
  have pin := plB_in (nOf g words) (aOf g words) g.x
  have hpc : g.pc = (g.pc.toNat : Int) := by have := hgo.pc.1; omega
  have hw1 := mem_word h.me g.pc.toNat (by have := hgo.pc; omega)
  rw [← hpc] at hw1
  have hpl : plB (nOf g words) (aOf g words) g.x = ((plB (nOf g words) (aOf g words) g.x).toNat : Int) := by omega
  have hw2 : m_Memory_word [.ref e, .int (plB (nOf g words) (aOf g words) g.x)] st = .ok (.int (dOf g words)) st := by
    have z := mem_word h.me (plB (nOf g words) (aOf g words) g.x).toNat (by omega)
    rw [← hpl] at z
    exact z
  have hdo := t_data_of (gt words g.pc.toNat) (nOf g words) (aOf g words) hn ha (.int g.pc) (.int g.acc) (.int g.mrk) (.int g.out) (.int g.cnt) g.x st
  have h4 : nOf g words = 4 ∨ nOf g words = 6 ∨ nOf g words = 26 := by
    simp only [wrB] at hwr
    split at hwr
    · omega
    split at hwr
    · omega
    · cases hwr
  have n28 : ¬ nOf g words = 28 := by omega
  have hdn := fun dw hdw => t_doneN (m := m) (st := st) (j := j) (gt words g.pc.toNat) (nOf g words) (aOf g words) hn ha g.pc g.acc g.x g.mrk g.out g.cnt (dOf g words) dw hgo.acc hd (fun z => n28 z.1) hdw
  have x0 : ∀ p q s t u v : W, atI [p, q, s, t, u, v] 0 = some p := fun _ _ _ _ _ _ => rfl
  have x1 : ∀ p q s t u v : W, atI [p, q, s, t, u, v] 1 = some q := fun _ _ _ _ _ _ => rfl
  have x3 : ∀ p q s t u v : W, atI [p, q, s, t, u, v] 3 = some t := fun _ _ _ _ _ _ => rfl
  have x5 : ∀ p q s t u v : W, atI [p, q, s, t, u, v] 5 = some v := fun _ _ _ _ _ _ => rfl
  have pa0 : ∀ p q : W, atI [p, q] 0 = some p := fun _ _ => rfl
  obtain ⟨G1, G2, G3⟩ := good_step hm hgo h.ww h.tl (told := told)
  have hT : stepT g told words = told := by simp only [stepT, hmo, n28, if_false]
  have hW : stepW g words = words.set (plB (nOf g words) (aOf g words) g.x).toNat v := by simp only [stepW, hmo, hwr]
  rw [hT] at G3
  obtain ⟨h1, g1⟩ := h.upd G1 G3
  have hL : stepRows m g words = chRows m (words.set (plB (nOf g words) (aOf g words) g.x).toNat v) (plB (nOf g words) (aOf g words) g.x).toNat 8 := by
    simp only [stepRows, hmo, n28, if_false, hwr]
  obtain ⟨st2, B2, a', ec, hM2, hl2, ho2, g2⟩ := t_changeX (p := (plB (nOf g words) (aOf g words) g.x).toNat) (v := v) hm0 hm1 h1.me h1.dg hB (fun b hb => h1.out b (by simp only [List.mem_cons] at hb ⊢; exact .inr hb)) (by omega)
  rw [← hpl] at ec
  rw [List.length_set] at hl2
  have nmm : M ∉ w :: r :: rs := fun z => h.nm (by simp only [List.mem_cons] at z ⊢; exact .inr z)
  have h2M := g2.rd h1.mo (h1.out M (by simp)) nmm
  have gg := (g1.mono (A' := M :: w :: r :: rs) (by simp)).trans g2 (fun i hi _ => by simp only [List.mem_cons] at hi ⊢; exact .inr hi)
  rw [List.nil_append, ← hL] at gg
  have hMe : M ≠ e := fun z => h.nm (by rw [z]; simp)
  have hMl := (gE h.mo).1
  refine ⟨st2, B2, a', ?_, ⟨by rw [hT]; exact h2M, by rw [hW]; exact hM2, g2.inv, ?_, ?_, G1, G2, by rw [hT]; exact G3⟩, hl2, gg⟩
  · have hd1 := hdn (.int (dOf g words)) (fun _ => rfl)
    have hE := h.me.ob
    have hM := h.mo
    have he2 := h1.me.ob
    have hM1 := h1.mo
    simp only [daW, h4, if_true] at hdo
    simp only [mOf] at hmo
    simp only [doneW, hmo, hwr, wOf] at hd1
    simp only [stepG, mOf, hmo] at ec h2M he2 hM1
    simp only [cntB, n28, if_false] at hd1 ec h2M he2 hM1
    simp only [m_Machine_step, b_Machine_step]
    simp [hM, hE, x0, x1, x3, x5, pa0, hk, hw1, hdo, hw2, hd1, putW, he2, hM1, ec, h2M]
  · intro z
    simp only [List.mem_cons] at z
    rcases z with z | z | z | z
    · exact hMe z
    · exact nmm (by simp [z])
    · exact nmm (by simp [z])
    · rcases List.mem_or_eq_of_mem_set z with z | z
      · exact nmm (by simp [z])
      · omega
  · intro a ha
    simp only [List.mem_cons] at ha
    rcases ha with rfl | ha
    · exact (g2.safe (gE h1.mo).1 (h1.out _ (by simp))).1
    · exact ho2 a (by simpa using ha)
end
end Gn

namespace Gn
open PySem L2 Mi
theorem t_stateX {m : Int} {j bk T : Nat} {st : Sto} {B : BS} (hm : 3 < m) (hm1 : m < 4611686018427387904) (h : DigB m st j bk T B) (hn : B.n < 999999) (ns : List Int) :
    ∃ st' B', m_Digests_state [.ref j, .tup (ns.map W.int)] st = .ok (.int (stateN m ns)) st' ∧ Gx m j bk T st B st' B' [("state", stateN m ns, .many ns)] := by
  obtain ⟨st', B', e0, g⟩ := t_keptX (by omega) h hn "state" (.many ns) (ns.foldl (stS m) 3)
  refine ⟨st', B', ?_, g⟩
  obtain ⟨b, hj⟩ := h.1
  obtain ⟨s2, st2, e1, ⟨rfl, x, rfl⟩⟩ := loop_st (ws := ns.map W.int) (g := mGN 3) (n := ns.length) (s := [some (.ref j), some (.tup (ns.map W.int)), some (.int 3), none]) (st := st) (body := l0_Digests_state) (by simp)
    (fun k s t => t = st ∧ ∃ x : Option W, s = [some (.ref j), some (.tup (ns.map W.int)), some (.int ((ns.take k).foldl (stS m) 3)), x])
    ⟨rfl, none, by simp⟩ (by
      rintro k w s t hw ⟨rfl, x, rfl⟩
      rw [List.getElem?_map, Option.map_eq_some_iff] at hw
      obtain ⟨n, hn, rfl⟩ := hw
      refine ⟨_, _, rfl, ?_⟩
      have hin := stS_in hm (ns.take k) 3 (by omega)
      have e := take_foldl (stS m) 3 ns k n hn
      generalize (ns.take k).foldl (stS m) 3 = f at hin e ⊢
      have h1 : mulOk (f + n) (f + 48611) = true := by
        simp only [mulOk, Bool.or_eq_true, decide_eq_true_eq]
        exact .inl (.inr (by omega))
      have h0 : (0 : Int) < m := by omega
      simp [l0_Digests_state, -mulOk, h1, hj, h0, e, stS, mo_small])
  rw [List.take_length] at e1
  simp only [Txt.w] at e0
  simp only [m_Digests_state, b_Digests_state, w_FIRST_STATE]
  simp [e1, hj, e0, stateN]
end Gn

namespace Gn
open PySem L2 Mi
/-! ### machines among other objects, with a book -/
def nxRows (m : Int) (s : Ms) : List Row := if s.g.mrk = 0 then stepRows m s.g s.w else []
theorem nxRows_len (m : Int) (s : Ms) : (nxRows m s).length ≤ 9 := by
  unfold nxRows stepRows
  split
  · split
    · simp
    · split
      · simp
      · split
        · simp [chRows]
        · simp
  · simp
theorem t_stepX {m : Int} {j bk T M e w r : Nat} {rs : List Nat} {g : Rg} {told words : List Int} {st : Sto} {B : BS} (hm : 7 < m) (hm1 : m < 18446744073709551616) (h : MachB m j bk T M e w r rs g told words st B) (hB : B.n < 800000) :
    ∃ st' B' rs', m_Machine_step [.ref M] st = .ok .non st' ∧ MachB m j bk T M e w r rs' (nxG m g words) (nxT g told words) (nxW g words) st' B' ∧ Gm m j bk T (M :: e :: w :: r :: rs) st B st' B' (nxRows m ⟨g, told, words⟩) ∧ ∀ i ∈ rs', i ∈ rs ∨ st.length ≤ i := by
  by_cases hk : g.mrk = 0
  · simp only [nxG, nxW, nxT, nxRows, hk, if_true]
    by_cases hc : mOf g words = none ∧ wrB (nOf g words) g.pc g.acc ≠ none
    · obtain ⟨v, hv⟩ : ∃ v, wrB (nOf g words) g.pc g.acc = some v := Option.ne_none_iff_exists'.mp hc.2
      obtain ⟨st', B', a', e1, h1, hl, gm⟩ := t_stepCX hm hm1 h hB hk hc.1 hv
      refine ⟨st', B', _, e1, h1, gm.mono fun i hi _ => ?_, fun i hi => ?_⟩
      · simp only [List.mem_cons] at hi ⊢
        rcases hi with hi | hi | hi | hi <;> simp [hi]
      · rcases List.mem_or_eq_of_mem_set hi with z | z
        · exact .inl z
        · exact .inr (by omega)
    · have hn : mOf g words = none → wrB (nOf g words) g.pc g.acc = none := fun z => by
        cases hw : wrB (nOf g words) g.pc g.acc with
        | none => rfl
        | some v => exact absurd ⟨z, by rw [hw]; simp⟩ hc
      obtain ⟨st', B', e1, h1, gm⟩ := t_stepNX hm hm1 h hB hk hn
      have hW : stepW g words = words := by
        simp only [stepW]
        cases hmo : mOf g words with
        | some s => rfl
        | none => simp only [hn hmo]
      rw [hW]
      exact ⟨_, _, rs, e1, h1, gm.mono (fun i hi _ => by simp only [List.mem_singleton] at hi; simp [hi]), fun i hi => .inl hi⟩
  · simp only [nxG, nxW, nxT, nxRows, hk, if_false]
    have hM := h.mo
    have x3 : ∀ p q s t u v : W, atI [p, q, s, t, u, v] 3 = some t := fun _ _ _ _ _ _ => rfl
    refine ⟨st, B, rs, ?_, h, (Gm.refl h.dg).mono (by simp), fun i hi => .inl hi⟩
    simp only [m_Machine_step, b_Machine_step]
    simp [hM, x3, hk]
def MhB (m : Int) (j bk T M : Nat) (s : Ms) (A : List Nat) (st : Sto) (B : BS) : Prop := ∃ e w r rs, A = M :: e :: w :: r :: rs ∧ MachB m j bk T M e w r rs s.g s.t s.w st B
section
variable {m : Int} {j bk T M : Nat} {s : Ms} {A : List Nat} {st : Sto} {B : BS}
theorem MhB.ok (h : MhB m j bk T M s A st B) : Ok m s := by
  obtain ⟨e, w, r, rs, rfl, h⟩ := h
  exact ⟨h.go, h.ww, h.me.wl, h.tl⟩
theorem MhB.rd (h : MhB m j bk T M s A st B) : ∀ i ∈ A, ∃ o, st[i]? = some o := by
  obtain ⟨e, w, r, rs, rfl, h⟩ := h
  intro i hi
  simp only [List.mem_cons] at hi
  rcases hi with rfl | rfl | rfl | rfl | hi
  · exact ⟨_, h.mo⟩
  · exact ⟨_, h.me.ob⟩
  · exact ⟨_, h.me.wo⟩
  · exact ⟨_, h.me.ro⟩
  · obtain ⟨k, hk, rfl⟩ := List.getElem_of_mem hi
    exact ⟨_, h.me.rw k _ (List.getElem?_eq_getElem hk)⟩
theorem MhB.lt (h : MhB m j bk T M s A st B) : ∀ i ∈ A, i < st.length := fun i hi => by
  obtain ⟨o, h1⟩ := h.rd i hi
  exact (gE h1).1
theorem MhB.dig (h : MhB m j bk T M s A st B) : DigB m st j bk T B := by
  obtain ⟨e, w, r, rs, rfl, h⟩ := h
  exact h.dg
theorem MhB.out (h : MhB m j bk T M s A st B) : ∀ i ∈ A, i ∉ fpB bk T B.es := by
  obtain ⟨e, w, r, rs, rfl, h⟩ := h
  exact h.out
theorem MhB.jn (h : MhB m j bk T M s A st B) : j ∉ A := by
  obtain ⟨e, w, r, rs, rfl, h⟩ := h
  exact fun z => h.jne _ z rfl
theorem MhB.self (h : MhB m j bk T M s A st B) : M ∈ A := by
  obtain ⟨e, w, r, rs, rfl, h⟩ := h
  simp
theorem MhB.keep {A' : List Nat} {st' : Sto} {B' : BS} {L : List Row} (h : MhB m j bk T M s A st B) (k : Gm m j bk T A' st B st' B' L) (hA : ∀ a ∈ A, a ∉ A') : MhB m j bk T M s A st' B' := by
  obtain ⟨e, w, r, rs, rfl, h⟩ := h
  exact ⟨e, w, r, rs, rfl, h.keep k hA⟩
theorem MhB.step (h : MhB m j bk T M s A st B) (hm : 7 < m) (hm1 : m < 18446744073709551616) (hB : B.n < 800000) :
    ∃ st' B' A', m_Machine_step [.ref M] st = .ok .non st' ∧ MhB m j bk T M (nx m s) A' st' B' ∧ Gm m j bk T A st B st' B' (nxRows m s) ∧ ∀ i ∈ A', i ∈ A ∨ st.length ≤ i := by
  obtain ⟨e, w, r, rs, rfl, h⟩ := h
  obtain ⟨st', B', rs', e1, h1, h2, h3⟩ := t_stepX hm hm1 h hB
  refine ⟨st', B', _, e1, ⟨e, w, r, rs', rfl, h1⟩, h2, fun i hi => ?_⟩
  simp only [List.mem_cons] at hi ⊢
  rcases hi with hi | hi | hi | hi | hi
  · simp [hi]
  · simp [hi]
  · simp [hi]
  · simp [hi]
  · rcases h3 i hi with z | z
    · simp [z]
    · exact .inr z
/-- a machine made -/
theorem MhB.make {S : Sto} {g : Rg} {words : List Int} (hm : 7 < m) (hm1 : m < 18446744073709551616) (hl : words.length = 256) (hD : DigB m S j bk T B) (hB : B.n < 800000) (hg : Good m g) (hw : ∀ x ∈ words, Word x) :
    ∃ st' B' A, m_Machine_init [.ref S.length, .ref j, rgW g, .tup (words.map W.int)] (S ++ [.ins 3 []]) = .ok .non st' ∧ MhB m j bk T S.length ⟨g, [], words⟩ A st' B' ∧ Gm m j bk T [] S B st' B' (memRows m words) ∧ (∀ i ∈ A, S.length ≤ i) := by
  obtain ⟨st', B', e, w, r, rs, e1, h1, h2, g1⟩ := t_machinitX (by omega) hm1 hl hD hB hg hw
  exact ⟨st', B', _, e1, ⟨e, w, r, rs, rfl, h1⟩, g1, h2⟩
theorem MhB.obj (h : MhB m j bk T M s A st B) : ∃ e, st[M]? = some (.ins 3 (machF j e (rgW s.g) (.tup (s.t.map W.int)))) := by
  obtain ⟨e, w, r, rs, rfl, h⟩ := h
  exact ⟨e, h.mo⟩
theorem MhB.regs (h : MhB m j bk T M s A st B) : m_Machine_registers [.ref M] st = .ok (rgW s.g) st := by
  obtain ⟨e, h1⟩ := h.obj
  simp only [m_Machine_registers, b_Machine_registers]
  simp [h1]
theorem MhB.words (h : MhB m j bk T M s A st B) : m_Machine_words [.ref M] st = .ok (.tup (s.w.map W.int)) st := by
  obtain ⟨e, w, r, rs, rfl, h⟩ := h
  have h1 := mem_words h.me
  have h2 := h.mo
  have h3 := h.me.ob
  simp only [m_Machine_words, b_Machine_words]
  simp [h2, h3, h1]
theorem MhB.word (h : MhB m j bk T M s A st B) (p : Nat) (hp : p < 256) : m_Machine_word [.ref M, .int (p : Int)] st = .ok (.int (gt s.w p)) st := by
  obtain ⟨e, w, r, rs, rfl, h⟩ := h
  have h1 := mem_word h.me p hp
  have h2 := h.mo
  have h3 := h.me.ob
  simp only [m_Machine_word, b_Machine_word]
  simp [h2, h3, h1]
theorem MhB.path (h : MhB m j bk T M s A st B) (p : Nat) (hp : p < 256) : m_Machine_path [.ref M, .int (p : Int)] st = .ok (.tup ((pathN m s.w p).map W.int)) (st ++ [.lst ((pathN m s.w p).map W.int)]) := by
  obtain ⟨e, w, r, rs, rfl, h⟩ := h
  have h1 := mem_path h.me p hp
  have h2 := h.mo
  have h3 := h.me.ob
  simp only [m_Machine_path, b_Machine_path]
  simp [h2, h3, h1]
theorem MhB.root (h : MhB m j bk T M s A st B) : m_Machine_root [.ref M] st = .ok (.int (gt (lv m s.w 8) 0)) st := by
  obtain ⟨e, w, r, rs, rfl, h⟩ := h
  have h1 := mem_root h.me
  have h2 := h.mo
  have h3 := h.me.ob
  simp only [m_Machine_root, b_Machine_root]
  simp [h2, h3, h1]
def digRow (m : Int) (s : Ms) : Row := ("state", digN m s.g s.w, .many (rgL s.g ++ [gt (lv m s.w 8) 0]))
theorem MhB.digest (h : MhB m j bk T M s A st B) (hm : 7 < m) (hm1 : m < 4611686018427387904) (hB : B.n < 900000) :
    ∃ st' B', m_Machine_digest [.ref M] st = .ok (.int (digN m s.g s.w)) st' ∧ Gx m j bk T st B st' B' [digRow m s] := by
  have h1 := h.root
  obtain ⟨e, h2⟩ := h.obj
  obtain ⟨st', B', h3, g⟩ := t_stateX (by omega) hm1 h.dig (by omega) (rgL s.g ++ [gt (lv m s.w 8) 0])
  obtain ⟨b, h4⟩ := h.dig.1
  refine ⟨st', B', ?_, g⟩
  simp only [rgL, List.map_cons, List.map_nil, List.cons_append, List.nil_append] at h3
  simp only [m_Machine_digest, b_Machine_digest, digN]
  simp [h2, h4, h1, h3, sizeLine_eq]
end
end Gn

namespace Gn
open PySem L2 Mi
/-! ### the form of openings, whatever the book -/
/-- a value without objects of the store but empty dicts, to the depth that is looked at -/
def nv0 (st : Sto) : W → Prop
  | .ref i => st[i]? = some (.dT [])
  | _ => True
def nv1 (st : Sto) : W → Prop
  | .ref i => st[i]? = some (.dT [])
  | .tup xs => xs.length ≤ 1000 ∧ ∀ x ∈ xs, nv0 st x
  | _ => True
def nv2 (st : Sto) : W → Prop
  | .ref i => st[i]? = some (.dT [])
  | .tup xs => xs.length ≤ 1000 ∧ ∀ x ∈ xs, nv1 st x
  | _ => True
def nv3 (st : Sto) : W → Prop
  | .ref i => st[i]? = some (.dT [])
  | .tup xs => xs.length ≤ 1000 ∧ ∀ x ∈ xs, nv2 st x
  | _ => True
def nv4 (st : Sto) : W → Prop
  | .ref i => st[i]? = some (.dT [])
  | .tup [r, d, ps] => nv1 st r ∧ nv0 st d ∧ nv3 st ps
  | _ => True
theorem nv10 {st : Sto} {w : W} (h : nv1 st w) : nv0 st w := by cases w <;> simp_all [nv0, nv1]
theorem nv21 {st : Sto} {w : W} (h : nv2 st w) : nv1 st w := by
  cases w with
  | tup xs => exact ⟨h.1, fun x hx => nv10 (h.2 x hx)⟩
  | _ => exact h
theorem nv32 {st : Sto} {w : W} (h : nv3 st w) : nv2 st w := by
  cases w with
  | tup xs => exact ⟨h.1, fun x hx => nv21 (h.2 x hx)⟩
  | _ => exact h
theorem v_isinteger (w : W) (a b : Int) (st : Sto) (h : nv0 st w) : m_is_integer [w, .int a, .int b] st = .ok (.bl (isI w a b)) st := by
  cases w with
  | ref i =>
    have h : st[i]? = some (.dT []) := h
    obtain ⟨hi, hg⟩ := List.getElem?_eq_some_iff.mp h
    simp only [m_is_integer, b_is_integer]
    simp [isI, hi, hg]
  | _ => exact t_isinteger _ a b st rfl
theorem v_isword (w : W) (st : Sto) (h : nv0 st w) : m_is_word [w] st = .ok (.bl (isI w 0 65535)) st := by
  have e := v_isinteger w 0 65535 st h
  simp only [m_is_word, b_is_word, w_MOST_WORD]
  simp [e]
/-- digests, whatever their book -/
def DigR (m : Int) (st : Sto) (j : Nat) : Prop := ∃ (b : Int) (k : W), st[j]? = some (.ins 0 [("_bits", .int b), ("_modulus", .int m), ("_book", k)])
theorem DigB.r {m : Int} {st : Sto} {j bk T : Nat} {B : BS} (h : DigB m st j bk T B) : DigR m st j := by
  obtain ⟨b, h⟩ := h.1
  exact ⟨b, _, h⟩
theorem v_isdigest {m : Int} {j : Nat} {st : Sto} (hD : DigR m st j) (w : W) (h : nv0 st w) : m_Digests_is_digest [.ref j, w] st = .ok (.bl (isI w 0 (m - 1))) st := by
  have e := v_isinteger w 0 (m - 1) st h
  obtain ⟨b, kk, ho⟩ := hD
  simp only [m_Digests_is_digest, b_Digests_is_digest]
  simp [ho, e]
section
variable {m : Int} {j : Nat} {st : Sto} (hD : DigR m st j)
include hD
theorem v_areregs (w : W) (h : nv1 st w) : m_are_registers [.ref j, w] st = .ok (.bl (areR m w)) st := by
  have hm : w_MARKS = W.tup [.str "long", .str "done", .str "divided", .str "place", .str "input", .str "full", .str "bad"] := rfl
  simp only [m_are_registers, b_are_registers, w_PLACES, w_MOST_TOLD]
  cases w with
  | tup ws =>
    obtain ⟨hl, hi⟩ := h
    match ws, hi with
    | [a, b, c, d, e, f], hp =>
      have ea := v_isinteger a 0 255 st (hp a (by simp))
      have eb := v_isword b st (hp b (by simp))
      have ec := v_isword c st (hp c (by simp))
      have ed := v_isinteger d 0 6 st (hp d (by simp))
      have ee := v_isdigest hD e (hp e (by simp))
      have ef := v_isinteger f 0 16 st (hp f (by simp))
      obtain ⟨bb, kk, ho⟩ := hD
      cases h1 : isI a 0 255 <;> cases h2 : isI b 0 65535 <;> cases h3 : isI c 0 65535 <;> cases h4 : isI d 0 6 <;> cases h5 : isI e 0 (m - 1) <;>
        simp [areR, ea, eb, ec, ed, ee, ef, h1, h2, h3, h4, h5, hm, ho]
    | [], _ => simp [areR]
    | [a], _ => simp [areR]
    | [a, b], _ => simp [areR]
    | [a, b, c], _ => simp [areR]
    | [a, b, c, d], _ => simp [areR]
    | [a, b, c, d, e], _ => simp [areR]
    | a :: b :: c :: d :: e :: f :: g :: r, _ =>
      have h7 : ¬ (r.length : Int) + 1 + 1 + 1 + 1 + 1 + 1 + 1 = 6 := by omega
      simp [areR, h7]
  | ref i =>
    have h : st[i]? = some (.dT []) := h
    obtain ⟨hi, hg⟩ := List.getElem?_eq_some_iff.mp h
    simp [areR, hi, hg]
  | _ => simp [areR]
theorem v_ispart (w : W) (h : nv2 st w) : m_is_part [.ref j, w] st = .ok (.bl (isP m w)) st := by
  refine def_rt rfl ?_
  show b_is_part [some (.ref j), some w, none] st = _
  unfold b_is_part
  simp only [w_DEPTH]
  cases w with
  | tup ws =>
    obtain ⟨hl, hi⟩ := h
    match ws, hi with
    | [], _ => exact seq_rt (by simp [isP])
    | [a], _ => exact seq_rt (by simp [isP])
    | a :: b :: c :: r, _ =>
      have h7 : ¬ (r.length : Int) + 1 + 1 + 1 = 2 := by omega
      exact seq_rt (by simp [isP, h7])
    | [a, b], hp =>
      have e1 := v_isword a st (nv10 (hp a (by simp)))
      by_cases h1 : isI a 0 65535 = true
      · refine seq_nx (by simp [e1, h1]; exact ⟨rfl, rfl⟩) ?_
        have hb := hp b (by simp)
        cases b with
        | tup p =>
          obtain ⟨hpl, hpi⟩ := hb
          have e2 := all_tup (it := mITup (mOp mIx (mVar 1) (mC (W.int 1)))) (n := 2) (v := 2) (e := e0_is_part) (s := [some (.ref j), some (.tup [a, .tup p]), none]) (st := st) (ws := p) (fun x => isI x 0 (m - 1)) (by simp) (by omega) (fun w hw => by
            have e := v_isdigest hD w (hpi w hw)
            obtain ⟨bb, kk, ho⟩ := hD
            simp [e0_is_part, wipeW, ho, e])
          have h8 : ((p.length : Int) = 8) = (p.length = 8) := by apply propext; omega
          by_cases h2 : p.length = 8
          · refine seq_nx (by simp [h8, h2]; exact ⟨rfl, rfl⟩) ?_
            simp only [mRet, e2, Out.run]
            simp [isP, h1, h2]
          · exact seq_rt (by simp [h8, h2, isP])
        | ref i =>
          have h : st[i]? = some (.dT []) := hb
          obtain ⟨hi, hg⟩ := List.getElem?_eq_some_iff.mp h
          exact seq_rt (by simp [isP, hi, hg])
        | _ => exact seq_rt (by simp [isP])
      · have h1' : isI a 0 65535 = false := by simpa using h1
        refine seq_rt ?_
        have : isP m (.tup [a, b]) = false := by cases b <;> simp [isP, h1']
        simp [e1, h1', this]
  | ref i =>
    have h : st[i]? = some (.dT []) := h
    obtain ⟨hi, hg⟩ := List.getElem?_eq_some_iff.mp h
    exact seq_rt (by simp [isP, hi, hg])
  | _ => exact seq_rt (by simp [isP])
theorem v_isopening (w : W) (h : nv4 st w) : m_is_opening [.ref j, w] st = .ok (.bl (isO m w)) st := by
  refine def_rt rfl ?_
  show b_is_opening [some (.ref j), some w, none] st = _
  unfold b_is_opening
  cases w with
  | tup ws =>
    match ws, h with
    | [], _ => exact seq_rt (by simp [isO])
    | [a], _ => exact seq_rt (by simp [isO])
    | [a, b], _ => exact seq_rt (by simp [isO])
    | a :: b :: c :: d :: r, _ =>
      have h7 : ¬ (r.length : Int) + 1 + 1 + 1 + 1 = 3 := by omega
      exact seq_rt (by simp [isO, h7])
    | [r, d, ps], hp =>
      obtain ⟨hr, hd, hps⟩ := hp
      have e1 := v_areregs hD r hr
      have e2 := v_isdigest hD d hd
      cases ps with
      | tup Q =>
        obtain ⟨hql, hqi⟩ := hps
        have e3 := all_tup (it := mITup (mOp mIx (mVar 1) (mC (W.int 2)))) (n := 2) (v := 2) (e := e0_is_opening) (s := [some (.ref j), some (.tup [r, d, .tup Q]), none]) (st := st) (ws := Q) (isP m) (by simp) (by omega) (fun w hw => by
          have e := v_ispart hD w (hqi w hw)
          simp [e0_is_opening, wipeW, e])
        refine seq_nx (by simp; exact ⟨rfl, rfl⟩) ?_
        obtain ⟨bb, kk, ho⟩ := hD
        by_cases h1 : areR m r = true
        · by_cases h2 : isI d 0 (m - 1) = true
          · refine seq_nx (by simp [e1, h1, ho, e2, h2]; exact ⟨rfl, rfl⟩) ?_
            simp only [mRet, e3, Out.run]
            simp [isO, h1, h2]
          · refine seq_rt ?_
            simp only [Bool.not_eq_true] at h2
            simp [e1, h1, ho, e2, h2, isO]
        · refine seq_rt ?_
          simp only [Bool.not_eq_true] at h1
          simp [e1, h1, isO]
      | ref i =>
        have h : st[i]? = some (.dT []) := hps
        obtain ⟨hi, hg⟩ := List.getElem?_eq_some_iff.mp h
        exact seq_rt (by simp [isO, hi, hg])
      | _ => exact seq_rt (by simp [isO])
  | ref i =>
    have h : st[i]? = some (.dT []) := h
    obtain ⟨hi, hg⟩ := List.getElem?_eq_some_iff.mp h
    exact seq_rt (by simp [isO, hi, hg])
  | _ => exact seq_rt (by simp [isO])
end
end Gn

namespace Gn
open PySem L2 Mi
section
variable {m : Int} {j : Nat} {st : Sto} (hm : 0 < m) (hm1 : m < 18446744073709551616) (hD : DigAt m st j)
include hm hm1 hD
theorem t_rootwith (p : Nat) (v : Int) (ps : List Int) (hp : ∀ x ∈ ps, In m x) : m_root_with [.ref j, .int (p : Int), .int v, .tup (ps.map W.int)] st = .ok (.int (rootB m p (leafN m v) ps)) st := by
  have e1 := t_rootby hm hm1 hD p (leafN m v) ps (in_leaf hm v) hp
  have e2 := t_leaf hm hD v
  obtain ⟨_, ho, bb, rfl⟩ := hD
  simp only [m_root_with, b_root_with]
  simp [ho, e2, e1]
end
/-- the path of a place leads from any word there to the root with this word -/
theorem path_root (m : Int) (words : List Int) (hl : words.length = 256) (p : Nat) (hp : p < 256) (v : Int) : rootB m p (leafN m v) (pathN m words p) = gt (lv m (words.set p v) 8) 0 := by
  have key : ∀ k, k ≤ 8 → ((pathN m words p).take k).foldl (rbS m) (p, leafN m v) = (p / 2 ^ k, gt (lv m (words.set p v) k) (p / 2 ^ k)) := by
    intro k
    induction k with
    | zero =>
      intro _
      show (p, leafN m v) = (p / 2 ^ 0, gt ((words.set p v).map (leafN m)) (p / 2 ^ 0))
      rw [Nat.pow_zero, Nat.div_one, List.map_set, getD_set_self (by simp [hl, hp])]
    | succ k ih =>
      intro hk
      have hk8 : k < 8 := by omega
      have hsz : (pathN m words p)[k]? = some (gt (lv m words k) (sib (p / 2 ^ k))) := by simp [pathN, hk8]
      rw [take_foldl _ _ _ _ _ hsz, ih (by omega)]
      obtain ⟨p1, p2, p3, p4, p5⟩ := pow_sm k hk8
      have hq : p / 2 ^ k < 256 / 2 ^ k := Nat.div_lt_div_of_lt_of_dvd (pow_dv k (by omega)) hp
      have e2 : p / 2 ^ (k + 1) = p / 2 ^ k / 2 := by rw [Nat.div_div_eq_div_mul, Nat.pow_succ]
      have hset : lv m (words.set p v) k = (lv m words k).set (p / 2 ^ k) (gt (lv m (words.set p v) k) (p / 2 ^ k)) := by
        have z := lev_set (foldN m) (words.map (leafN m)) p (leafN m v) (by simp [hl, hp]) k (by rw [List.length_map, hl]; exact pow_dv k (by omega))
        rw [← List.map_set] at z
        exact z
      have hln : (lv m (words.set p v) k).length = 256 / 2 ^ k := lv_len (by simpa using hl) k
      have hnx : gt (lv m (words.set p v) (k + 1)) (p / 2 ^ k / 2) = foldN m (gt (lv m (words.set p v) k) (2 * (p / 2 ^ k / 2))) (gt (lv m (words.set p v) k) (2 * (p / 2 ^ k / 2) + 1)) := prs_getD _ _ _ (by rw [hln]; omega)
      rw [e2, hnx]
      have hs : gt (lv m words k) (sib (p / 2 ^ k)) = gt (lv m (words.set p v) k) (sib (p / 2 ^ k)) := by
        rw [hset, getD_set_ne (by unfold sib; omega)]
      rw [hs]
      generalize p / 2 ^ k = q
      generalize lv m (words.set p v) k = L
      unfold rbS
      by_cases h : q % 2 = 0
      · have a1 : 2 * (q / 2) = q := by omega
        have a2 : sib q = q + 1 := by unfold sib; omega
        simp only [h, if_true, a1, a2]
      · have a1 : 2 * (q / 2) + 1 = q := by omega
        have a2 : sib q = 2 * (q / 2) := by unfold sib; omega
        simp only [h, if_false, a1, a2]
  have h8 := key 8 (Nat.le_refl 8)
  rw [List.take_of_length_le (by rw [path_len]; exact Nat.le_refl _)] at h8
  unfold rootB
  rw [h8]
  show gt (lv m (words.set p v) 8) (p / 2 ^ 8) = _
  rw [show p / 2 ^ 8 = 0 by omega]
theorem path_in {m : Int} (hm : 0 < m) (hm1 : m < 18446744073709551616) {words : List Int} (hl : words.length = 256) (p : Nat) : ∀ x ∈ pathN m words p, In m x := by
  intro x hx
  simp only [pathN, List.mem_map] at hx
  obtain ⟨k, _, rfl⟩ := hx
  exact getD_in hm (lev_ok hm hm1 hl k).2 _
theorem set_gt {words : List Int} {p : Nat} (h : p < words.length) : words.set p (gt words p) = words := by
  have e : gt words p = words[p] := by simp [gt, List.getD, h]
  rw [e, List.set_getElem_self]
theorem path_root0 (m : Int) (words : List Int) (hl : words.length = 256) (p : Nat) (hp : p < 256) : rootB m p (leafN m (gt words p)) (pathN m words p) = gt (lv m words 8) 0 := by
  have h := path_root m words hl p hp (gt words p)
  rwa [set_gt (by omega)] at h
end Gn

namespace Gn
open PySem L2 Mi
/-! ### the opening of a machine's state -/
def hasO (s : Ms) : Prop := (nOf s.g s.w = 4 ∨ nOf s.g s.w = 6 ∨ nOf s.g s.w = 26) ∨ Asks (nOf s.g s.w)
instance (s : Ms) : Decidable (hasO s) := by unfold hasO; infer_instance
def plN (s : Ms) : Nat := (plB (nOf s.g s.w) (aOf s.g s.w) s.g.x).toNat
def opParts (m : Int) (s : Ms) : List (Int × List Int) :=
  if s.g.mrk = 0 then (gt s.w s.g.pc.toNat, pathN m s.w s.g.pc.toNat) :: (if hasO s then [(gt s.w (plN s), pathN m s.w (plN s))] else []) else []
abbrev openW (m : Int) (s : Ms) : W := .tup [rgW s.g, .int (gt (lv m s.w 8) 0), .tup ((opParts m s).map fun q => prt q.1 q.2)]
theorem t_opened {m : Int} {j M : Nat} {s : Ms} {A : List Nat} {st : Sto} (h : Mh m j M s A st) : ∃ st', m_opened [.ref M] st = .ok (openW m s) st' ∧ Only [] st st' := by
  have r1 := h.regs
  obtain ⟨e0, c0⟩ := h.obj
  have ho := h.ok
  have hpc : s.g.pc = (s.g.pc.toNat : Int) := by have := ho.go.pc.1; omega
  have hpl : s.g.pc.toNat < 256 := by have := ho.go.pc; omega
  have pin := plB_in (nOf s.g s.w) (aOf s.g s.w) s.g.x
  have hplb : plB (nOf s.g s.w) (aOf s.g s.w) s.g.x = ((plN s : Nat) : Int) := by unfold plN; omega
  have hpl2 : plN s < 256 := by unfold plN; omega
  by_cases hk : s.g.mrk = 0
  · have e1 := h.word s.g.pc.toNat hpl
    have e2 := h.path s.g.pc.toNat hpl
    rw [← hpc] at e1 e2
    generalize hS1 : st ++ [Ob.lst ((pathN m s.w s.g.pc.toNat).map W.int)] = st1 at e2
    have o1 : Only [] st st1 := by rw [← hS1]; exact Only.app _ _ _
    have h1 := h.only o1 (by simp) (by simp)
    obtain ⟨e01, c1⟩ := h1.obj
    have hwd : Word (gt s.w s.g.pc.toNat) := gt_word ho.ww _
    have hn : gt s.w s.g.pc.toNat / 1024 = (nOf s.g s.w : Int) := by have := hwd.1; unfold nOf; omega
    have ha : gt s.w s.g.pc.toNat % 1024 = (aOf s.g s.w : Int) := by unfold aOf; omega
    have hdo := t_data_of (gt s.w s.g.pc.toNat) (nOf s.g s.w) (aOf s.g s.w) hn ha (.int s.g.pc) (.int s.g.acc) (.int s.g.mrk) (.int s.g.out) (.int s.g.cnt) s.g.x st1
    by_cases hh : hasO s
    · have hda : ∃ b, daW (nOf s.g s.w) (aOf s.g s.w) s.g.x = .tup [.int ((plN s : Nat) : Int), .bl b] := by
        unfold hasO at hh
        unfold daW
        by_cases h4 : nOf s.g s.w = 4 ∨ nOf s.g s.w = 6 ∨ nOf s.g s.w = 26
        · rw [if_pos h4, hplb]; exact ⟨_, rfl⟩
        · rw [if_neg h4, if_pos (hh.resolve_left h4), hplb]; exact ⟨_, rfl⟩
      obtain ⟨b, hda⟩ := hda
      rw [hda] at hdo
      have e3 := h1.word (plN s) hpl2
      have e4 := h1.path (plN s) hpl2
      generalize hS2 : st1 ++ [Ob.lst ((pathN m s.w (plN s)).map W.int)] = st2 at e4
      have o2 : Only [] st1 st2 := by rw [← hS2]; exact Only.app _ _ _
      have h2 := h1.only o2 (by simp) (by simp)
      obtain ⟨e02, c2⟩ := h2.obj
      have e5 := h2.root
      refine ⟨st2, ?_, o1.trans o2 (by simp)⟩
      have hop : opParts m s = [(gt s.w s.g.pc.toNat, pathN m s.w s.g.pc.toNat), (gt s.w (plN s), pathN m s.w (plN s))] := by simp only [opParts, hk, hh, if_true]
      rw [openW, hop]
      simp only [List.map_cons, List.map_nil, prt]
      generalize (pathN m s.w (plN s)).map W.int = V2 at *
      generalize (pathN m s.w s.g.pc.toNat).map W.int = V1 at *
      refine def_rt rfl ?_
      show b_opened [some (.ref M), none, none, none, none] st = _
      unfold b_opened
      refine seq_nx (by simp [c0, r1]; exact ⟨rfl, rfl⟩) ?_
      refine seq_nx (by simp [sizeLine_eq]; exact ⟨rfl, rfl⟩) ?_
      refine seq_nx (by simp [-mEq, mEq_ii, hk, c0, e1, e2, hdo, c1, e3, e4, sizeLine_eq]; exact ⟨rfl, rfl⟩) ?_
      simp [c2, e5, sizeLine_eq]
    · have hda : daW (nOf s.g s.w) (aOf s.g s.w) s.g.x = .non := by
        unfold hasO at hh
        unfold daW
        rw [if_neg (fun z => hh (.inl z)), if_neg (fun z => hh (.inr z))]
      rw [hda] at hdo
      have e5 := h1.root
      refine ⟨st1, ?_, o1⟩
      have hop : opParts m s = [(gt s.w s.g.pc.toNat, pathN m s.w s.g.pc.toNat)] := by simp only [opParts, hk, hh, if_true, if_false]
      rw [openW, hop]
      simp only [List.map_cons, List.map_nil, prt]
      generalize (pathN m s.w s.g.pc.toNat).map W.int = V1 at *
      refine def_rt rfl ?_
      show b_opened [some (.ref M), none, none, none, none] st = _
      unfold b_opened
      refine seq_nx (by simp [c0, r1]; exact ⟨rfl, rfl⟩) ?_
      refine seq_nx (by simp [sizeLine_eq]; exact ⟨rfl, rfl⟩) ?_
      refine seq_nx (by simp [-mEq, mEq_ii, hk, c0, e1, e2, hdo, c1, sizeLine_eq]; exact ⟨rfl, rfl⟩) ?_
      simp [c1, e5, sizeLine_eq]
  · have e5 := h.root
    refine ⟨st, ?_, Only.refl _ _⟩
    have hop : opParts m s = [] := by simp only [opParts, hk, if_false]
    rw [openW, hop]
    simp only [List.map_nil]
    refine def_rt rfl ?_
    show b_opened [some (.ref M), none, none, none, none] st = _
    unfold b_opened
    refine seq_nx (by simp [c0, r1]; exact ⟨rfl, rfl⟩) ?_
    refine seq_nx (by simp [sizeLine_eq]; exact ⟨rfl, rfl⟩) ?_
    refine seq_nx (by simp [-mEq, mEq_ii, hk]; exact ⟨rfl, rfl⟩) ?_
    simp [c0, e5, sizeLine_eq]
end Gn

namespace Gn
open PySem L2 Mi
/-! ### the step that an opening shows -/
theorem t_must (st : Sto) : m_must [.bl true] st = .ok .non st := by
  simp only [m_must, b_must]
  simp
theorem ne_nil1 (a : Int) (p : List Int) (st : Sto) : mNe (.tup [.tup [.int a, .tup (p.map W.int)]]) (.tup []) st = .ok (.bl true) st := by simp [lay_ints, dep_ints]
theorem ne_nil2 (a : Int) (p : List Int) (b : Int) (q : List Int) (st : Sto) : mNe (.tup [.tup [.int a, .tup (p.map W.int)], .tup [.int b, .tup (q.map W.int)]]) (.tup []) st = .ok (.bl true) st := by simp [lay_ints, dep_ints]
theorem isI_ok {x a b : Int} (h : a ≤ x ∧ x ≤ b) : isI (.int x) a b = true := by simp [isI, h.1, h.2]
theorem areR_ok {m : Int} {g : Rg} (h : Good m g) : areR m (rgW g) = true := by
  obtain ⟨h1, h2, h3, h4, h5, h6⟩ := h
  simp only [Word] at h2 h3
  have a1 := isI_ok (x := g.pc) (a := 0) (b := 255) (by omega)
  have a2 := isI_ok (x := g.acc) (a := 0) (b := 65535) (by omega)
  have a3 := isI_ok (x := g.x) (a := 0) (b := 65535) (by omega)
  have a4 := isI_ok (x := g.mrk) (a := 0) (b := 6) (by omega)
  have a5 := isI_ok (x := g.out) (a := 0) (b := m - 1) (by omega)
  have a6 := isI_ok (x := g.cnt) (a := 0) (b := 16) (by omega)
  simp only [areR, a1, a2, a3, a4, a5, a6, Bool.and_self]
theorem isP_ok {m : Int} (hm : 0 < m) {a : Int} (ha : Word a) {p : List Int} (hl : p.length = 8) (hp : ∀ x ∈ p, In m x) : isP m (prt a p) = true := by
  have h1 : isI (.int a) 0 65535 = true := isI_ok (by simp only [Word] at ha; omega)
  have h2 : (p.map W.int).all (fun x => isI x 0 (m - 1)) = true := by
    rw [List.all_eq_true]
    intro w hw
    simp only [List.mem_map] at hw
    obtain ⟨x, hx, rfl⟩ := hw
    have := hp x hx
    simp only [In] at this
    exact isI_ok (by omega)
  simp only [isP, prt, h1, h2, List.length_map, hl, decide_true, Bool.and_self]
section
variable {m : Int} (hm : 7 < m) (hm1 : m < 4611686018427387904) {s : Ms} (h : Ok m s)
include hm hm1 h
theorem isO_ok : isO m (openW m s) = true := by
  have h0 : 0 < m := by omega
  have hr : In m (gt (lv m s.w 8) 0) := getD_in h0 (lev_ok h0 (by omega) h.wl 8).2 0
  have hr' : isI (.int (gt (lv m s.w 8) 0)) 0 (m - 1) = true := isI_ok (by simp only [In] at hr; omega)
  have hps : ((opParts m s).map fun q => prt q.1 q.2).all (isP m) = true := by
    rw [List.all_map, List.all_eq_true]
    intro q hq
    have hpp : ∀ p, isP m (prt (gt s.w p) (pathN m s.w p)) = true := fun p => isP_ok h0 (gt_word h.ww p) (path_len _ _ _) (path_in h0 (by omega) h.wl p)
    unfold opParts at hq
    split at hq
    · split at hq
      · simp only [List.mem_cons, List.not_mem_nil, or_false] at hq
        rcases hq with rfl | rfl <;> exact hpp _
      · simp only [List.mem_cons, List.not_mem_nil, or_false] at hq
        subst hq; exact hpp _
    · simp at hq
  simp only [isO, areR_ok h.go, hr', hps, Bool.and_self]
theorem t_stepof {j : Nat} {st : Sto} (hD : DigAt m st j) : m_step_of [.ref j, .int (digN m s.g s.w), openW m s] st = .ok (.int (digN m (nx m s).g (nx m s).w)) st := by
  have h0 : 0 < m := by omega
  have hl1 : (opParts m s).length ≤ 1000 := by
    unfold opParts
    split
    · split <;> simp
    · simp
  have hio := t_isopening hD s.g (gt (lv m s.w 8) 0) (opParts m s) hl1 (fun q hq => by
    unfold opParts at hq
    split at hq
    · split at hq
      · simp only [List.mem_cons, List.not_mem_nil, or_false] at hq
        rcases hq with rfl | rfl <;> simp [pathN]
      · simp only [List.mem_cons, List.not_mem_nil, or_false] at hq
        subst hq; simp [pathN]
    · simp at hq)
  rw [isO_ok hm hm1 h] at hio
  have hst := t_state (by omega : 3 < m) hm1 hD (rgL s.g ++ [gt (lv m s.w 8) 0])
  have hst2 := t_state (by omega : 3 < m) hm1 hD (rgL (nx m s).g ++ [gt (lv m (nx m s).w 8) 0])
  have hdg : stateN m (rgL s.g ++ [gt (lv m s.w 8) 0]) = digN m s.g s.w := rfl
  have hdg2 : stateN m (rgL (nx m s).g ++ [gt (lv m (nx m s).w 8) 0]) = digN m (nx m s).g (nx m s).w := rfl
  rw [hdg] at hst
  rw [hdg2] at hst2
  have hmust := t_must st
  have hobj := hD
  obtain ⟨_, ho, bb, rfl⟩ := hobj
  simp only [rgL, List.map_cons, List.map_nil, List.cons_append, List.nil_append] at hst hst2
  by_cases hk : s.g.mrk = 0
  · have hgo := h.go
    have hpc : s.g.pc = (s.g.pc.toNat : Int) := by have := hgo.pc.1; omega
    have hpl : s.g.pc.toNat < 256 := by have := hgo.pc; omega
    have pin := plB_in (nOf s.g s.w) (aOf s.g s.w) s.g.x
    have hplb : plB (nOf s.g s.w) (aOf s.g s.w) s.g.x = ((plN s : Nat) : Int) := by unfold plN; omega
    have hpl2 : plN s < 256 := by unfold plN; omega
    have hwd : Word (gt s.w s.g.pc.toNat) := gt_word h.ww _
    have hd : Word (dOf s.g s.w) := gt_word h.ww _
    have hdOf : dOf s.g s.w = gt s.w (plN s) := rfl
    have hn : gt s.w s.g.pc.toNat / 1024 = (nOf s.g s.w : Int) := by have := hwd.1; unfold nOf; omega
    have ha : gt s.w s.g.pc.toNat % 1024 = (aOf s.g s.w : Int) := by unfold aOf; omega
    have hdo := t_data_of (gt s.w s.g.pc.toNat) (nOf s.g s.w) (aOf s.g s.w) hn ha (.int s.g.pc) (.int s.g.acc) (.int s.g.mrk) (.int s.g.out) (.int s.g.cnt) s.g.x st
    have hdn := fun dw hdw => t_done h0 (by omega) hD (gt s.w s.g.pc.toNat) (nOf s.g s.w) (aOf s.g s.w) hn ha s.g.pc s.g.acc s.g.x s.g.mrk s.g.out s.g.cnt (dOf s.g s.w) dw hgo.acc hd hgo.out hdw
    have n1 : (nx m s).g = stepG m s.g s.w := if_pos hk
    have n2 : (nx m s).w = stepW s.g s.w := if_pos hk
    have hrw1 := t_rootwith h0 (by omega) hD s.g.pc.toNat (gt s.w s.g.pc.toNat) (pathN m s.w s.g.pc.toNat) (path_in h0 (by omega) h.wl _)
    rw [path_root0 m s.w h.wl _ hpl, ← hpc] at hrw1
    have hrw2 := t_rootwith h0 (by omega) hD (plN s) (gt s.w (plN s)) (pathN m s.w (plN s)) (path_in h0 (by omega) h.wl _)
    rw [path_root0 m s.w h.wl _ hpl2] at hrw2
    have hrw3 := fun v => t_rootwith h0 (by omega) hD (plN s) v (pathN m s.w (plN s)) (path_in h0 (by omega) h.wl _)
    simp only [path_root m s.w h.wl _ hpl2] at hrw3
    by_cases hh : hasO s
    · have hop : opParts m s = [(gt s.w s.g.pc.toNat, pathN m s.w s.g.pc.toNat), (gt s.w (plN s), pathN m s.w (plN s))] := by simp only [opParts, hk, hh, if_true]
      have hda : ∃ b, daW (nOf s.g s.w) (aOf s.g s.w) s.g.x = .tup [.int ((plN s : Nat) : Int), .bl b] := by
        unfold hasO at hh
        unfold daW
        by_cases h4 : nOf s.g s.w = 4 ∨ nOf s.g s.w = 6 ∨ nOf s.g s.w = 26
        · rw [if_pos h4, hplb]; exact ⟨_, rfl⟩
        · rw [if_neg h4, if_pos (hh.resolve_left h4), hplb]; exact ⟨_, rfl⟩
      obtain ⟨b, hda⟩ := hda
      rw [hda] at hdo
      have hd1 := hdn (.int (dOf s.g s.w)) (fun _ => rfl)
      obtain ⟨G, hG⟩ : ∃ G, (nx m s).g = G := ⟨_, rfl⟩
      have hres : ∃ wr : Option Int, doneW m (nOf s.g s.w) (aOf s.g s.w) s.g.pc s.g.acc s.g.x s.g.out s.g.cnt (dOf s.g s.w) = .tup [rgW (nx m s).g, wOf wr] ∧ (nx m s).w = (match wr with | some v => s.w.set (plN s) v | none => s.w) := by
        rw [n1, n2]
        unfold doneW stepG stepW mOf
        cases hmo : mkN (nOf s.g s.w) (aOf s.g s.w) s.g.x s.g.cnt s.g.acc (dOf s.g s.w) with
        | some v => exact ⟨none, rfl, rfl⟩
        | none => exact ⟨wrB (nOf s.g s.w) s.g.pc s.g.acc, rfl, by simp only []; cases wrB (nOf s.g s.w) s.g.pc s.g.acc <;> rfl⟩
      obtain ⟨wr, hdw, hww⟩ := hres
      rw [hdw] at hd1
      rw [hdOf] at hd1
      rw [hop] at hio
      rw [openW, hop]
      simp only [List.map_cons, List.map_nil, prt] at hio ⊢
      rw [hww] at hst2
      rw [hww]
      have hne := ne_nil2 (gt s.w s.g.pc.toNat) (pathN m s.w s.g.pc.toNat) (gt s.w (plN s)) (pathN m s.w (plN s)) st
      generalize (nx m s).g = G at *
      generalize (pathN m s.w (plN s)).map W.int = V2 at *
      generalize (pathN m s.w s.g.pc.toNat).map W.int = V1 at *
      first | refine def_rt rfl ?_ | refine defX_rt rfl ?_
      show b_step_of [some (.ref j), some (.int (digN m s.g s.w)), some (.tup [rgW s.g, .int (gt (lv m s.w 8) 0), .tup [.tup [.int (gt s.w s.g.pc.toNat), .tup V1], .tup [.int (gt s.w (plN s)), .tup V2]]]), none, none, none, none, none, none, none, none, none] st = _
      unfold b_step_of
      refine seq_nx (by simp [hio, hmust]; exact ⟨rfl, rfl⟩) ?_
      refine seq_nx (by simp; exact ⟨rfl, rfl⟩) ?_
      refine seq_nx (by simp [-mEq, ho, hst, sizeLine_eq, mEq_ii, hmust]; exact ⟨rfl, rfl⟩) ?_
      refine seq_nx (by simp [-mNe, mNe_ii, hk]; exact ⟨rfl, rfl⟩) ?_
      refine seq_nx (by
        have q : mNe (.tup [.tup [.int (gt s.w s.g.pc.toNat), .tup V1], .tup [.int (gt s.w (plN s)), .tup V2]]) (.tup []) st = .ok (.bl true) st := hne
        simp [-mNe, q, hmust, sizeLine_eq]; exact ⟨rfl, rfl⟩) ?_
      refine seq_nx (by simp; exact ⟨rfl, rfl⟩) ?_
      refine seq_nx (by simp [hdo]; exact ⟨rfl, rfl⟩) ?_
      refine seq_nx (by simp [-mEq, mEq_ii, hmust]; exact ⟨rfl, rfl⟩) ?_
      refine seq_nx (by simp [-mEq, mEq_ii, hrw1, hmust]; exact ⟨rfl, rfl⟩) ?_
      refine seq_nx (by simp; exact ⟨rfl, rfl⟩) ?_
      refine seq_nx (by simp [-mEq, mEq_ii, hrw2, hmust]; exact ⟨rfl, rfl⟩) ?_
      refine seq_nx (by simp [hd1]; exact ⟨rfl, rfl⟩) ?_
      cases wr with
      | none =>
        refine seq_nx (by simp [wOf]; exact ⟨rfl, rfl⟩) ?_
        simp only [] at hst2
        simp [ho, hst2, sizeLine_eq]
      | some v =>
        refine seq_nx (by simp [wOf, hrw3]; exact ⟨rfl, rfl⟩) ?_
        simp only [] at hst2
        simp [ho, hst2, sizeLine_eq]
    · have hop : opParts m s = [(gt s.w s.g.pc.toNat, pathN m s.w s.g.pc.toNat)] := by simp only [opParts, hk, hh, if_true, if_false]
      have hda : daW (nOf s.g s.w) (aOf s.g s.w) s.g.x = .non := by
        unfold hasO at hh
        unfold daW
        rw [if_neg (fun z => hh (.inl z)), if_neg (fun z => hh (.inr z))]
      rw [hda] at hdo
      have hd1 := hdn .non (fun z => absurd (Or.inr z) hh)
      have hwn : wrB (nOf s.g s.w) s.g.pc s.g.acc = none := by
        unfold hasO at hh
        unfold wrB
        rw [if_neg (fun z => hh (.inl (by omega))), if_neg (fun z => hh (.inl (by omega)))]
      have hres : doneW m (nOf s.g s.w) (aOf s.g s.w) s.g.pc s.g.acc s.g.x s.g.out s.g.cnt (dOf s.g s.w) = .tup [rgW (nx m s).g, .non] ∧ (nx m s).w = s.w := by
        rw [n1, n2]
        unfold doneW stepG stepW mOf
        cases hmo : mkN (nOf s.g s.w) (aOf s.g s.w) s.g.x s.g.cnt s.g.acc (dOf s.g s.w) with
        | some v => exact ⟨rfl, rfl⟩
        | none => simp only [hwn, wOf]; exact ⟨trivial, trivial⟩
      obtain ⟨hdw, hww⟩ := hres
      rw [hdw] at hd1
      rw [hop] at hio
      rw [openW, hop]
      simp only [List.map_cons, List.map_nil, prt] at hio ⊢
      rw [hww] at hst2
      rw [hww]
      have hne := ne_nil1 (gt s.w s.g.pc.toNat) (pathN m s.w s.g.pc.toNat) st
      generalize (nx m s).g = G at *
      generalize (pathN m s.w s.g.pc.toNat).map W.int = V1 at *
      first | refine def_rt rfl ?_ | refine defX_rt rfl ?_
      show b_step_of [some (.ref j), some (.int (digN m s.g s.w)), some (.tup [rgW s.g, .int (gt (lv m s.w 8) 0), .tup [.tup [.int (gt s.w s.g.pc.toNat), .tup V1]]]), none, none, none, none, none, none, none, none, none] st = _
      unfold b_step_of
      refine seq_nx (by simp [hio, hmust]; exact ⟨rfl, rfl⟩) ?_
      refine seq_nx (by simp; exact ⟨rfl, rfl⟩) ?_
      refine seq_nx (by simp [-mEq, ho, hst, sizeLine_eq, mEq_ii, hmust]; exact ⟨rfl, rfl⟩) ?_
      refine seq_nx (by simp [-mNe, mNe_ii, hk]; exact ⟨rfl, rfl⟩) ?_
      refine seq_nx (by
        have q : mNe (.tup [.tup [.int (gt s.w s.g.pc.toNat), .tup V1]]) (.tup []) st = .ok (.bl true) st := hne
        simp [-mNe, q, hmust, sizeLine_eq]; exact ⟨rfl, rfl⟩) ?_
      refine seq_nx (by simp; exact ⟨rfl, rfl⟩) ?_
      refine seq_nx (by simp [hdo]; exact ⟨rfl, rfl⟩) ?_
      refine seq_nx (by simp [-mEq, mEq_ii, hmust]; exact ⟨rfl, rfl⟩) ?_
      refine seq_nx (by simp [-mEq, mEq_ii, hrw1, hmust]; exact ⟨rfl, rfl⟩) ?_
      refine seq_nx (by simp; exact ⟨rfl, rfl⟩) ?_
      refine seq_nx (by simp; exact ⟨rfl, rfl⟩) ?_
      refine seq_nx (by simp [hd1]; exact ⟨rfl, rfl⟩) ?_
      refine seq_nx (by simp; exact ⟨rfl, rfl⟩) ?_
      simp [ho, hst2, sizeLine_eq]
  · have hop : opParts m s = [] := by simp only [opParts, hk, if_false]
    have n1 : nx m s = s := by unfold nx nxG nxT nxW; simp only [hk, if_false]
    rw [hop] at hio
    rw [openW, hop]
    rw [n1]
    simp only [List.map_nil] at hio ⊢
    first | refine def_rt rfl ?_ | refine defX_rt rfl ?_
    show b_step_of [some (.ref j), some (.int (digN m s.g s.w)), some (.tup [rgW s.g, .int (gt (lv m s.w 8) 0), .tup []]), none, none, none, none, none, none, none, none, none] st = _
    unfold b_step_of
    refine seq_nx (by simp [hio, hmust]; exact ⟨rfl, rfl⟩) ?_
    refine seq_nx (by simp; exact ⟨rfl, rfl⟩) ?_
    refine seq_nx (by simp [-mEq, ho, hst, sizeLine_eq, mEq_ii, hmust]; exact ⟨rfl, rfl⟩) ?_
    refine seq_rt ?_
    have q : mEq (.tup []) (.tup []) st = .ok (.bl true) st := by simp
    simp [-mNe, -mEq, mNe_ii, hk, q, hmust, sizeLine_eq]
end
end Gn

namespace Gn
open PySem L2 Mi
/-! ### what a step shows, by its registers and words -/
def nW (w : Int) : Nat := (w / 1024).toNat
def aW (w : Int) : Nat := (w % 1024).toNat
def hasN (n : Nat) : Prop := (n = 4 ∨ n = 6 ∨ n = 26) ∨ Asks n
instance (n : Nat) : Decidable (hasN n) := by unfold hasN; infer_instance
def plW (w x : Int) : Nat := (plB (nW w) (aW w) x).toNat
def doneM (g : Rg) (w u : Int) : Option Str := mkN (nW w) (aW w) g.x g.cnt g.acc u
def doneG (m : Int) (g : Rg) (w u : Int) : Rg := match doneM g w u with
  | some s => { g with mrk := mkI s }
  | none => ⟨pcB (nW w) (aW w) g.pc g.acc u, accB (nW w) (aW w) g.acc u, xB (nW w) g.acc g.x u, 0, outB m (nW w) g.acc g.out, cntB (nW w) g.cnt⟩
def doneV (g : Rg) (w u : Int) : Option Int := match doneM g w u with
  | some _ => none
  | none => wrB (nW w) g.pc g.acc
def doneRows (m : Int) (g : Rg) (w u : Int) : List Row := match doneM g w u with
  | some _ => []
  | none => if nW w = 28 then [("leaf", leafN m g.acc, .one g.acc), ("fold", foldN m g.out (leafN m g.acc), .many [g.out, leafN m g.acc])] else []
theorem doneRows_len (m : Int) (g : Rg) (w u : Int) : (doneRows m g w u).length ≤ 2 := by
  unfold doneRows
  split
  · simp
  · split <;> simp
theorem doneW_eq (m : Int) (g : Rg) (w u : Int) : doneW m (nW w) (aW w) g.pc g.acc g.x g.out g.cnt u = .tup [rgW (doneG m g w u), wOf (doneV g w u)] := by
  unfold doneW doneG doneV doneM
  cases mkN (nW w) (aW w) g.x g.cnt g.acc u <;> rfl
theorem w_q {w : Int} (hw : Word w) : w / 1024 = (nW w : Int) := by have := hw.1; unfold nW; omega
theorem w_r {w : Int} (hw : Word w) : w % 1024 = (aW w : Int) := by unfold aW; omega
section
variable {m : Int} {st : Sto} {j bk T : Nat} {B : BS} (hm : 0 < m) (hm1 : m < 18446744073709551616) (h : DigB m st j bk T B) (hB : B.n < 899000)
include hm hm1 h hB
theorem t_doneX {g : Rg} (hg : Good m g) {w u : Int} (hw : Word w) (hu : Word u) (dw : W) (hdw : Asks (nW w) → dw = .int u) :
    ∃ st' B', m_done_by [.ref j, rgW g, .int w, dw] st = .ok (.tup [rgW (doneG m g w u), wOf (doneV g w u)]) st' ∧ Gx m j bk T st B st' B' (doneRows m g w u) := by
  rw [← doneW_eq]
  by_cases h28 : nW w = 28 ∧ doneM g w u = none
  · obtain ⟨n28, hmo⟩ := h28
    have hq := w_q hw
    have hmo' := hmo
    simp only [doneM, n28] at hmo'
    rw [n28] at hq
    obtain ⟨st1, B1, e1, k⟩ := t_done28 hm hm1 h (by omega) w (aW w) hq (w_r hw) g.pc g.acc g.x g.mrk g.out g.cnt u dw hg.acc hu hg.out hmo'
    refine ⟨st1, B1, by rw [n28]; exact e1, ?_⟩
    simp only [doneRows, hmo, n28, if_true]
    exact k
  · have hL : doneRows m g w u = [] := by
      simp only [doneRows]
      cases hmo : doneM g w u with
      | some s => rfl
      | none => simp only []; rw [if_neg (fun z => h28 ⟨z, hmo⟩)]
    rw [hL]
    exact ⟨st, B, t_doneN w (nW w) (aW w) (w_q hw) (w_r hw) g.pc g.acc g.x g.mrk g.out g.cnt u dw hg.acc hu h28 hdw, Gx.refl h⟩
def withRows (m : Int) (p : Nat) (w : Int) (ps : List Int) : List Row := leafRow m w :: wayRows m (p, leafN m w) ps
theorem t_rootwithX (p : Nat) (w : Int) (ps : List Int) (hl : ps.length = 8) (hp : ∀ x ∈ ps, In m x) :
    ∃ st' B', m_root_with [.ref j, .int (p : Int), .int w, .tup (ps.map W.int)] st = .ok (.int (rootB m p (leafN m w) ps)) st' ∧ Gx m j bk T st B st' B' (withRows m p w ps) := by
  obtain ⟨st1, B1, e1, g1⟩ := t_leafX hm h (by omega) w
  obtain ⟨st2, B2, e2, g2⟩ := t_rootbyX hm hm1 g1.inv p (leafN m w) ps (by rw [g1.cnt, hl]; simp; omega) (in_leaf hm w) hp
  obtain ⟨b, hj⟩ := h.1
  refine ⟨st2, B2, ?_, g1.trans g2⟩
  simp only [m_root_with, b_root_with]
  simp [hj, e1, e2]
end
end Gn

namespace Gn
open PySem L2 Mi
/-! ### step_of for any value with the form of an opening, with a book -/
structure InO (m : Int) (g : Rg) (root : Int) (ps : List (Int × List Int)) : Prop where
  go : Good m g
  ro : In m root
  pt : ∀ q ∈ ps, Word q.1 ∧ q.2.length = 8 ∧ ∀ x ∈ q.2, In m x
  pl : ps.length ≤ 1000
abbrev opW (g : Rg) (root : Int) (ps : List (Int × List Int)) : W := .tup [rgW g, .int root, .tup (ps.map fun q => prt q.1 q.2)]
theorem InO.isO {m : Int} (hm : 0 < m) {g : Rg} {root : Int} {ps : List (Int × List Int)} (h : InO m g root ps) : isO m (opW g root ps) = true := by
  have hr : isI (.int root) 0 (m - 1) = true := isI_ok (by have := h.ro; simp only [In] at this; omega)
  have hp : (ps.map fun q => prt q.1 q.2).all (isP m) = true := by
    rw [List.all_map, List.all_eq_true]
    intro q hq
    obtain ⟨h1, h2, h3⟩ := h.pt q hq
    exact isP_ok hm h1 h2 h3
  simp only [Gn.isO, areR_ok h.go, hr, hp, Bool.and_self]
theorem opW_nv {m : Int} {g : Rg} {root : Int} {ps : List (Int × List Int)} (h : InO m g root ps) (st : Sto) : nv4 st (opW g root ps) := by
  refine ⟨⟨by simp, fun x hx => ?_⟩, trivial, ⟨by rw [List.length_map]; exact h.pl, fun x hx => ?_⟩⟩
  · simp at hx
    rcases hx with rfl | rfl | rfl | rfl | rfl | rfl <;> trivial
  · simp only [List.mem_map] at hx
    obtain ⟨q, hq, rfl⟩ := hx
    refine ⟨by simp, fun y hy => ?_⟩
    simp at hy
    rcases hy with rfl | rfl
    · trivial
    · refine ⟨by rw [List.length_map, (h.pt q hq).2.1]; omega, fun z hz => ?_⟩
      simp only [List.mem_map] at hz
      obtain ⟨n, _, rfl⟩ := hz
      trivial
theorem b_must_f (st : Sto) : m_must [.bl false] st = .exc 29 [] st := by
  simp only [m_must]
  first
    | (refine defX_exc rfl ?_; simp [b_must])
    | simp [b_must]
def stateRow (m : Int) (g : Rg) (root : Int) : Row := ("state", stateN m (rgL g ++ [root]), .many (rgL g ++ [root]))
/-- the root behind the step -/
def doneR (m : Int) (g : Rg) (root w u : Int) (q : List Int) : Int := match doneV g w u with
  | some v => rootB m (plW w g.x) (leafN m v) q
  | none => root
def stepO (m d : Int) (g : Rg) (root : Int) (ps : List (Int × List Int)) : Option Int × List Row :=
  if stateN m (rgL g ++ [root]) = d then
    if g.mrk = 0 then match ps with
      | [] => (none, [stateRow m g root])
      | (w, p) :: rest =>
        if hasN (nW w) then match rest with
          | [(u, q)] =>
            if rootB m g.pc.toNat (leafN m w) p = root then
              if rootB m (plW w g.x) (leafN m u) q = root then
                (some (stateN m (rgL (doneG m g w u) ++ [doneR m g root w u q])),
                  [stateRow m g root] ++ withRows m g.pc.toNat w p ++ withRows m (plW w g.x) u q ++ doneRows m g w u ++ (match doneV g w u with | some v => withRows m (plW w g.x) v q | none => []) ++ [stateRow m (doneG m g w u) (doneR m g root w u q)])
              else (none, [stateRow m g root] ++ withRows m g.pc.toNat w p ++ withRows m (plW w g.x) u q)
            else (none, [stateRow m g root] ++ withRows m g.pc.toNat w p)
          | _ => (none, [stateRow m g root])
        else match rest with
          | [] =>
            if rootB m g.pc.toNat (leafN m w) p = root then
              (some (stateN m (rgL (doneG m g w 0) ++ [root])), [stateRow m g root] ++ withRows m g.pc.toNat w p ++ doneRows m g w 0 ++ [stateRow m (doneG m g w 0) root])
            else (none, [stateRow m g root] ++ withRows m g.pc.toNat w p)
          | _ => (none, [stateRow m g root])
    else match ps with
      | [] => (some d, [stateRow m g root])
      | _ => (none, [stateRow m g root])
  else (none, [stateRow m g root])
def outO (o : Option Int) (st : Sto) : Out W := match o with
  | some v => .ok (.int v) st
  | none => .exc 29 [] st
end Gn

namespace Gn
open PySem L2 Mi
/-! ### plain values compared: numbers, texts, None, tuples and lists of them -/
def Pv : Nat → W → Prop
  | _, .int _ => True
  | _, .non => True
  | _, .str x => PyData.strOk x = true
  | n + 1, .tup xs => ∀ x ∈ xs, Pv n x
  | n + 1, .lst xs => ∀ x ∈ xs, Pv n x
  | _, _ => False
theorem Pv.py : ∀ (n : Nat) (w : W), Pv n w → ∃ d, toPy w = some d ∧ d.canLay0 = true ∧ d.depth ≤ n := by
  have lists : ∀ (n : Nat), (∀ w, Pv n w → ∃ d, toPy w = some d ∧ d.canLay0 = true ∧ d.depth ≤ n) → ∀ xs : List W, (∀ x ∈ xs, Pv n x) → ∃ ds, toPys xs = some ds ∧ PyData.canLayAll0 ds = true ∧ PyData.depthAll ds ≤ n := by
    intro n ih xs
    induction xs with
    | nil => intro _; exact ⟨[], rfl, by simp, by simp⟩
    | cons x xs h2 =>
      intro h
      obtain ⟨d, e1, e2, e3⟩ := ih x (h x (by simp))
      obtain ⟨ds, f1, f2, f3⟩ := h2 (fun y hy => h y (by simp [hy]))
      exact ⟨d :: ds, by simp [e1, f1], by simp [e2, f2], by simp; omega⟩
  intro n
  induction n with
  | zero =>
    intro w h
    cases w with
    | int i => exact ⟨_, rfl, by simp, by simp⟩
    | non => exact ⟨_, rfl, by simp, by simp⟩
    | str x =>
      have h : PyData.strOk x = true := h
      exact ⟨_, rfl, by simp [h], by simp⟩
    | _ => cases h
  | succ n ih =>
    intro w h
    cases w with
    | int i => exact ⟨_, rfl, by simp, by simp⟩
    | non => exact ⟨_, rfl, by simp, by simp⟩
    | str x =>
      have h : PyData.strOk x = true := h
      exact ⟨_, rfl, by simp [h], by simp⟩
    | tup xs =>
      obtain ⟨ds, e1, e2, e3⟩ := lists n ih xs h
      exact ⟨.tuple ds, by simp [e1], by simp [e2], by simp; omega⟩
    | lst xs =>
      obtain ⟨ds, e1, e2, e3⟩ := lists n ih xs h
      exact ⟨.list ds, by simp [e1], by simp [e2], by simp; omega⟩
    | _ => cases h
theorem toPys_len : ∀ {xs : List W} {ds : List PyData}, toPys xs = some ds → ds.length = xs.length
  | [], ds, h => by cases h; rfl
  | x :: xs, ds, h => by
    simp only [toPys] at h
    cases h1 : toPy x with
    | none => simp [h1] at h
    | some d =>
      cases h2 : toPys xs with
      | none => simp [h1, h2] at h
      | some es =>
        simp [h1, h2] at h
        subst h
        simp [toPys_len h2]
theorem Pv.eqv : ∀ (n : Nat) (a b : W) (da db : PyData), Pv n a → Pv n b → toPy a = some da → toPy b = some db → (PyData.eqv da db = true ↔ a = b) := by
  have lists : ∀ (n : Nat), (∀ a b da db, Pv n a → Pv n b → toPy a = some da → toPy b = some db → (PyData.eqv da db = true ↔ a = b)) →
      ∀ (xs ys : List W) (ds es : List PyData), (∀ x ∈ xs, Pv n x) → (∀ x ∈ ys, Pv n x) → toPys xs = some ds → toPys ys = some es → (PyData.eqvAll ds es = true ↔ xs = ys) := by
    intro n ih xs
    induction xs with
    | nil =>
      intro ys ds es _ hy e1 e2
      cases e1
      cases ys with
      | nil => cases e2; simp
      | cons y ys =>
        have := toPys_len e2
        cases es with
        | nil => simp at this
        | cons e es => simp
    | cons x xs h2 =>
      intro ys ds es hx hy e1 e2
      obtain ⟨d, f1, -, -⟩ := Pv.py n x (hx x (by simp))
      simp only [toPys, f1] at e1
      cases g1 : toPys xs with
      | none => simp [g1] at e1
      | some ds' =>
        simp [g1] at e1
        subst e1
        cases ys with
        | nil => cases e2; simp
        | cons y ys =>
          obtain ⟨e, f2, -, -⟩ := Pv.py n y (hy y (by simp))
          simp only [toPys, f2] at e2
          cases g2 : toPys ys with
          | none => simp [g2] at e2
          | some es' =>
            simp [g2] at e2
            subst e2
            rw [eqvA_cc, Bool.and_eq_true, ih x y d e (hx x (by simp)) (hy y (by simp)) f1 f2, h2 ys ds' es' (fun z hz => hx z (by simp [hz])) (fun z hz => hy z (by simp [hz])) g1 g2]
            simp
  intro n
  induction n with
  | zero =>
    intro a b da db ha hb e1 e2
    cases a <;> cases b <;> first | (cases ha; done) | (cases hb; done) | skip
    all_goals (cases e1; cases e2; simp [PyData.eqv])
  | succ n ih =>
    intro a b da db ha hb e1 e2
    have cs : ∀ (w : W) (d : PyData), Pv (n + 1) w → toPy w = some d → (∃ i, w = .int i ∧ d = .int i) ∨ (w = .non ∧ d = .none) ∨ (∃ x, w = .str x ∧ d = .str x) ∨ (∃ xs ds, w = .tup xs ∧ (∀ x ∈ xs, Pv n x) ∧ toPys xs = some ds ∧ d = .tuple ds) ∨ (∃ xs ds, w = .lst xs ∧ (∀ x ∈ xs, Pv n x) ∧ toPys xs = some ds ∧ d = .list ds) := by
      intro w d hw e
      cases w with
      | int i => cases e; exact .inl ⟨i, rfl, rfl⟩
      | non => cases e; exact .inr (.inl ⟨rfl, rfl⟩)
      | str x => cases e; exact .inr (.inr (.inl ⟨x, rfl, rfl⟩))
      | tup xs =>
        cases h : toPys xs with
        | none => simp [h] at e
        | some ds =>
          simp [h] at e
          exact .inr (.inr (.inr (.inl ⟨xs, ds, rfl, hw, h, e.symm⟩)))
      | lst xs =>
        cases h : toPys xs with
        | none => simp [h] at e
        | some ds =>
          simp [h] at e
          exact .inr (.inr (.inr (.inr ⟨xs, ds, rfl, hw, h, e.symm⟩)))
      | _ => cases hw
    rcases cs a da ha e1 with ⟨i, rfl, rfl⟩ | ⟨rfl, rfl⟩ | ⟨x, rfl, rfl⟩ | ⟨xs, ds, rfl, hx, hds, rfl⟩ | ⟨xs, ds, rfl, hx, hds, rfl⟩ <;>
      rcases cs b db hb e2 with ⟨i', rfl, rfl⟩ | ⟨rfl, rfl⟩ | ⟨x', rfl, rfl⟩ | ⟨ys, es, rfl, hy, hes, rfl⟩ | ⟨ys, es, rfl, hy, hes, rfl⟩
    case inr.inr.inr.inl.inr.inr.inr.inl => rw [eqv_tt, lists n ih xs ys ds es hx hy hds hes]; simp
    case inr.inr.inr.inr.inr.inr.inr.inr =>
      have : PyData.eqv (.list ds) (.list es) = PyData.eqvAll ds es := by simp [PyData.eqv]
      rw [this, lists n ih xs ys ds es hx hy hds hes]; simp
    all_goals simp [PyData.eqv]
theorem Pv.pyS {n : Nat} {w : W} (h : Pv n w) (st : Sto) : toPyS w st = toPy w := by
  cases w with
  | ref i => cases n <;> cases h
  | _ => rfl
/-- the comparison of two plain values tells whether they are the same -/
theorem mEq_pv {n : Nat} (hn : n ≤ 64) {a b : W} (ha : Pv n a) (hb : Pv n b) (st : Sto) : ∃ c : Bool, mEq a b st = .ok (.bl c) st ∧ mNe a b st = .ok (.bl (!c)) st ∧ (c = true ↔ a = b) := by
  obtain ⟨d, e1, e2, e3⟩ := Pv.py n a ha
  obtain ⟨e, f1, f2, f3⟩ := Pv.py n b hb
  have s1 : SeqAt.shaped d = true := by simp [SeqAt.shaped, e2]; omega
  have s2 : SeqAt.shaped e = true := by simp [SeqAt.shaped, f2]; omega
  refine ⟨PyData.eqv d e, ?_, ?_, Pv.eqv n a b d e ha hb e1 f1⟩
  · simp only [mEq, ha.pyS, hb.pyS, e1, f1, s1, s2, and_self, if_true]
  · simp only [mNe, ha.pyS, hb.pyS, e1, f1, s1, s2, and_self, if_true]
theorem Pv.ints (n : Nat) (ns : List Int) : Pv (n + 1) (.tup (ns.map W.int)) := fun x hx => by
  simp only [List.mem_map] at hx
  obtain ⟨i, _, rfl⟩ := hx
  cases n <;> trivial
end Gn

namespace Gn
open PySem L2 Mi
theorem has_data {w : Int} (hw : Word w) (p q r s t : W) (x : Int) (st : Sto) : ∃ d, m_data_of [.tup [p, q, .int x, r, s, t], .int w] st = .ok d st ∧ (hasN (nW w) → ∃ b, d = .tup [.int ((plW w x : Nat) : Int), .bl b]) ∧ (¬ hasN (nW w) → d = .non) := by
  refine ⟨_, t_data_of w (nW w) (aW w) (w_q hw) (w_r hw) p q r s t x st, fun hh => ?_, fun hh => ?_⟩
  · have pin := plB_in (nW w) (aW w) x
    have hplb : plB (nW w) (aW w) x = ((plW w x : Nat) : Int) := by unfold plW; omega
    unfold hasN at hh
    unfold daW
    by_cases h4 : nW w = 4 ∨ nW w = 6 ∨ nW w = 26
    · rw [if_pos h4, hplb]; exact ⟨_, rfl⟩
    · rw [if_neg h4, if_pos (hh.resolve_left h4), hplb]; exact ⟨_, rfl⟩
  · unfold hasN at hh
    unfold daW
    rw [if_neg (fun z => hh (.inl z)), if_neg (fun z => hh (.inr z))]
theorem prt_pv (a : Int) (p : List Int) : Pv 2 (prt a p) := fun x hx => by
  simp at hx
  rcases hx with rfl | rfl
  · trivial
  · exact Pv.ints 0 p
theorem prts_pv (ps : List (Int × List Int)) : Pv 3 (.tup (ps.map fun q => prt q.1 q.2)) := fun x hx => by
  simp only [List.mem_map] at hx
  obtain ⟨q, _, rfl⟩ := hx
  exact prt_pv _ _
def outS (o : Option Int) (st : Sto) : SO := match o with
  | some v => .rt (.int v) st
  | none => .exc 29 [] st
section
variable {m : Int} {j bk T : Nat}
def Res (m : Int) (j bk T : Nat) (st : Sto) (B : BS) (o : Option Int × List Row) (r : SO) : Prop := ∃ st' B', r = outS o.1 st' ∧ Gx m j bk T st B st' B' o.2
theorem Res.nx {st0 : Sto} {B0 : BS} {o : Option Int × List Row} {a b : MS} {s s1 : Slo} {st st1 : Sto} (h : a s st = .nx s1 st1) (k : Res m j bk T st0 B0 o (b s1 st1)) : Res m j bk T st0 B0 o (mSeq a b s st) := by
  obtain ⟨st', B', e, g⟩ := k
  exact ⟨st', B', seq_nx h e, g⟩
theorem Res.exc {st0 : Sto} {B0 B1 : BS} {L : List Row} {a b : MS} {s : Slo} {st st1 : Sto} (h : a s st = .exc 29 [] st1) (g : Gx m j bk T st0 B0 st1 B1 L) : Res m j bk T st0 B0 (none, L) (mSeq a b s st) := ⟨st1, B1, seq_exc h, g⟩
theorem Res.rt {st0 : Sto} {B0 B1 : BS} {L : List Row} {r : SO} {st1 : Sto} {v : Int} (h : r = .rt (.int v) st1) (g : Gx m j bk T st0 B0 st1 B1 L) : Res m j bk T st0 B0 (some v, L) r := ⟨st1, B1, h, g⟩
theorem Res.out {st : Sto} {B : BS} {o : Option Int × List Row} {n k : Nat} {body : MS} {ws : List W} (hl : ws.length = n) (h : Res m j bk T st B o (body (ws.map some ++ List.replicate k none) st)) : ∃ st' B', mDefX n k body ws st = outO o.1 st' ∧ Gx m j bk T st B st' B' o.2 := by
  obtain ⟨st', B', e, g⟩ := h
  refine ⟨st', B', ?_, g⟩
  cases ho : o.1 with
  | some v => rw [ho] at e; exact defX_rt hl e
  | none => rw [ho] at e; exact defX_exc hl e
theorem t_stepofX (hm : 7 < m) (hm1 : m < 4611686018427387904) {st : Sto} {B : BS} (hD : DigB m st j bk T B) (hB : B.n < 800000) {g : Rg} {root : Int} {ps : List (Int × List Int)} (hI : InO m g root ps) (d : Int) :
    ∃ st' B', m_step_of [.ref j, .int d, opW g root ps] st = outO (stepO m d g root ps).1 st' ∧ Gx m j bk T st B st' B' (stepO m d g root ps).2 := by
  have h0 : 0 < m := by omega
  have hio := v_isopening hD.r _ (opW_nv hI st)
  rw [hI.isO h0] at hio
  obtain ⟨b0, ho0⟩ := hD.1
  obtain ⟨st1, B1, hs1, k1⟩ := t_stateX (by omega) hm1 hD (by omega) (rgL g ++ [root])
  have n1 := k1.cnt
  simp only [List.length_cons, List.length_nil] at n1
  have hpv := prts_pv ps
  obtain ⟨c1, ce1, cn1, ci1⟩ := mEq_pv (by omega) hpv (show Pv 3 (.tup []) from fun x hx => by cases hx) st1
  have hgo := hI.go
  have hpc : g.pc = (g.pc.toNat : Int) := by have := hgo.pc.1; omega
  obtain ⟨b1, ho1⟩ := k1.inv.1
  have mt := t_must
  have mf := b_must_f
  have k1' : Gx m j bk T st B st1 B1 [stateRow m g root] := k1
  simp only [rgL, List.map_cons, List.map_nil, List.cons_append, List.nil_append] at hs1
  refine Res.out rfl ?_
  show Res m j bk T st B _ (b_step_of [some (.ref j), some (.int d), some (opW g root ps), none, none, none, none, none, none, none, none, none] st)
  unfold b_step_of
  refine Res.nx (by simp [hio, mt]; exact ⟨rfl, rfl⟩) ?_
  refine Res.nx (by simp; exact ⟨rfl, rfl⟩) ?_
  unfold stepO
  by_cases hd : stateN m (rgL g ++ [root]) = d
  case neg =>
    rw [if_neg hd]
    simp only [rgL, List.cons_append, List.nil_append] at hd
    exact Res.exc (by simp [-mEq, ho0, hs1, sizeLine_eq, mEq_ii, hd, mf]) k1'
  rw [if_pos hd]
  simp only [rgL, List.cons_append, List.nil_append] at hd
  refine Res.nx (by simp [-mEq, ho0, hs1, sizeLine_eq, mEq_ii, hd, mt]; exact ⟨rfl, rfl⟩) ?_
  by_cases hk : g.mrk = 0
  case neg =>
    rw [if_neg hk]
    match ps, c1, ce1, cn1, ci1 with
    | [], true, ce1, cn1, ci1 =>
      simp only [List.map_nil] at ce1 ⊢
      exact Res.rt (seq_rt (by simp [-mEq, -mNe, mNe_ii, hk, ce1, mt, sizeLine_eq])) k1'
    | [], false, ce1, cn1, ci1 => exact absurd (ci1.mpr rfl) (by simp)
    | q :: ps, true, ce1, cn1, ci1 => exact absurd (ci1.mp rfl) (by simp)
    | q :: ps, false, ce1, cn1, ci1 =>
      simp only [List.map_cons] at ce1 ⊢
      exact Res.exc (by simp [-mEq, -mNe, mNe_ii, hk, ce1, mf, sizeLine_eq]) k1'
  rw [if_pos hk]
  refine Res.nx (by simp [-mNe, mNe_ii, hk]; exact ⟨rfl, rfl⟩) ?_
  match ps, hI, c1, ce1, cn1, ci1 with
  | [], hI, false, ce1, cn1, ci1 => exact absurd (ci1.mpr rfl) (by simp)
  | [], hI, true, ce1, cn1, ci1 =>
    simp only [List.map_nil] at cn1 ⊢
    exact Res.exc (by simp [-mEq, -mNe, cn1, mf, sizeLine_eq]) k1'
  | (w, p) :: rest, hI, true, ce1, cn1, ci1 => exact absurd (ci1.mp rfl) (by simp)
  | (w, p) :: rest, hI, false, ce1, cn1, ci1 =>
    obtain ⟨hw, hp8, hpi⟩ := hI.pt (w, p) (by simp)
    simp only at hw hp8 hpi
    obtain ⟨dv, hdo, hd1, hd2⟩ := has_data hw (.int g.pc) (.int g.acc) (.int g.mrk) (.int g.out) (.int g.cnt) g.x st1
    have hrl := hI.pl
    simp only [List.length_cons] at hrl
    simp only [List.map_cons] at cn1 ⊢
    refine Res.nx (by simp [-mEq, -mNe, cn1, mt, sizeLine_eq]; exact ⟨rfl, rfl⟩) ?_
    refine Res.nx (by simp [prt]; exact ⟨rfl, rfl⟩) ?_
    refine Res.nx (by simp [hdo]; exact ⟨rfl, rfl⟩) ?_
    obtain ⟨st2, B2, e2, k2⟩ := t_rootwithX h0 (by omega) k1.inv (by omega) g.pc.toNat w p hp8 hpi
    rw [← hpc] at e2
    have n2 := k2.cnt
    simp only [withRows, wayRows_len, List.length_cons, hp8] at n2
    have k12 := k1'.trans k2
    by_cases hh : hasN (nW w)
    · obtain ⟨b, rfl⟩ := hd1 hh
      simp only [hh, if_true]
      match rest, hI with
      | [], hI => exact Res.exc (by simp [-mEq, -mNe, mEq_ii, mf, sizeLine_eq]) k1'
      | q1 :: q2 :: rest, hI =>
        have hl : ¬ (rest.length : Int) + 1 + 1 + 1 = 2 := by omega
        exact Res.exc (by simp [-mEq, -mNe, mEq_ii, mf, sizeLine_eq, hl]) k1'
      | [(u, q)], hI =>
        obtain ⟨hu, hq8, hqi⟩ := hI.pt (u, q) (by simp)
        simp only at hu hq8 hqi
        simp only [List.map_cons, List.map_nil]
        refine Res.nx (by simp [-mEq, mEq_ii, mt]; exact ⟨rfl, rfl⟩) ?_
        by_cases hr1 : rootB m g.pc.toNat (leafN m w) p = root
        case neg =>
          rw [if_neg hr1]
          exact Res.exc (by simp [-mEq, mEq_ii, e2, hr1, mf]) k12
        rw [if_pos hr1]
        refine Res.nx (by simp [-mEq, mEq_ii, e2, hr1, mt]; exact ⟨rfl, rfl⟩) ?_
        refine Res.nx (by simp; exact ⟨rfl, rfl⟩) ?_
        obtain ⟨st3, B3, e3, k3⟩ := t_rootwithX h0 (by omega) k2.inv (by omega) (plW w g.x) u q hq8 hqi
        have n3 := k3.cnt
        simp only [withRows, wayRows_len, List.length_cons, hq8] at n3
        have k123 := k12.trans k3
        by_cases hr2 : rootB m (plW w g.x) (leafN m u) q = root
        case neg =>
          rw [if_neg hr2]
          exact Res.exc (by simp [-mEq, mEq_ii, prt, e3, hr2, mf]) k123
        rw [if_pos hr2]
        refine Res.nx (by simp [-mEq, mEq_ii, prt, e3, hr2, mt]; exact ⟨rfl, rfl⟩) ?_
        obtain ⟨st4, B4, e4, k4⟩ := t_doneX h0 (by omega) k3.inv (by omega) hgo hw hu (.int u) (fun _ => rfl)
        have n4 := k4.cnt
        have n4' := doneRows_len m g w u
        have k1234 := k123.trans k4
        refine Res.nx (by simp [e4]; exact ⟨rfl, rfl⟩) ?_
        generalize doneG m g w u = G at e4 ⊢
        cases hv : doneV g w u with
        | none =>
          obtain ⟨st5, B5, e5, k5⟩ := t_stateX (by omega) hm1 k4.inv (by omega) (rgL G ++ [root])
          obtain ⟨b4, ho4⟩ := k4.inv.1
          simp only [rgL, List.map_cons, List.map_nil, List.cons_append, List.nil_append] at e5
          refine Res.nx (by simp [wOf]; exact ⟨rfl, rfl⟩) ?_
          have hR : doneR m g root w u q = root := by simp only [doneR, hv]
          rw [hR]
          have k := k1234.trans k5
          simp only [List.append_nil]
          exact Res.rt (by simp [ho4, e5, sizeLine_eq]) k
        | some v =>
          obtain ⟨st5, B5, e5, k5⟩ := t_rootwithX h0 (by omega) k4.inv (by omega) (plW w g.x) v q hq8 hqi
          have n5 := k5.cnt
          simp only [withRows, wayRows_len, List.length_cons, hq8] at n5
          have hR : doneR m g root w u q = rootB m (plW w g.x) (leafN m v) q := by simp only [doneR, hv]
          rw [hR]
          generalize rootB m (plW w g.x) (leafN m v) q = R at e5 ⊢
          obtain ⟨st6, B6, e6, k6⟩ := t_stateX (by omega) hm1 k5.inv (by omega) (rgL G ++ [R])
          obtain ⟨b5, ho5⟩ := k5.inv.1
          simp only [rgL, List.map_cons, List.map_nil, List.cons_append, List.nil_append] at e6
          refine Res.nx (by simp [wOf, e5]; exact ⟨rfl, rfl⟩) ?_
          exact Res.rt (by simp [ho5, e6, sizeLine_eq]) ((k1234.trans k5).trans k6)
    · have := hd2 hh
      subst this
      simp only [hh, if_false]
      match rest, hI with
      | q1 :: rest, hI =>
        have hl : ¬ (rest.length : Int) + 1 + 1 = 1 := by omega
        exact Res.exc (by simp [-mEq, -mNe, mEq_ii, mf, sizeLine_eq, hl]) k1'
      | [], hI =>
        simp only [List.map_nil]
        refine Res.nx (by simp [-mEq, mEq_ii, mt]; exact ⟨rfl, rfl⟩) ?_
        by_cases hr1 : rootB m g.pc.toNat (leafN m w) p = root
        case neg =>
          rw [if_neg hr1]
          exact Res.exc (by simp [-mEq, mEq_ii, e2, hr1, mf]) k12
        rw [if_pos hr1]
        refine Res.nx (by simp [-mEq, mEq_ii, e2, hr1, mt]; exact ⟨rfl, rfl⟩) ?_
        refine Res.nx (by simp; exact ⟨rfl, rfl⟩) ?_
        refine Res.nx (by simp; exact ⟨rfl, rfl⟩) ?_
        obtain ⟨st4, B4, e4, k4⟩ := t_doneX h0 (by omega) k2.inv (by omega) hgo hw (show Word 0 from ⟨by omega, by omega⟩) .non (fun z => absurd (Or.inr z) hh)
        have n4 := k4.cnt
        have n4' := doneRows_len m g w 0
        have hvn : doneV g w 0 = none := by
          unfold hasN at hh
          unfold doneV
          split
          · rfl
          · unfold wrB
            rw [if_neg (fun z => hh (.inl (by omega))), if_neg (fun z => hh (.inl (by omega)))]
        rw [hvn] at e4
        refine Res.nx (by simp [e4]; exact ⟨rfl, rfl⟩) ?_
        generalize doneG m g w 0 = G at e4 ⊢
        obtain ⟨st5, B5, e5, k5⟩ := t_stateX (by omega) hm1 k4.inv (by omega) (rgL G ++ [root])
        obtain ⟨b4, ho4⟩ := k4.inv.1
        simp only [rgL, List.map_cons, List.map_nil, List.cons_append, List.nil_append] at e5
        refine Res.nx (by simp [wOf]; exact ⟨rfl, rfl⟩) ?_
        exact Res.rt (by simp [ho4, e5, sizeLine_eq]) ((k12.trans k4).trans k5)
end
end Gn

namespace Gn
open PySem L2 Mi
/-! ### what binds, if no two texts of a kind have one digest -/
def NoC (es : List Ent) : Prop := ∀ k d t u, Told es k d t → Told es k d u → t = u
theorem DigB.noc {m : Int} {st : Sto} {j bk T : Nat} {B : BS} (hD : DigB m st j bk T B) (hc : B.c = false) : NoC B.es := by
  have hB : Bk st bk T B.es false B.n := by have := hD.2; rw [hc] at this; exact this
  exact fun k d t u h1 h2 => hB.one h1 h2
def AllT (es : List Ent) (L : List Row) : Prop := ∀ r ∈ L, TR es r
theorem AllT.app {es : List Ent} {L M : List Row} : AllT es (L ++ M) ↔ AllT es L ∧ AllT es M := by
  constructor
  · exact fun h => ⟨fun r hr => h r (List.mem_append_left _ hr), fun r hr => h r (List.mem_append_right _ hr)⟩
  · rintro ⟨h1, h2⟩ r hr
    exact (List.mem_append.mp hr).elim (h1 r) (h2 r)
theorem Gm.all {m : Int} {j bk T : Nat} {A : List Nat} {st st' : Sto} {B B' : BS} {L : List Row} (g : Gm m j bk T A st B st' B' L) : AllT B'.es L := fun r hr => (g.told r).mpr (.inr hr)
theorem Gm.keepT {m : Int} {j bk T : Nat} {A : List Nat} {st st' : Sto} {B B' : BS} {L M : List Row} (g : Gm m j bk T A st B st' B' L) (h : AllT B.es M) : AllT B'.es M := fun r hr => (g.told r).mpr (.inl (h r hr))
section
variable {m : Int} {es : List Ent} (N : NoC es)
include N
theorem way_bind : ∀ (ps ps' : List Int) (q q' : Nat × Int), q.1 = q'.1 → ps.length = ps'.length → AllT es (wayRows m q ps) → AllT es (wayRows m q' ps') → (ps.foldl (rbS m) q).2 = (ps'.foldl (rbS m) q').2 → q.2 = q'.2 ∧ ps = ps'
  | [], [], q, q', _, _, _, _, h => ⟨h, rfl⟩
  | x :: ps, x' :: ps', q, q', hq, hl, h1, h2, h => by
    have h1a := h1 _ (List.mem_cons_self ..)
    have h2a := h2 _ (List.mem_cons_self ..)
    have ih := way_bind ps ps' (rbS m q x) (rbS m q' x') (by simp only [rbS, hq]) (by simpa using hl) (fun r hr => h1 r (List.mem_cons_of_mem _ hr)) (fun r hr => h2 r (List.mem_cons_of_mem _ hr)) h
    obtain ⟨e1, e2⟩ := ih
    unfold TR wayRow at h1a h2a
    simp only [e1] at h1a
    have e := N _ _ _ _ h1a h2a
    rw [← hq] at e
    injection e with e
    by_cases ev : q.1 % 2 = 0
    · rw [if_pos ev, if_pos ev] at e
      simp only [List.cons.injEq, and_true] at e
      exact ⟨e.1, by rw [e.2, e2]⟩
    · rw [if_neg ev, if_neg ev] at e
      simp only [List.cons.injEq, and_true] at e
      exact ⟨e.2, by rw [e.1, e2]⟩
/-- a word and a path at a place of a root -/
theorem with_bind {p : Nat} {w w' : Int} {ps ps' : List Int} (hl : ps.length = ps'.length) (h1 : AllT es (withRows m p w ps)) (h2 : AllT es (withRows m p w' ps')) (h : rootB m p (leafN m w) ps = rootB m p (leafN m w') ps') : w = w' ∧ ps = ps' := by
  obtain ⟨e1, e2⟩ := way_bind N ps ps' (p, leafN m w) (p, leafN m w') rfl hl (fun r hr => h1 r (List.mem_cons_of_mem _ hr)) (fun r hr => h2 r (List.mem_cons_of_mem _ hr)) h
  have a1 := h1 _ (List.mem_cons_self ..)
  have a2 := h2 _ (List.mem_cons_self ..)
  unfold TR leafRow at a1 a2
  simp only at e1
  simp only [e1] at a1
  have e := N _ _ _ _ a1 a2
  injection e with e
  exact ⟨e, e2⟩
theorem state_bind {g g' : Rg} {root root' : Int} (h1 : TR es (stateRow m g root)) (h2 : TR es (stateRow m g' root')) (h : stateN m (rgL g ++ [root]) = stateN m (rgL g' ++ [root'])) : g = g' ∧ root = root' := by
  unfold TR stateRow at h1 h2
  simp only [h] at h1
  have e := N _ _ _ _ h1 h2
  injection e with e
  obtain ⟨a1, a2, a3, a4, a5, a6⟩ := g
  obtain ⟨b1, b2, b3, b4, b5, b6⟩ := g'
  simp only [rgL, List.cons_append, List.nil_append, List.cons.injEq, and_true] at e
  obtain ⟨rfl, rfl, rfl, rfl, rfl, rfl, rfl⟩ := e
  exact ⟨rfl, rfl⟩
end
theorem some_none {α β : Type} {v : α} {L : β} {P : Prop} {M : β} : ((none : Option α), M) = (some v, L) → P := fun h => by simp at h
/-- what step_of has taken -/
inductive Taken (m d : Int) (g : Rg) (root : Int) : List (Int × List Int) → Int → List Row → Prop
  | rest : g.mrk ≠ 0 → Taken m d g root [] d [stateRow m g root]
  | two (w : Int) (p : List Int) (u : Int) (q : List Int) : g.mrk = 0 → hasN (nW w) → rootB m g.pc.toNat (leafN m w) p = root → rootB m (plW w g.x) (leafN m u) q = root →
      Taken m d g root [(w, p), (u, q)] (stateN m (rgL (doneG m g w u) ++ [doneR m g root w u q])) ([stateRow m g root] ++ withRows m g.pc.toNat w p ++ withRows m (plW w g.x) u q ++ doneRows m g w u ++ (match doneV g w u with | some v => withRows m (plW w g.x) v q | none => []) ++ [stateRow m (doneG m g w u) (doneR m g root w u q)])
  | one (w : Int) (p : List Int) : g.mrk = 0 → ¬ hasN (nW w) → rootB m g.pc.toNat (leafN m w) p = root →
      Taken m d g root [(w, p)] (stateN m (rgL (doneG m g w 0) ++ [root])) ([stateRow m g root] ++ withRows m g.pc.toNat w p ++ doneRows m g w 0 ++ [stateRow m (doneG m g w 0) root])
theorem taken {m d : Int} {g : Rg} {root : Int} {ps : List (Int × List Int)} {v : Int} {L : List Row} (h : stepO m d g root ps = (some v, L)) : stateN m (rgL g ++ [root]) = d ∧ Taken m d g root ps v L := by
  unfold stepO at h
  by_cases hd : stateN m (rgL g ++ [root]) = d
  case neg => rw [if_neg hd] at h; exact some_none h
  rw [if_pos hd] at h
  refine ⟨hd, ?_⟩
  by_cases hk : g.mrk = 0
  case neg =>
    rw [if_neg hk] at h
    cases ps with
    | nil => cases h; exact .rest hk
    | cons q ps => exact some_none h
  rw [if_pos hk] at h
  match ps, h with
  | [], h => exact some_none h
  | (w, p) :: rest, h =>
    simp only at h
    by_cases hh : hasN (nW w)
    · rw [if_pos hh] at h
      match rest, h with
      | [], h => exact some_none h
      | _ :: _ :: _, h => exact some_none h
      | [(u, q)], h =>
        simp only at h
        by_cases hr1 : rootB m g.pc.toNat (leafN m w) p = root
        case neg => rw [if_neg hr1] at h; exact some_none h
        rw [if_pos hr1] at h
        by_cases hr2 : rootB m (plW w g.x) (leafN m u) q = root
        case neg => rw [if_neg hr2] at h; exact some_none h
        rw [if_pos hr2] at h
        cases h
        exact .two w p u q hk hh hr1 hr2
    · rw [if_neg hh] at h
      match rest, h with
      | _ :: _, h => exact some_none h
      | [], h =>
        simp only at h
        by_cases hr1 : rootB m g.pc.toNat (leafN m w) p = root
        case neg => rw [if_neg hr1] at h; exact some_none h
        rw [if_pos hr1] at h
        cases h
        exact .one w p hk hh hr1
theorem taken_rows {m d : Int} {g : Rg} {root : Int} {ps : List (Int × List Int)} {v : Int} {L : List Row} (h : stepO m d g root ps = (some v, L)) : stateRow m g root ∈ L := by
  obtain ⟨_, h⟩ := taken h
  cases h <;> simp
/-- two openings that are taken behind one digest are the same -/
theorem open_bind {m : Int} {es : List Ent} (N : NoC es) {d : Int} {g g' : Rg} {root root' : Int} {ps ps' : List (Int × List Int)} {v v' : Int} {L L' : List Row} (h1 : stepO m d g root ps = (some v, L)) (h2 : stepO m d g' root' ps' = (some v', L'))
    (l1 : ∀ q ∈ ps, q.2.length = 8) (l2 : ∀ q ∈ ps', q.2.length = 8) (t1 : AllT es L) (t2 : AllT es L') : g = g' ∧ root = root' ∧ ps = ps' := by
  obtain ⟨d1, k1⟩ := taken h1
  obtain ⟨d2, k2⟩ := taken h2
  obtain ⟨rfl, rfl⟩ := state_bind N (t1 _ (taken_rows h1)) (t2 _ (taken_rows h2)) (d1.trans d2.symm)
  refine ⟨rfl, rfl, ?_⟩
  have wb : ∀ {p : Nat} {w w' : Int} {qs qs' : List Int}, qs.length = 8 → qs'.length = 8 → AllT es (withRows m p w qs) → AllT es (withRows m p w' qs') → rootB m p (leafN m w) qs = root → rootB m p (leafN m w') qs' = root → w = w' ∧ qs = qs' := fun a b c d e f => with_bind N (a.trans b.symm) c d (e.trans f.symm)
  cases k1 with
  | rest hk =>
    cases k2 with
    | rest _ => rfl
    | two _ _ _ _ hk' => exact absurd hk' hk
    | one _ _ hk' => exact absurd hk' hk
  | two w p u q hk hh r1 r2 =>
    simp only [AllT.app] at t1
    cases k2 with
    | rest hk' => exact absurd hk hk'
    | one w' p' hk' hh' r1' =>
      simp only [AllT.app] at t2
      obtain ⟨rfl, rfl⟩ := wb (l1 (w, p) (by simp)) (l2 (w', p') (by simp)) t1.1.1.1.1.2 t2.1.1.2 r1 r1'
      exact absurd hh hh'
    | two w' p' u' q' hk' hh' r1' r2' =>
      simp only [AllT.app] at t2
      obtain ⟨rfl, rfl⟩ := wb (l1 (w, p) (by simp)) (l2 (w', p') (by simp)) t1.1.1.1.1.2 t2.1.1.1.1.2 r1 r1'
      obtain ⟨rfl, rfl⟩ := wb (l1 (u, q) (by simp)) (l2 (u', q') (by simp)) t1.1.1.1.2 t2.1.1.1.2 r2 r2'
      rfl
  | one w p hk hh r1 =>
    simp only [AllT.app] at t1
    cases k2 with
    | rest hk' => exact absurd hk hk'
    | two w' p' u' q' hk' hh' r1' r2' =>
      simp only [AllT.app] at t2
      obtain ⟨rfl, rfl⟩ := wb (l1 (w, p) (by simp)) (l2 (w', p') (by simp)) t1.1.1.2 t2.1.1.1.1.2 r1 r1'
      exact absurd hh' hh
    | one w' p' hk' hh' r1' =>
      simp only [AllT.app] at t2
      obtain ⟨rfl, rfl⟩ := wb (l1 (w, p) (by simp)) (l2 (w', p') (by simp)) t1.1.1.2 t2.1.1.2 r1 r1'
      rfl
end Gn

namespace Gn
open PySem L2 Mi
/-! ### the true opening -/
section
variable {m : Int} (hm : 7 < m) (hm1 : m < 4611686018427387904) {s : Ms} (h : Ok m s)
include hm hm1 h
theorem opens_in : InO m s.g (gt (lv m s.w 8) 0) (opParts m s) := by
  have h0 : 0 < m := by omega
  have hpp : ∀ p, Word (gt s.w p) ∧ (pathN m s.w p).length = 8 ∧ ∀ x ∈ pathN m s.w p, In m x := fun p => ⟨gt_word h.ww p, path_len _ _ _, path_in h0 (by omega) h.wl p⟩
  refine ⟨h.go, getD_in h0 (lev_ok h0 (by omega) h.wl 8).2 0, fun q hq => ?_, ?_⟩
  · unfold opParts at hq
    split at hq
    · split at hq
      · simp only [List.mem_cons, List.not_mem_nil, or_false] at hq
        rcases hq with rfl | rfl <;> exact hpp _
      · simp only [List.mem_cons, List.not_mem_nil, or_false] at hq
        subst hq; exact hpp _
    · simp at hq
  · unfold opParts
    split
    · split <;> simp
    · simp
theorem opens1 : (stepO m (digN m s.g s.w) s.g (gt (lv m s.w 8) 0) (opParts m s)).1 = some (digN m (nx m s).g (nx m s).w) := by
  have h0 : 0 < m := by omega
  have hgo := h.go
  have hd : stateN m (rgL s.g ++ [gt (lv m s.w 8) 0]) = digN m s.g s.w := rfl
  have hpl : s.g.pc.toNat < 256 := by have := hgo.pc; omega
  have pin := plB_in (nOf s.g s.w) (aOf s.g s.w) s.g.x
  have hpl2 : plN s < 256 := by unfold plN; omega
  have r1 := path_root0 m s.w h.wl _ hpl
  have r2 := path_root0 m s.w h.wl _ hpl2
  have r3 := path_root m s.w h.wl _ hpl2
  by_cases hk : s.g.mrk = 0
  · have n1 : (nx m s).g = stepG m s.g s.w := if_pos hk
    have n2 : (nx m s).w = stepW s.g s.w := if_pos hk
    have eG : ∀ u, (hasN (nOf s.g s.w) → u = dOf s.g s.w) → doneG m s.g (gt s.w s.g.pc.toNat) u = stepG m s.g s.w ∧ doneV s.g (gt s.w s.g.pc.toNat) u = (match mOf s.g s.w with | some _ => none | none => wrB (nOf s.g s.w) s.g.pc s.g.acc) := by
      intro u hu
      by_cases hh : hasN (nOf s.g s.w)
      · rw [hu hh]
        exact ⟨rfl, rfl⟩
      · have hA : ¬ Asks (nOf s.g s.w) := fun z => hh (.inr z)
        have mk : ∀ a b : Int, mkN (nOf s.g s.w) (aOf s.g s.w) s.g.x s.g.cnt s.g.acc a = mkN (nOf s.g s.w) (aOf s.g s.w) s.g.x s.g.cnt s.g.acc b := by
          intro a b
          unfold mkN
          unfold Asks at hA
          have a1 : ¬ nOf s.g s.w = 10 := by omega
          have a2 : ¬ (12 ≤ nOf s.g s.w ∧ nOf s.g s.w ≤ 22) := by omega
          simp only [a1, a2, false_and, if_false]
        have ap : ∀ a b : Int, pcB (nOf s.g s.w) (aOf s.g s.w) s.g.pc s.g.acc a = pcB (nOf s.g s.w) (aOf s.g s.w) s.g.pc s.g.acc b := by
          intro a b
          unfold Asks at hA
          have a1 : ¬ nOf s.g s.w = 27 := by omega
          unfold pcB
          simp only [a1, if_false]
        have aa : ∀ a b : Int, accB (nOf s.g s.w) (aOf s.g s.w) s.g.acc a = accB (nOf s.g s.w) (aOf s.g s.w) s.g.acc b := by
          intro a b
          unfold Asks at hA
          have a1 : ¬ (nOf s.g s.w = 3 ∨ nOf s.g s.w = 5) := by omega
          have a2 : ¬ (12 ≤ nOf s.g s.w ∧ nOf s.g s.w ≤ 22) := by omega
          unfold accB
          simp only [a1, a2, if_false]
        have ax : ∀ a b : Int, xB (nOf s.g s.w) s.g.acc s.g.x a = xB (nOf s.g s.w) s.g.acc s.g.x b := by
          intro a b
          unfold Asks at hA
          have a1 : ¬ nOf s.g s.w = 8 := by omega
          unfold xB
          simp only [a1, if_false]
        have f1 : nW (gt s.w s.g.pc.toNat) = nOf s.g s.w := rfl
        have f2 : aW (gt s.w s.g.pc.toNat) = aOf s.g s.w := rfl
        refine ⟨?_, ?_⟩
        · unfold doneG doneM stepG mOf
          rw [f1, f2, mk u (dOf s.g s.w), ap u (dOf s.g s.w), aa u (dOf s.g s.w), ax u (dOf s.g s.w)]
          try (cases mkN (nOf s.g s.w) (aOf s.g s.w) s.g.x s.g.cnt s.g.acc (dOf s.g s.w) <;> rfl)
        · unfold doneV doneM mOf
          rw [f1, f2, mk u (dOf s.g s.w)]
          try (cases mkN (nOf s.g s.w) (aOf s.g s.w) s.g.x s.g.cnt s.g.acc (dOf s.g s.w) <;> rfl)
    by_cases hh : hasO s
    · have hh' : hasN (nW (gt s.w s.g.pc.toNat)) := hh
      have hop : opParts m s = [(gt s.w s.g.pc.toNat, pathN m s.w s.g.pc.toNat), (gt s.w (plN s), pathN m s.w (plN s))] := by simp only [opParts, hk, hh, if_true]
      have hpw : plW (gt s.w s.g.pc.toNat) s.g.x = plN s := rfl
      obtain ⟨g1, g2⟩ := eG (gt s.w (plN s)) (fun _ => rfl)
      have hR : doneR m s.g (gt (lv m s.w 8) 0) (gt s.w s.g.pc.toNat) (gt s.w (plN s)) (pathN m s.w (plN s)) = gt (lv m (nx m s).w 8) 0 := by
        unfold doneR
        rw [g2, hpw, n2]
        unfold stepW
        cases mOf s.g s.w with
        | some _ => rfl
        | none =>
          cases hw : wrB (nOf s.g s.w) s.g.pc s.g.acc with
          | none => simp only [hw]
          | some v => simp only [hw, r3]; rfl
      unfold stepO
      rw [hop, if_pos hd, if_pos hk]
      simp only
      rw [if_pos hh', if_pos r1, hpw, if_pos r2, hR, g1, ← n1]
      rfl
    · have hh' : ¬ hasN (nW (gt s.w s.g.pc.toNat)) := hh
      have hop : opParts m s = [(gt s.w s.g.pc.toNat, pathN m s.w s.g.pc.toNat)] := by simp only [opParts, hk, hh, if_true, if_false]
      obtain ⟨g1, g2⟩ := eG 0 (fun z => absurd z hh)
      have hwn : wrB (nOf s.g s.w) s.g.pc s.g.acc = none := by
        unfold hasO at hh
        unfold wrB
        rw [if_neg (fun z => hh (.inl (by omega))), if_neg (fun z => hh (.inl (by omega)))]
      have hww : (nx m s).w = s.w := by
        rw [n2]
        unfold stepW
        cases mOf s.g s.w with
        | some _ => rfl
        | none => simp only [hwn]
      unfold stepO
      rw [hop, if_pos hd, if_pos hk]
      simp only
      rw [if_neg hh', if_pos r1, g1, ← n1, hww]
      rfl
  · have hop : opParts m s = [] := by simp only [opParts, hk, if_false]
    have n1 : nx m s = s := by unfold nx nxG nxT nxW; simp only [hk, if_false]
    unfold stepO
    rw [hop, if_pos hd, if_neg hk, n1]
theorem opens : ∃ L, stepO m (digN m s.g s.w) s.g (gt (lv m s.w 8) 0) (opParts m s) = (some (digN m (nx m s).g (nx m s).w), L) := ⟨_, Prod.ext (opens1 hm hm1 h) rfl⟩
end
end Gn

namespace Gn
open PySem L2 Mi
/-! ### all rows of a memory are told: its root binds its words -/
theorem mem_lvRows (m : Int) (words : List Int) : ∀ n, ∀ r, r ∈ lvRows m words n ↔ ∃ k i, k < n ∧ i < 256 / 2 ^ (k + 1) ∧ r = foldRow m (lv m words k) i
  | 0, r => by simp [lvRows]
  | n + 1, r => by
    simp only [lvRows, List.mem_append, mem_lvRows m words n, foldRows, List.mem_map, List.mem_range]
    constructor
    · rintro (⟨k, i, h1, h2, h3⟩ | ⟨i, h1, h2⟩)
      · exact ⟨k, i, by omega, h2, h3⟩
      · exact ⟨n, i, by omega, h1, h2.symm⟩
    · rintro ⟨k, i, h1, h2, h3⟩
      by_cases hk : k < n
      · exact .inl ⟨k, i, hk, h2, h3⟩
      · have : k = n := by omega
        subst this
        exact .inr ⟨i, h2, h3.symm⟩
theorem memRows_bind {m : Int} {es : List Ent} (N : NoC es) {words words' : List Int} (hl : words.length = 256) (hl' : words'.length = 256) (h1 : AllT es (memRows m words)) (h2 : AllT es (memRows m words')) (h : gt (lv m words 8) 0 = gt (lv m words' 8) 0) : words = words' := by
  have key : ∀ r k, k + r = 8 → lv m words k = lv m words' k := by
    intro r
    induction r with
    | zero =>
      intro k hk
      have : k = 8 := by omega
      subst this
      have a := lv_len (m := m) hl 8
      have b := lv_len (m := m) hl' 8
      generalize lv m words 8 = x at *
      generalize lv m words' 8 = y at *
      match x, y, a, b with
      | [x], [y], _, _ => simp [gt] at h; rw [h]
    | succ r ih =>
      intro k hk
      have e := ih (k + 1) (by omega)
      have hk8 : k < 8 := by omega
      obtain ⟨p1, p2, p3, p4, p5⟩ := pow_sm k hk8
      have a := lv_len (m := m) hl k
      have b := lv_len (m := m) hl' k
      have pr : ∀ i, i < 256 / 2 ^ (k + 1) → gt (lv m words k) (2 * i) = gt (lv m words' k) (2 * i) ∧ gt (lv m words k) (2 * i + 1) = gt (lv m words' k) (2 * i + 1) := by
        intro i hi
        have t1 := h1 _ (List.mem_append_right _ ((mem_lvRows m words 8 _).mpr ⟨k, i, hk8, hi, rfl⟩))
        have t2 := h2 _ (List.mem_append_right _ ((mem_lvRows m words' 8 _).mpr ⟨k, i, hk8, hi, rfl⟩))
        have q1 : gt (lv m words (k + 1)) i = foldN m (gt (lv m words k) (2 * i)) (gt (lv m words k) (2 * i + 1)) := prs_getD _ _ _ (by have z := a; unfold lv at z; omega)
        have q2 : gt (lv m words' (k + 1)) i = foldN m (gt (lv m words' k) (2 * i)) (gt (lv m words' k) (2 * i + 1)) := prs_getD _ _ _ (by have z := b; unfold lv at z; omega)
        unfold TR foldRow at t1 t2
        simp only [← q1, ← q2, e] at t1 t2
        have z := N _ _ _ _ t1 t2
        injection z with z
        simp only [List.cons.injEq, and_true] at z
        exact z
      refine List.ext_getElem (a.trans b.symm) fun i hi hi' => ?_
      have g1 : (lv m words k)[i] = gt (lv m words k) i := by simp [gt, List.getD, hi]
      have g2 : (lv m words' k)[i] = gt (lv m words' k) i := by simp [gt, List.getD, hi']
      rw [g1, g2]
      have hi2 : i / 2 < 256 / 2 ^ (k + 1) := by omega
      obtain ⟨z1, z2⟩ := pr (i / 2) hi2
      by_cases ev : i % 2 = 0
      · rw [show 2 * (i / 2) = i by omega] at z1; exact z1
      · rw [show 2 * (i / 2) + 1 = i by omega] at z2; exact z2
  have h0 := key 8 0 rfl
  have h0' : words.map (leafN m) = words'.map (leafN m) := h0
  refine List.ext_getElem (hl.trans hl'.symm) fun i hi hi' => ?_
  have t1 := h1 (leafRow m words[i]) (List.mem_append_left _ (List.mem_map_of_mem (List.getElem_mem hi)))
  have t2 := h2 (leafRow m words'[i]) (List.mem_append_left _ (List.mem_map_of_mem (List.getElem_mem hi')))
  have e : leafN m words[i] = leafN m words'[i] := by
    have a : (words.map (leafN m))[i]'(by simpa using hi) = (words'.map (leafN m))[i]'(by simpa using hi') := by simp only [h0']
    simpa using a
  unfold TR leafRow at t1 t2
  simp only [e] at t1
  have z := N _ _ _ _ t1 t2
  injection z
theorem gt_set_ne (row : List Int) {p q : Nat} (v : Int) (h : q ≠ p) : gt (row.set p v) q = gt row q := getD_set_ne (Ne.symm h)
theorem memRows_set {m : Int} {words : List Int} (hl : words.length = 256) {p : Nat} (hp : p < 256) (v : Int) : ∀ r ∈ memRows m (words.set p v), r ∈ chRows m (words.set p v) p 8 ∨ r ∈ memRows m words := by
  intro r hr
  rcases List.mem_append.mp hr with hr | hr
  · simp only [List.mem_map] at hr
    obtain ⟨x, hx, rfl⟩ := hr
    rcases List.mem_or_eq_of_mem_set hx with hx | rfl
    · exact .inr (List.mem_append_left _ (List.mem_map_of_mem hx))
    · refine .inl ?_
      have e : gt (words.set p x) p = x := getD_set_self (by omega)
      unfold chRows
      rw [e]
      exact List.mem_cons_self ..
  · obtain ⟨k, i, hk, hi, rfl⟩ := (mem_lvRows m _ 8 r).mp hr
    by_cases hip : i = p / 2 ^ k / 2
    · subst hip
      refine .inl (List.mem_cons_of_mem _ (List.mem_map.mpr ⟨k, List.mem_range.mpr hk, rfl⟩))
    · refine .inr (List.mem_append_right _ ((mem_lvRows m words 8 _).mpr ⟨k, i, hk, hi, ?_⟩))
      have hset : lv m (words.set p v) k = (lv m words k).set (p / 2 ^ k) (gt (lv m (words.set p v) k) (p / 2 ^ k)) := by
        have z := lev_set (foldN m) (words.map (leafN m)) p (leafN m v) (by simp [hl, hp]) k (by rw [List.length_map, hl]; exact pow_dv k (by omega))
        rw [← List.map_set] at z
        exact z
      unfold foldRow
      rw [hset, gt_set_ne _ _ (by omega), gt_set_ne _ _ (by omega)]
/-- all rows of a machine's memory go on being told -/
theorem mt_step {m : Int} (hm : 7 < m) {s : Ms} (h : Ok m s) {es es' : List Ent} (hT : AllT es (memRows m s.w)) (hk : ∀ r, TR es' r ↔ TR es r ∨ r ∈ nxRows m s) : AllT es' (memRows m (nx m s).w) := by
  have old : AllT es' (memRows m s.w) := fun r hr => (hk r).mpr (.inl (hT r hr))
  by_cases h0 : s.g.mrk = 0
  · have n2 : (nx m s).w = stepW s.g s.w := if_pos h0
    rw [n2]
    unfold stepW
    cases hmo : mOf s.g s.w with
    | some _ => exact old
    | none =>
      simp only
      cases hw : wrB (nOf s.g s.w) s.g.pc s.g.acc with
      | none => exact old
      | some v =>
        simp only
        have pin := plB_in (nOf s.g s.w) (aOf s.g s.w) s.g.x
        have n28 : ¬ nOf s.g s.w = 28 := fun z => by rw [z] at hw; simp [wrB] at hw
        intro r hr
        rcases memRows_set h.wl (by omega) v r hr with z | z
        · refine (hk r).mpr (.inr ?_)
          unfold nxRows stepRows
          rw [if_pos h0, hmo]
          simp only [n28, if_false, hw]
          exact z
        · exact old r z
  · have n2 : (nx m s).w = s.w := if_neg h0
    rw [n2]
    exact old
end Gn

namespace Gn
open PySem L2 Mi
/-! ### the opening of a machine's state, with a book -/
theorem t_openedX {m : Int} {j bk T M : Nat} {s : Ms} {A : List Nat} {st : Sto} {B : BS} (h : MhB m j bk T M s A st B) : ∃ st', m_opened [.ref M] st = .ok (openW m s) st' ∧ Gm m j bk T [] st B st' B [] := by
  have r1 := h.regs
  obtain ⟨e0, c0⟩ := h.obj
  have ho := h.ok
  have hpc : s.g.pc = (s.g.pc.toNat : Int) := by have := ho.go.pc.1; omega
  have hpl : s.g.pc.toNat < 256 := by have := ho.go.pc; omega
  have pin := plB_in (nOf s.g s.w) (aOf s.g s.w) s.g.x
  have hplb : plB (nOf s.g s.w) (aOf s.g s.w) s.g.x = ((plN s : Nat) : Int) := by unfold plN; omega
  have hpl2 : plN s < 256 := by unfold plN; omega
  by_cases hk : s.g.mrk = 0
  · have e1 := h.word s.g.pc.toNat hpl
    have e2 := h.path s.g.pc.toNat hpl
    rw [← hpc] at e1 e2
    generalize hS1 : st ++ [Ob.lst ((pathN m s.w s.g.pc.toNat).map W.int)] = st1 at e2
    have o1 : Gm m j bk T [] st B st1 B [] := by rw [← hS1]; exact Gm.app h.dig _
    have h1 := h.keep o1 (by simp)
    obtain ⟨e01, c1⟩ := h1.obj
    have hwd : Word (gt s.w s.g.pc.toNat) := gt_word ho.ww _
    have hn : gt s.w s.g.pc.toNat / 1024 = (nOf s.g s.w : Int) := by have := hwd.1; unfold nOf; omega
    have ha : gt s.w s.g.pc.toNat % 1024 = (aOf s.g s.w : Int) := by unfold aOf; omega
    have hdo := t_data_of (gt s.w s.g.pc.toNat) (nOf s.g s.w) (aOf s.g s.w) hn ha (.int s.g.pc) (.int s.g.acc) (.int s.g.mrk) (.int s.g.out) (.int s.g.cnt) s.g.x st1
    by_cases hh : hasO s
    · have hda : ∃ b, daW (nOf s.g s.w) (aOf s.g s.w) s.g.x = .tup [.int ((plN s : Nat) : Int), .bl b] := by
        unfold hasO at hh
        unfold daW
        by_cases h4 : nOf s.g s.w = 4 ∨ nOf s.g s.w = 6 ∨ nOf s.g s.w = 26
        · rw [if_pos h4, hplb]; exact ⟨_, rfl⟩
        · rw [if_neg h4, if_pos (hh.resolve_left h4), hplb]; exact ⟨_, rfl⟩
      obtain ⟨b, hda⟩ := hda
      rw [hda] at hdo
      have e3 := h1.word (plN s) hpl2
      have e4 := h1.path (plN s) hpl2
      generalize hS2 : st1 ++ [Ob.lst ((pathN m s.w (plN s)).map W.int)] = st2 at e4
      have o2 : Gm m j bk T [] st1 B st2 B [] := by rw [← hS2]; exact Gm.app h1.dig _
      have h2 := h1.keep o2 (by simp)
      obtain ⟨e02, c2⟩ := h2.obj
      have e5 := h2.root
      refine ⟨st2, ?_, o1.trans o2 (by simp)⟩
      have hop : opParts m s = [(gt s.w s.g.pc.toNat, pathN m s.w s.g.pc.toNat), (gt s.w (plN s), pathN m s.w (plN s))] := by simp only [opParts, hk, hh, if_true]
      rw [openW, hop]
      simp only [List.map_cons, List.map_nil, prt]
      generalize (pathN m s.w (plN s)).map W.int = V2 at *
      generalize (pathN m s.w s.g.pc.toNat).map W.int = V1 at *
      refine def_rt rfl ?_
      show b_opened [some (.ref M), none, none, none, none] st = _
      unfold b_opened
      refine seq_nx (by simp [c0, r1]; exact ⟨rfl, rfl⟩) ?_
      refine seq_nx (by simp [sizeLine_eq]; exact ⟨rfl, rfl⟩) ?_
      refine seq_nx (by simp [-mEq, mEq_ii, hk, c0, e1, e2, hdo, c1, e3, e4, sizeLine_eq]; exact ⟨rfl, rfl⟩) ?_
      simp [c2, e5, sizeLine_eq]
    · have hda : daW (nOf s.g s.w) (aOf s.g s.w) s.g.x = .non := by
        unfold hasO at hh
        unfold daW
        rw [if_neg (fun z => hh (.inl z)), if_neg (fun z => hh (.inr z))]
      rw [hda] at hdo
      have e5 := h1.root
      refine ⟨st1, ?_, o1⟩
      have hop : opParts m s = [(gt s.w s.g.pc.toNat, pathN m s.w s.g.pc.toNat)] := by simp only [opParts, hk, hh, if_true, if_false]
      rw [openW, hop]
      simp only [List.map_cons, List.map_nil, prt]
      generalize (pathN m s.w s.g.pc.toNat).map W.int = V1 at *
      refine def_rt rfl ?_
      show b_opened [some (.ref M), none, none, none, none] st = _
      unfold b_opened
      refine seq_nx (by simp [c0, r1]; exact ⟨rfl, rfl⟩) ?_
      refine seq_nx (by simp [sizeLine_eq]; exact ⟨rfl, rfl⟩) ?_
      refine seq_nx (by simp [-mEq, mEq_ii, hk, c0, e1, e2, hdo, c1, sizeLine_eq]; exact ⟨rfl, rfl⟩) ?_
      simp [c1, e5, sizeLine_eq]
  · have e5 := h.root
    refine ⟨st, ?_, Gm.refl h.dig⟩
    have hop : opParts m s = [] := by simp only [opParts, hk, if_false]
    rw [openW, hop]
    simp only [List.map_nil]
    refine def_rt rfl ?_
    show b_opened [some (.ref M), none, none, none, none] st = _
    unfold b_opened
    refine seq_nx (by simp [c0, r1]; exact ⟨rfl, rfl⟩) ?_
    refine seq_nx (by simp [sizeLine_eq]; exact ⟨rfl, rfl⟩) ?_
    refine seq_nx (by simp [-mEq, mEq_ii, hk]; exact ⟨rfl, rfl⟩) ?_
    simp [c0, e5, sizeLine_eq]
end Gn

namespace Gn
open PySem L2 Mi
/-! ### drawing -/
theorem Sm.app {i : Nat} {s t : Sto} (h : Sm i s s) : Sm i (s ++ t) (s ++ t) := by
  obtain ⟨_, _, o, h1, h2⟩ := h
  exact ⟨rfl, fun _ _ => rfl, o, by rw [List.getElem?_append_left (List.getElem?_eq_some_iff.mp h1).1]; exact h1, h2⟩
theorem Sm.only' {A : List Nat} {i : Nat} {s t : Sto} (h : Sm i s s) (k : Only A s t) (hi : i ∉ A) : Sm i t t := by
  obtain ⟨_, _, o, h1, h2⟩ := h
  exact ⟨rfl, fun _ _ => rfl, o, k.rd h1 hi, h2⟩
theorem lg100 {m : Int} (h0 : 0 < m) (h1 : m < 1267650600228229401496703205376) : m.natAbs.log2 < 9000 := by
  have h := (Nat.log2_lt (n := m.natAbs) (k := 100) (by omega)).mpr (by omega)
  omega
theorem t_draw (st : Sto) (i : Nat) (m : Int) (h : Sm i st st) (h0 : 0 < m) (h1 : m < 1267650600228229401496703205376) :
    ∃ (r : Int) (st' : Sto), m_L_draw [.ref i, .int m] st = .ok (.int r) st' ∧ Sm i st st' ∧ 0 ≤ r ∧ r < m := by
  suffices hh : (m_L_draw [.ref i, .int m] st).post fun w st' => ∃ r : Int, w = .int r ∧ Sm i st st' ∧ 0 ≤ r ∧ r < m by
    obtain ⟨w, st', e, r, rfl, h1⟩ := hh.get
    exact ⟨r, st', e, h1⟩
  obtain ⟨_, _, o, ho, a, b, c, d, ns, rfl, c0⟩ := h
  obtain ⟨hi, hg⟩ := List.getElem?_eq_some_iff.mp ho
  have hs := lg100 h0 h1
  have q1 : ∀ x : Int, 0 ≤ x % m := fun x => Int.emod_nonneg _ (by omega)
  have q2 : ∀ x : Int, x % m < m := fun x => Int.emod_lt_of_pos _ h0
  have x5 : ∀ (p q r s t : W), atI [p, q, r, s, t] 0 = some p ∧ atI [p, q, r, s, t] 1 = some q ∧ atI [p, q, r, s, t] 2 = some r ∧ atI [p, q, r, s, t] 3 = some s ∧ atI [p, q, r, s, t] 4 = some t := fun _ _ _ _ _ => ⟨rfl, rfl, rfl, rfl, rfl⟩
  have y0 : ixN 5 0 = some 0 := rfl
  have y1 : ixN 5 1 = some 1 := rfl
  have y2 : ixN 5 2 = some 2 := rfl
  simp only [m_L_draw, b_L_draw]
  by_cases hz : a = 0
  · subst hz
    have fin : ∀ (s x y : Int) (z : List Int) (w : Int), 0 ≤ w → Sm i st (st.set i (.lst [.int s, .int x, .int w, .int y, .lst (z.map W.int)])) := fun s x y z w hw => Sm.set hi ⟨_, _, _, _, _, rfl, hw⟩
    have c1 : 0 ≤ c + 1 := by omega
    have m1 : ∀ x : Int, (x % 2147483647).natAbs < 18446744073709551616 := fun x => by omega
    by_cases hc : c < (ns.length : Nat)
    · have hat : atI (ns.map W.int) c = some (.int (ns[c.toNat]'(by omega))) := atI_nn c0 (by rw [List.getElem?_map, List.getElem?_eq_getElem (by omega)]; rfl)
      generalize ns[c.toNat]'(by omega) = cell at hat
      by_cases hb : 1000000000000000000 ≤ cell
      · simp [hg, hi, x5, y0, y1, y2, hc, hat, hb, h0, hs, q1, q2, m1, fin, c1]
      · simp [hg, hi, x5, y0, y1, y2, hc, hat, hb, h0, hs, q1, q2, m1, fin, c1]
    · by_cases hb : 1000000000000000000 ≤ d
      · simp [hg, hi, x5, y0, y1, y2, hc, hb, h0, hs, q1, q2, m1, fin, c1]
      · simp [hg, hi, x5, y0, y1, y2, hc, hb, h0, hs, q1, q2, m1, fin, c1]
  · have fin : ∀ (s : Int), Sm i st (st.set i (.lst [.int s, .int b, .int c, .int d, .lst (ns.map W.int)])) := fun s => Sm.set hi ⟨_, _, _, _, _, rfl, c0⟩
    simp [hg, hi, x5, y0, y1, y2, hz, h0, hs, q1, q2, fin]
theorem t_bag0 (ns : List Int) : m_L_bag [.xst (ns.map W.int)] [] = .ok (.ref 0) [.lst [.int 0, .int 7, .int 0, .int 0, .lst (ns.map W.int)]] ∧ Sm 0 [.lst [.int 0, .int 7, .int 0, .int 0, .lst (ns.map W.int)]] [.lst [.int 0, .int 7, .int 0, .int 0, .lst (ns.map W.int)]] := by
  refine ⟨?_, Sm.refl rfl ⟨0, 7, 0, 0, ns, rfl, by omega⟩⟩
  simp only [m_L_bag, b_L_bag]
  simp [sizeLine_eq]
end Gn

namespace Gn
open PySem L2 Mi
/-! ### parts of rows; a bag at place 0 and what else may be new -/
theorem cutT (xs : List W) (h : Nat) (hh : h ≤ xs.length) : cutW xs none (some (h : Int)) = xs.take h := by
  have z := HT.sIx_nat xs.length xs.length h
  have z0 : HT.sIx xs.length 0 none = 0 := rfl
  unfold cutW
  rw [z, z0, List.drop_zero]
  rw [Nat.sub_zero, Nat.min_eq_left hh]
theorem cutD (xs : List W) (h : Nat) (hh : h ≤ xs.length) : cutW xs (some (h : Int)) none = xs.drop h := by
  have z := HT.sIx_nat xs.length 0 h
  have z0 : HT.sIx xs.length xs.length none = xs.length := rfl
  unfold cutW
  rw [z, z0, Nat.min_eq_left hh]
  exact List.take_of_length_le (by simp)
theorem cutM (xs : List W) (h k : Nat) (hh : h ≤ xs.length) (hk : k ≤ xs.length) : cutW xs (some (h : Int)) (some (k : Int)) = (xs.drop h).take (k - h) := by
  have z := HT.sIx_nat xs.length 0 h
  have z1 := HT.sIx_nat xs.length xs.length k
  unfold cutW
  rw [z, z1, Nat.min_eq_left hh, Nat.min_eq_left hk]
def Bg (st : Sto) : Prop := ∃ o, st[0]? = some o ∧ BagOb o
theorem Bg.sm {st : Sto} (h : Bg st) : Sm 0 st st := ⟨rfl, fun _ _ => rfl, h⟩
theorem Bg.len {st : Sto} (h : Bg st) : 0 < st.length := by obtain ⟨o, h, _⟩ := h; exact (List.getElem?_eq_some_iff.mp h).1
theorem Bg.app {st : Sto} (h : Bg st) (S : Sto) : Bg (st ++ S) := by
  obtain ⟨o, h1, h2⟩ := h
  exact ⟨o, app_lt0 h1, h2⟩
structure Rl (st st' : Sto) : Prop where
  o : Only [0] st st'
  b : Bg st'
theorem Rl.refl {st : Sto} (h : Bg st) : Rl st st := ⟨Only.refl _ _, h⟩
theorem Rl.trans {a b c : Sto} (h : Rl a b) (k : Rl b c) : Rl a c := ⟨h.o.trans k.o (by intro i hi _; exact hi), k.b⟩
theorem Rl.app {st : Sto} (h : Bg st) (S : Sto) : Rl st (st ++ S) := ⟨Only.app _ _ _, h.app S⟩
theorem Rl.of {st st' : Sto} (h : Sm 0 st st') : Rl st st' := ⟨h.only, h.2.2⟩
theorem Rl.rd {st st' : Sto} (h : Rl st st') {i : Nat} {o : Ob} (e : st[i]? = some o) (n : i ≠ 0) : st'[i]? = some o := h.o.rd e (by simpa using n)
/-- a change that leaves the bag alone -/
theorem Rl.only {A : List Nat} {st st' : Sto} (hb : Bg st) (h : Only A st st') (ha : 0 ∉ A) : Bg st' := by
  obtain ⟨o, h1, h2⟩ := hb
  exact ⟨o, h.rd h1 ha, h2⟩
theorem r_draw {st : Sto} (m : Int) (h : Bg st) (h0 : 0 < m) (h1 : m < 1267650600228229401496703205376) :
    ∃ (r : Int) (st' : Sto), m_L_draw [.ref 0, .int m] st = .ok (.int r) st' ∧ Rl st st' ∧ 0 ≤ r ∧ r < m := by
  obtain ⟨r, st', e, k, r0, r1⟩ := t_draw st 0 m h.sm h0 h1
  exact ⟨r, st', e, Rl.of k, r0, r1⟩
end Gn

namespace Gn
open PySem L2 Mi
/-! ### steps with a book, for laws -/
theorem gm_only {m : Int} {j bk T : Nat} {A : List Nat} {st st' : Sto} {B : BS} (h : DigB m st j bk T B) (o : Only A st st') (hA : ∀ i ∈ A, i ≠ j ∧ i ∉ fpB bk T B.es) : Gm m j bk T A st B st' B [] :=
  ⟨h.keep o hA, o.mono (fun i hi _ => List.mem_append_left _ hi), fun i hi => .inl hi, fun r => by simp, rfl, fun h => h⟩
theorem Gm.rl {m : Int} {j bk T : Nat} {st st' : Sto} {B : BS} (h : DigB m st j bk T B) (k : Rl st st') (hj : 0 ≠ j) (h0 : 0 ∉ fpB bk T B.es) : Gm m j bk T [0] st B st' B [] :=
  gm_only h k.o (by simp only [List.mem_singleton]; rintro i rfl; exact ⟨hj, h0⟩)
theorem Gm.bag {m : Int} {j bk T : Nat} {A : List Nat} {st st' : Sto} {B B' : BS} {L : List Row} (g : Gm m j bk T A st B st' B' L) (h : Bg st) (h0 : 0 ∉ fpB bk T B.es) (hA : 0 ∉ A) : Bg st' := by
  obtain ⟨o, h1, h2⟩ := h
  exact ⟨o, g.rd h1 h0 hA, h2⟩
theorem Gm.tr {m : Int} {j bk T : Nat} {A : List Nat} {st st' : Sto} {B B' : BS} {L : List Row} {r : Row} (g : Gm m j bk T A st B st' B' L) (h : TR B.es r) : TR B'.es r := (g.told r).mpr (.inl h)
/-- the machine's own opening, taken -/
theorem t_stepofOwn {m : Int} (hm : 7 < m) (hm1 : m < 4611686018427387904) {j bk T : Nat} {st : Sto} {B : BS} (hD : DigB m st j bk T B) (hB : B.n < 800000) {s : Ms} (h : Ok m s) :
    ∃ st' B' L, m_step_of [.ref j, .int (digN m s.g s.w), openW m s] st = .ok (.int (digN m (nx m s).g (nx m s).w)) st' ∧ Gx m j bk T st B st' B' L ∧ L.length ≤ 40 ∧ stepO m (digN m s.g s.w) s.g (gt (lv m s.w 8) 0) (opParts m s) = (some (digN m (nx m s).g (nx m s).w), L) := by
  obtain ⟨st', B', e, g⟩ := t_stepofX hm hm1 hD hB (opens_in hm hm1 h) (digN m s.g s.w)
  obtain ⟨L, hL⟩ := opens hm hm1 h
  rw [hL] at e g
  refine ⟨st', B', L, e, g, ?_, hL⟩
  have hp := (opens_in hm hm1 h).pt
  obtain ⟨-, k⟩ := taken hL
  generalize opParts m s = ps at *
  generalize digN m (nx m s).g (nx m s).w = vv at *
  generalize digN m s.g s.w = dd at *
  generalize gt (lv m s.w 8) 0 = rr at *
  have dl := fun w u => doneRows_len m s.g w u
  have wl : ∀ (p : Nat) (w : Int) (q : List Int), q.length = 8 → (withRows m p w q).length = 9 := fun p w q hq => by simp only [withRows, wayRows_len, List.length_cons, hq]
  cases k with
  | rest _ => simp
  | two w p u q h1 h2 h3 h4 =>
    have a1 := wl s.g.pc.toNat w p (hp (w, p) (by simp)).2.1
    have a2 := fun v => wl (plW w s.g.x) v q (hp (u, q) (by simp)).2.1
    have a3 := dl w u
    simp only [List.length_append, a1, a2, List.length_cons, List.length_nil]
    split
    · rw [a2]; omega
    · simp; omega
  | one w p h1 h2 h3 =>
    have a1 := wl s.g.pc.toNat w p (hp (w, p) (by simp)).2.1
    have a3 := dl w 0
    simp only [List.length_append, a1, List.length_cons, List.length_nil]
    omega
/-- a machine's own opening behind another digest -/
theorem t_stepofNot {m : Int} (hm : 7 < m) (hm1 : m < 4611686018427387904) {j bk T : Nat} {st : Sto} {B : BS} (hD : DigB m st j bk T B) (hB : B.n < 800000) {s : Ms} (h : Ok m s) {d : Int} (hd : digN m s.g s.w ≠ d) :
    ∃ st' B', m_step_of [.ref j, .int d, openW m s] st = .exc 29 [] st' ∧ Gx m j bk T st B st' B' [digRow m s] := by
  obtain ⟨st', B', e, g⟩ := t_stepofX hm hm1 hD hB (opens_in hm hm1 h) d
  have e2 : stepO m d s.g (gt (lv m s.w 8) 0) (opParts m s) = (none, [digRow m s]) := by
    unfold stepO
    have hd' : ¬ stateN m (rgL s.g ++ [gt (lv m s.w 8) 0]) = d := hd
    rw [if_neg hd']
    rfl
  rw [e2] at e g
  exact ⟨st', B', e, g⟩
/-- two states of one digest, their memories told: the same state -/
theorem states_bind {m : Int} {es : List Ent} (N : NoC es) {s s' : Ms} (h : Ok m s) (h' : Ok m s') (r1 : TR es (digRow m s)) (r2 : TR es (digRow m s')) (t1 : AllT es (memRows m s.w)) (t2 : AllT es (memRows m s'.w)) (hd : digN m s.g s.w = digN m s'.g s'.w) : s.g = s'.g ∧ s.w = s'.w := by
  obtain ⟨e1, e2⟩ := state_bind (m := m) N (g := s.g) (g' := s'.g) (root := gt (lv m s.w 8) 0) (root' := gt (lv m s'.w 8) 0) r1 r2 hd
  exact ⟨e1, memRows_bind N h.wl h'.wl t1 t2 e2⟩
end Gn

namespace Gn
open PySem L2 Mi
/-- a comprehension whose items are drawn -/
theorem lc_draw_at {ws : List W} {g : MG} {e : ME} {s : Slo} (i : Nat) (P : Int → Prop)
    (h : ∀ w ∈ ws, ∀ st, Sm i st st → ∃ s2 x st', g w s st = some (s2, st) ∧ e s2 st = .ok (.int x) st' ∧ Sm i st st' ∧ P x) :
    ∀ (k n : Nat) (acc : List W) (st : Sto), n + k = ws.length → acc.length + k ≤ sizeLine → Sm i st st →
      ∃ (ys : List Int) (st' : Sto), mLcLoop (.vals ws) g mYes e s k n acc st = .ok (acc ++ ys.map W.int) st' ∧ Sm i st st' ∧ ys.length = k ∧ ∀ y ∈ ys, P y
  | 0, n, acc, st, hn, hl, hs => ⟨[], st, by simp [mLcLoop, Src.fine], hs, rfl, by simp⟩
  | k + 1, n, acc, st, hn, hl, hs => by
    have hi : n < ws.length := by omega
    obtain ⟨s2, x, st1, hg, he, h1, hP⟩ := h ws[n] (List.getElem_mem hi) st hs
    obtain ⟨ys, st2, e2, h2, hl2, hP2⟩ := lc_draw_at i P h k (n + 1) (acc ++ [.int x]) st1 (by omega) (by simp; omega) h1.here
    refine ⟨x :: ys, st2, ?_, h1.trans h2, by simp [hl2], fun y hy => ?_⟩
    · have ht : mYes s2 st = .ok true st := rfl
      simp only [mLcLoop, Src.fine, if_true, Src.at, List.getElem?_eq_getElem hi, hg, ht, he]
      rw [if_pos (by omega), e2]
      simp
    · rcases List.mem_cons.mp hy with z | z
      · rw [z]; exact hP
      · exact hP2 y z
theorem lc_draw {g : MG} {e : ME} {s : Slo} {ws : List W} {n : Nat} (hn : ws.length = n) (hsz : n ≤ sizeLine) (i : Nat) (P : Int → Prop) {st : Sto} (hs : Sm i st st)
    (h : ∀ w ∈ ws, ∀ st, Sm i st st → ∃ s2 x st', g w s st = some (s2, st) ∧ e s2 st = .ok (.int x) st' ∧ Sm i st st' ∧ P x) :
    ∃ (ys : List Int) (st' : Sto), mLcLoop (.vals ws) g mYes e s n 0 [] st = .ok (ys.map W.int) st' ∧ Sm i st st' ∧ ys.length = n ∧ ∀ y ∈ ys, P y := by
  obtain ⟨ys, st', e1, h1, h2, h3⟩ := lc_draw_at (e := e) i P h n 0 [] st (by omega) (by simpa using hsz) hs
  exact ⟨ys, st', by simpa using e1, h1, h2, h3⟩
/-- the same, as a part of a def's text -/
theorem lc_drawn {a : MA} {k : Int} {v : Nat} {e : ME} {s s2 : Slo} {st st1 : Sto} (i : Nat) (P : Int → Prop) (ha : a s st = .ok [.int k] st1) (h0 : 0 ≤ k) (h1 : k < 1000000) (hs : Sm i st st1) (hw : wipeW s [v] = s2)
    (h : ∀ w st, Sm i st st → ∃ x st', e (s2.set v (some w)) st = .ok (.int x) st' ∧ Sm i st st' ∧ P x) :
    ∃ (ys : List Int) (st' : Sto), mLc (mIRng1 a) (.nm v) mYes e [v] s st = .ok (.lst (ys.map W.int)) st' ∧ Sm i st st' ∧ (ys.length : Int) = k ∧ ∀ y ∈ ys, P y := by
  obtain ⟨ys, st', e1, q1, q2, q3⟩ := lc_draw (ws := rngW 0 k.toNat) (n := k.toNat) (g := NT.m (.nm v)) (e := e) (s := s2) (rngW_len 0 _) (by rw [sizeLine_eq]; omega) i P hs.here (fun w _ t ht => by
    obtain ⟨x, t', e1, e2, e3⟩ := h w t ht
    exact ⟨_, x, t', rfl, e1, e2, e3⟩)
  refine ⟨ys, st', ?_, hs.trans q1, by omega, q3⟩
  rw [mLc_rng1 ha h0 (by omega), hw, e1]
  rfl
end Gn
namespace Gn
open PySem L2 Mi
/-- a comprehension whose test draws -/
theorem lc_test_at {ws : List W} {g : MG} {t : MT} {e : ME} {s : Slo} (i : Nat) (P : W → Prop)
    (h : ∀ w ∈ ws, ∀ st, Sm i st st → ∃ s2 b st', g w s st = some (s2, st) ∧ t s2 st = .ok b st' ∧ Sm i st st' ∧ (b = true → P w ∧ e s2 st' = .ok w st')) :
    ∀ (k n : Nat) (acc : List W) (st : Sto), n + k = ws.length → acc.length + k ≤ sizeLine → Sm i st st →
      ∃ (zs : List W) (st' : Sto), mLcLoop (.vals ws) g t e s k n acc st = .ok (acc ++ zs) st' ∧ Sm i st st' ∧ zs.Sublist (ws.drop n) ∧ ∀ z ∈ zs, P z
  | 0, n, acc, st, hn, hl, hs => ⟨[], st, by simp [mLcLoop, Src.fine], hs, by simp, by simp⟩
  | k + 1, n, acc, st, hn, hl, hs => by
    have hi : n < ws.length := by omega
    obtain ⟨s2, b, st1, hg, ht, h1, hP⟩ := h ws[n] (List.getElem_mem hi) st hs
    have hd := List.drop_eq_getElem_cons hi
    cases b with
    | false =>
      obtain ⟨zs, st2, e2, h2, hl2, hP2⟩ := lc_test_at i P h k (n + 1) acc st1 (by omega) (by omega) h1.here
      refine ⟨zs, st2, ?_, h1.trans h2, by rw [hd]; exact hl2.cons _, hP2⟩
      simp only [mLcLoop, Src.fine, if_true, Src.at, List.getElem?_eq_getElem hi, hg, ht]
      exact e2
    | true =>
      obtain ⟨hP1, he⟩ := hP rfl
      obtain ⟨zs, st2, e2, h2, hl2, hP2⟩ := lc_test_at i P h k (n + 1) (acc ++ [ws[n]]) st1 (by omega) (by simp; omega) h1.here
      refine ⟨ws[n] :: zs, st2, ?_, h1.trans h2, by rw [hd]; exact hl2.cons₂ _, fun z hz => ?_⟩
      · simp only [mLcLoop, Src.fine, if_true, Src.at, List.getElem?_eq_getElem hi, hg, ht, he]
        rw [if_pos (by omega), e2]
        simp
      · rcases List.mem_cons.mp hz with z | z
        · rw [z]; exact hP1
        · exact hP2 _ z
theorem lc_tested {a : MA} {k : Int} {v : Nat} {t : MT} {e : ME} {s s2 : Slo} {st st1 : Sto} (i : Nat) (P : W → Prop) (ha : a s st = .ok [.int k] st1) (h0 : 0 ≤ k) (h1 : k < 1000000) (hs : Sm i st st1) (hw : wipeW s [v] = s2)
    (h : ∀ w ∈ rngW 0 k.toNat, ∀ st, Sm i st st → ∃ b st', t (s2.set v (some w)) st = .ok b st' ∧ Sm i st st' ∧ (b = true → P w ∧ e (s2.set v (some w)) st' = .ok w st')) :
    ∃ (zs : List W) (st' : Sto), mLc (mIRng1 a) (.nm v) t e [v] s st = .ok (.lst zs) st' ∧ Sm i st st' ∧ zs.Sublist (rngW 0 k.toNat) ∧ ∀ y ∈ zs, P y := by
  obtain ⟨zs, st', e1, q1, q2, q3⟩ := lc_test_at (ws := rngW 0 k.toNat) (g := NT.m (.nm v)) (t := t) (e := e) (s := s2) i P (fun w hw t ht => by
    obtain ⟨b, t', e1, e2, e3⟩ := h w hw t ht
    exact ⟨_, b, t', rfl, e1, e2, e3⟩) k.toNat 0 [] st1 (by simp) (by rw [sizeLine_eq]; simp; omega) hs.here
  refine ⟨zs, st', ?_, hs.trans q1, by simpa using q2, q3⟩
  rw [mLc_rng1 ha h0 (by omega), hw, e1]
  simp
theorem sub_filter {α : Type} [DecidableEq α] : ∀ {l s : List α}, l.Sublist s → s.Nodup → s.filter (fun x => decide (x ∈ l)) = l
  | _, _, .slnil, _ => rfl
  | l, _, .cons (l₂ := s) a h, hn => by
    obtain ⟨h1, h2⟩ := List.nodup_cons.mp hn
    have ha : a ∉ l := fun z => h1 (h.subset z)
    rw [List.filter_cons, if_neg (by simpa using ha)]
    exact sub_filter h h2
  | _, _, .cons₂ (l₁ := l) (l₂ := s) a h, hn => by
    obtain ⟨h1, h2⟩ := List.nodup_cons.mp hn
    rw [List.filter_cons, if_pos (by simp)]
    congr 1
    rw [← sub_filter h h2]
    refine List.filter_congr fun x hx => ?_
    have : x ≠ a := fun z => h1 (by rw [← z]; exact hx)
    rw [sub_filter h h2]
    simp [this]
end Gn

namespace Gn
open PySem L2 Mi
theorem t_word (st : Sto) (i : Nat) (h : Sm i st st) : ∃ (r : Int) (st' : Sto), m_L_word [.ref i] st = .ok (.int r) st' ∧ Sm i st st' ∧ Word r := by
  obtain ⟨p, s1, e1, b1, p0, p1⟩ := t_draw st i 8 h (by omega) (by omega)
  have k3 : (3 : Nat) ≤ sizeLine := by decide
  have k5 : (5 : Nat) ≤ sizeLine := by decide
  simp only [m_L_word, b_L_word]
  by_cases c1 : p < 5
  · obtain ⟨u1, s2, e2, b2, u10, u11⟩ := t_draw s1 i 29 b1.here (by omega) (by omega)
    obtain ⟨u2, s3, e3, b3, u20, u21⟩ := t_draw s2 i 16 b2.here (by omega) (by omega)
    obtain ⟨u3, s4, e4, b4, u30, u31⟩ := t_draw s3 i 256 b3.here (by omega) (by omega)
    obtain ⟨u4, s5, e5, b5, u40, u41⟩ := t_draw s4 i 1024 b4.here (by omega) (by omega)
    obtain ⟨u5, s6, e6, b6, u50, u51⟩ := t_draw s5 i 3 b5.here (by omega) (by omega)
    obtain ⟨v, hv, v0, v1⟩ := pick (fun v => 0 ≤ v ∧ v < 1024) [u2, u3, u4] u5 u50 (by simpa using u51) (by simp; omega)
    simp only [List.map_cons, List.map_nil] at hv
    refine ⟨1024 * u1 + v, s6, ?_, b1.trans (b2.trans (b3.trans (b4.trans (b5.trans b6)))), ⟨by omega, by omega⟩⟩
    simp [e1, c1, e2, e3, e4, e5, e6, hv, k3]
  · obtain ⟨u1, s2, e2, b2, u10, u11⟩ := t_draw s1 i 65536 b1.here (by omega) (by omega)
    obtain ⟨u5, s6, e6, b6, u50, u51⟩ := t_draw s2 i 5 b2.here (by omega) (by omega)
    obtain ⟨v, hv, v0⟩ := pick Word [0, 1, 15, 65535, u1] u5 u50 (by simpa using u51) (by simp [Word]; omega)
    simp only [List.map_cons, List.map_nil] at hv
    refine ⟨v, s6, ?_, b1.trans (b2.trans b6), v0⟩
    simp [e1, c1, e2, e6, hv, k5]
theorem t_start (st : Sto) (i : Nat) (m : Int) (h : Sm i st st) (h7 : 7 < m) (h1 : m < 18446744073709551616) : ∃ (pc acc x mk out cnt : Int) (st' : Sto),
    m_L_start [.ref i, .int m] st = .ok (.tup [.int pc, .int acc, .int x, .int mk, .int out, .int cnt]) st' ∧ Sm i st st' ∧ (0 ≤ pc ∧ pc < 256) ∧ Word acc ∧ Word x ∧ (0 ≤ mk ∧ mk < 7) ∧ (0 ≤ out ∧ out < m) ∧ (0 ≤ cnt ∧ cnt < 17) := by
  have k7 : (7 : Nat) ≤ sizeLine := by decide
  have k4 : (4 : Nat) ≤ sizeLine := by decide
  have k3 : (3 : Nat) ≤ sizeLine := by decide
  have k8 : (8 : Nat) ≤ sizeLine := by decide
  have k6 : (6 : Nat) ≤ sizeLine := by decide
  obtain ⟨r1, s1, e1, b1, r10, r11⟩ := t_draw st i 65536 h (by omega) (by omega)
  obtain ⟨r2, s2, e2, b2, r20, r21⟩ := t_draw s1 i 16 b1.here (by omega) (by omega)
  obtain ⟨r3, s3, e3, b3, r30, r31⟩ := t_draw s2 i 256 b2.here (by omega) (by omega)
  obtain ⟨r4, s4, e4, b4, r40, r41⟩ := t_draw s3 i 4 b3.here (by omega) (by omega)
  obtain ⟨pc, hpc, pcP⟩ := pick (fun v => 0 ≤ v ∧ v < 256) [0, 255, r2, r3] r4 r40 (by simpa using r41) (by simp; omega)
  obtain ⟨r5, s5, e5, b5, r50, r51⟩ := t_draw s4 i 17 b4.here (by omega) (by omega)
  obtain ⟨r6, s6, e6, b6, r60, r61⟩ := t_draw s5 i 4 b5.here (by omega) (by omega)
  obtain ⟨ct, hct, ctP⟩ := pick (fun v => 0 ≤ v ∧ v < 17) [0, 15, 16, r5] r6 r60 (by simpa using r61) (by simp; omega)
  obtain ⟨r7, s7, e7, b7, r70, r71⟩ := t_draw s6 i m b6.here (by omega) (by omega)
  obtain ⟨r8, s8, e8, b8, r80, r81⟩ := t_draw s7 i 3 b7.here (by omega) (by omega)
  obtain ⟨ou, hou, ouP⟩ := pick (fun v => 0 ≤ v ∧ v < m) [7, m - 1, r7] r8 r80 (by simpa using r81) (by simp; omega)
  obtain ⟨r9, s9, e9, b9, r90, r91⟩ := t_draw s8 i 7 b8.here (by omega) (by omega)
  obtain ⟨ra, sa, ea, ba, ra0, ra1⟩ := t_draw s9 i 8 b9.here (by omega) (by omega)
  obtain ⟨mk, hmk, mkP⟩ := pick (fun v => 0 ≤ v ∧ v < 7) [0, 0, 0, 0, 0, 0, 0, r9] ra ra0 (by simpa using ra1) (by simp; omega)
  obtain ⟨rb, sb, eb, bb, rb0, rb1⟩ := t_draw sa i 7 ba.here (by omega) (by omega)
  obtain ⟨ac, hac, acP⟩ := pick Word [0, 1, 3, 255, 256, 65535, r1] rb rb0 (by simpa using rb1) (by simp [Word]; omega)
  obtain ⟨rc, sc, ec, bc, rc0, rc1⟩ := t_draw sb i 7 bb.here (by omega) (by omega)
  obtain ⟨x, hx, xP⟩ := pick Word [0, 1, 3, 255, 256, 65535, r1] rc rc0 (by simpa using rc1) (by simp [Word]; omega)
  simp only [List.map_cons, List.map_nil] at hpc hct hou hmk hac hx
  refine ⟨pc, ac, x, mk, ou, ct, sc, ?_, b1.trans (b2.trans (b3.trans (b4.trans (b5.trans (b6.trans (b7.trans (b8.trans (b9.trans (ba.trans (bb.trans bc)))))))))), pcP, acP, xP, mkP, ouP, ctP⟩
  simp only [m_L_start, b_L_start]
  simp [e1, e2, e3, e4, e5, e6, e7, e8, e9, ea, eb, ec, hpc, hct, hou, hmk, hac, hx, k7, k4, k3, k8, k6]
theorem t_words (st : Sto) (i : Nat) (h : Sm i st st) : ∃ (words : List Int) (st' : Sto), m_L_words [.ref i] st = .ok (.tup (words.map W.int)) st' ∧ Sm i st st' ∧ words.length = 256 ∧ ∀ x ∈ words, Word x := by
  obtain ⟨q, s1, e1, b1, q0, q1⟩ := t_draw st i 3 h (by omega) (by omega)
  obtain ⟨n, hn, hnb⟩ := pick (fun v => v = 16 ∨ v = 40 ∨ v = 256) [16, 40, 256] q q0 (by simpa using q1) (by simp)
  simp only [List.map_cons, List.map_nil] at hn
  obtain ⟨ys, s2, e2, b2, l2, P2⟩ := lc_drawn (a := mCons (mVar 1) mNil) (k := n) (v := 3) (e := e0_L_words) (s := [some (.ref i), some (.int n), none, none]) i Word rfl (by omega) (by omega) b1.here rfl (fun w t ht => by
    obtain ⟨r, t', e, b, hr⟩ := t_word t i ht
    exact ⟨r, t', by simp [e0_L_words, e, wipeW], b, hr⟩)
  obtain ⟨M, hM⟩ : ∃ M : Int, M = 256 := ⟨_, rfl⟩
  obtain ⟨zs, s3, e3, b3, l3, P3⟩ := lc_drawn (a := mCons (mC (.int M)) mNil) (k := M) (v := 3) (e := e1_L_words) (s := [some (.ref i), some (.int n), some (.lst (ys.map W.int)), none]) i Word rfl (by omega) (by omega) b2.here rfl (fun w t ht => by
    obtain ⟨r, t', e, b, r0, r1⟩ := t_draw t i 3 ht (by omega) (by omega)
    obtain ⟨v, hv, vP⟩ := pick Word [0, 65535, 3000] r r0 (by simpa using r1) (by simp [Word])
    simp only [List.map_cons, List.map_nil] at hv
    exact ⟨v, t', by simp [e1_L_words, e, hv, sizeLine_eq, wipeW], b, vP⟩)
  have hsz : ys.length + zs.length ≤ sizeLine := by rw [sizeLine_eq]; omega
  have hc : cutW (ys.map W.int ++ zs.map W.int) none (some 256) = ((ys ++ zs).take 256).map W.int := by
    rw [← List.map_append, List.map_take]
    obtain ⟨K, hK, hK2⟩ : ∃ K, ((ys ++ zs).map W.int).length = K ∧ 256 ≤ K := ⟨_, rfl, by rw [List.length_map, List.length_append]; omega⟩
    unfold cutW
    rw [hK]
    have h0 : HT.sIx K 0 none = 0 := rfl
    have h1 : HT.sIx K K (some 256) = 256 := by
      have z := HT.sIx_nat K K 256
      have y : ((256 : Nat) : Int) = 256 := rfl
      rw [y] at z
      rw [z]; omega
    rw [h0, h1, List.drop_zero]
  refine ⟨(ys ++ zs).take 256, s3, ?_, b1.trans (b2.trans b3), by rw [List.length_take, List.length_append]; omega, fun x hx => ?_⟩
  · generalize ((ys ++ zs).take 256).map W.int = V at hc ⊢
    have i1 : (mAsg (mOp mIx (mLst (mCons (mC (W.int 16)) (mCons (mC (W.int 40)) (mCons (mC (W.int 256)) mNil)))) (mCall 2 m_L_draw (mCons (mVar 0) (mCons (mC (W.int 3)) mNil)))) (mGN 1)) [some (.ref i), none, none, none] st = .nx [some (.ref i), some (.int n), none, none] s1 := by
      simp [e1, hn, sizeLine_eq]
    have i2 : (mAsg (mLc (mIRng1 (mCons (mVar 1) mNil)) (.nm 3) mYes e0_L_words [3]) (mGN 2)) [some (.ref i), some (.int n), none, none] s1 = .nx [some (.ref i), some (.int n), some (.lst (ys.map W.int)), none] s2 := by
      simp only [mAsg, e2, Out.run, mGN, List.set]
    have i3 : (mCB mTupleOf (mCons (mSl (mOp mAdd (mVar 2) (mLc (mIRng1 (mCons (mC (W.int M)) mNil)) (.nm 3) mYes e1_L_words [3])) mNoPart (mPart (mC (W.int 256)))) mNil)) [some (.ref i), some (.int n), some (.lst (ys.map W.int)), none] s2 = .ok (.tup V) s3 := by
      simp only [mCB, mCons, mSl, mOp, mVar, e3, List.getElem?_cons_succ, List.getElem?_cons_zero, Out.bind, mAdd, asLM, List.length_map, hsz, if_true, mNoPart, mPart, mC, cutOf, asL, hc, mNil, mTupleOf]
    rw [hM] at i3
    clear e2 e3 hc
    simp only [m_L_words, mDef, b_L_words, List.length_cons, List.length_nil, List.map_cons, List.map_nil, List.replicate, List.cons_append, List.nil_append, mSeq, Nat.reduceAdd, if_true, i1, SO.then, i2, mRet, i3, Out.run]
  · rcases List.mem_append.mp (List.mem_of_mem_take hx) with z | z
    · exact P2 x z
    · exact P3 x z
end Gn

namespace Gn
open PySem L2 Mi
def stW (s : Ms) : W := .tup [rgW s.g, .tup (s.w.map W.int)]
/-- the rows of states, openings and digests, behind n steps -/
structure Pl (m : Int) (L1 L2 L3 : Nat) (s0 : Ms) (n : Nat) (st : Sto) (B : BS) : Prop where
  dg : DigB m st 3 1 2 B
  bg : Bg st
  l1 : st[L1]? = some (.lst ((List.range n).map fun k => stW (runM m k s0)))
  l2 : st[L2]? = some (.lst ((List.range n).map fun k => openW m (runM m k s0)))
  l3 : st[L3]? = some (.lst ((List.range n).map fun k => W.int (digN m (runM m k s0).g (runM m k s0).w)))
  out : ∀ a ∈ [0, L1, L2, L3], a ∉ fpB 1 2 B.es
  nd : [0, 1, 2, 3, 4, L1, L2, L3].Nodup
  tm : ∀ k, k ≤ n → AllT B.es (memRows m (runM m k s0).w)
  td : ∀ k, k ≤ n → TR B.es (digRow m (runM m k s0))
section
variable {m : Int} {L1 L2 L3 : Nat} {s0 : Ms} {n : Nat} {st st' : Sto} {B B' : BS}
theorem Pl.keep {A : List Nat} {L : List Row} (h : Pl m L1 L2 L3 s0 n st B) (g : Gm m 3 1 2 A st B st' B' L) (hb : Bg st') (hA : L1 ∉ A ∧ L2 ∉ A ∧ L3 ∉ A) : Pl m L1 L2 L3 s0 n st' B' := by
  have o := h.out
  refine ⟨g.inv, hb, g.rd h.l1 (o L1 (by simp)) hA.1, g.rd h.l2 (o L2 (by simp)) hA.2.1, g.rd h.l3 (o L3 (by simp)) hA.2.2, fun a ha => ?_, h.nd, fun k hk => g.keepT (h.tm k hk), fun k hk => g.tr (h.td k hk)⟩
  have hl : a < st.length := by
    simp only [List.mem_cons, List.not_mem_nil, or_false] at ha
    rcases ha with rfl | rfl | rfl | rfl
    · exact h.bg.len
    · exact (gE h.l1).1
    · exact (gE h.l2).1
    · exact (gE h.l3).1
  exact (g.safe hl (o a ha)).1
end
theorem rng_len {α : Type} (f : Nat → α) (n : Nat) : ((List.range n).map f).length = n := by simp
theorem rng_at {α : Type} (f : Nat → α) {n k : Nat} (h : k < n) : ((List.range n).map f)[k]? = some (f k) := by simp [h]
theorem rng_last {α : Type} (f : Nat → α) (n : Nat) : atI ((List.range n).map f ++ [f n]) (-1) = some (f n) := by rw [Mi.atI_last]; simp
/-- a step of the law -/
theorem t_turn1 {m : Int} (hm : 7 < m) (hm1 : m < 4611686018427387904) {L1 L2 L3 : Nat} {s0 : Ms} {i : Nat} (hi : i < 60) {A : List Nat} {st : Sto} {B : BS} (h : Pl m L1 L2 L3 s0 i st B) (hM : MhB m 3 1 2 4 (runM m i s0) A st B) (hA : ∀ a ∈ [0, L1, L2, L3], a ∉ A) (hB : B.n < 700000)
    (x0 x2 x3 x11 x12 x13 x14 : Option W) :
    ∃ st' B' A', l0_law [x0, some (.ref 0), x2, x3, some (.ref 1), some (.ref 3), some (.ref 4), some (.int (digN m (runM m i s0).g (runM m i s0).w)), some (.ref L1), some (.ref L2), some (.ref L3), x11, x12, x13, x14] st =
      .nx [x0, some (.ref 0), x2, x3, some (.ref 1), some (.ref 3), some (.ref 4), some (.int (digN m (runM m (i + 1) s0).g (runM m (i + 1) s0).w)), some (.ref L1), some (.ref L2), some (.ref L3), x11, x12, x13, x14] st' ∧
      Pl m L1 L2 L3 s0 (i + 1) st' B' ∧ MhB m 3 1 2 4 (runM m (i + 1) s0) A' st' B' ∧ (∀ a ∈ [0, L1, L2, L3], a ∉ A') ∧ B'.n ≤ B.n + 50 := by
  have hok := hM.ok
  have nd := h.nd
  have ne : ∀ a ∈ [0, L1, L2, L3], a ≠ 3 := by
    intro a ha z
    subst z
    simp at nd ha
    omega
  have nn : L1 ≠ L2 ∧ L1 ≠ L3 ∧ L2 ≠ L3 ∧ L1 ≠ 0 ∧ L2 ≠ 0 ∧ L3 ≠ 0 := by
    simp at nd
    omega
  obtain ⟨n12, n13, n23, n1, n2, n3⟩ := nn
  -- the state
  have er := hM.regs
  have ew := hM.words
  obtain ⟨ee, ho⟩ := hM.obj
  obtain ⟨s, hs⟩ : ∃ s, s = runM m i s0 := ⟨_, rfl⟩
  have hnx : runM m (i + 1) s0 = nx m s := by rw [hs]; rfl
  have Ls : ∀ k, k ≤ 61 → k ≤ 16777216 := fun k hk => by omega
  have g1 := Gm.set h.dg (ne L1 (by simp)) (h.out L1 (by simp)) (.lst (((List.range i).map fun k => stW (runM m k s0)) ++ [stW s]))
  obtain ⟨S1, hS1⟩ : ∃ S1, S1 = st.set L1 (.lst (((List.range i).map fun k => stW (runM m k s0)) ++ [stW s])) := ⟨_, rfl⟩
  rw [← hS1] at g1
  have hM1 := hM.keep g1 (fun a ha z => hA L1 (by simp) (by simp only [List.mem_singleton] at z; rwa [z] at ha))
  -- its opening
  obtain ⟨S2, e2, g2⟩ := t_openedX hM1
  rw [← hs] at e2 er ew
  have hM2 := hM1.keep g2 (by simp)
  have l2a : S2[L2]? = some (.lst ((List.range i).map fun k => openW m (runM m k s0))) := g2.rd (g1.rd h.l2 (h.out L2 (by simp)) (by simp; omega)) (h.out L2 (by simp)) (by simp)
  have g3 := Gm.set g2.inv (ne L2 (by simp)) (h.out L2 (by simp)) (.lst (((List.range i).map fun k => openW m (runM m k s0)) ++ [openW m s]))
  obtain ⟨S3, hS3⟩ : ∃ S3, S3 = S2.set L2 (.lst (((List.range i).map fun k => openW m (runM m k s0)) ++ [openW m s])) := ⟨_, rfl⟩
  rw [← hS3] at g3
  have hM3 := hM2.keep g3 (fun a ha z => hA L2 (by simp) (by simp only [List.mem_singleton] at z; rwa [z] at ha))
  -- its digest
  have l3a : S3[L3]? = some (.lst ((List.range i).map fun k => W.int (digN m (runM m k s0).g (runM m k s0).w))) := g3.rd (g2.rd (g1.rd h.l3 (h.out L3 (by simp)) (by simp; omega)) (h.out L3 (by simp)) (by simp)) (h.out L3 (by simp)) (by simp; omega)
  have g4 := Gm.set g3.inv (ne L3 (by simp)) (h.out L3 (by simp)) (.lst (((List.range i).map fun k => W.int (digN m (runM m k s0).g (runM m k s0).w)) ++ [W.int (digN m s.g s.w)]))
  obtain ⟨S4, hS4⟩ : ∃ S4, S4 = S3.set L3 (.lst (((List.range i).map fun k => W.int (digN m (runM m k s0).g (runM m k s0).w)) ++ [W.int (digN m s.g s.w)])) := ⟨_, rfl⟩
  rw [← hS4] at g4
  have hM4 := hM3.keep g4 (fun a ha z => hA L3 (by simp) (by simp only [List.mem_singleton] at z; rwa [z] at ha))
  have l2b : S4[L2]? = some (.lst (((List.range i).map fun k => openW m (runM m k s0)) ++ [openW m s])) := g4.rd (by rw [hS3, List.getElem?_set_self (gE l2a).1]) (h.out L2 (by simp)) (by simp; omega)
  have l1b : S4[L1]? = some (.lst (((List.range i).map fun k => stW (runM m k s0)) ++ [stW s])) := g4.rd (g3.rd (g2.rd (by rw [hS1, List.getElem?_set_self (gE h.l1).1]) (h.out L1 (by simp)) (by simp)) (h.out L1 (by simp)) (by simp; omega)) (h.out L1 (by simp)) (by simp; omega)
  have l3b : S4[L3]? = some (.lst (((List.range i).map fun k => W.int (digN m (runM m k s0).g (runM m k s0).w)) ++ [W.int (digN m s.g s.w)])) := by rw [hS4, List.getElem?_set_self (gE l3a).1]
  -- the step it shows
  rw [← hs] at hok
  obtain ⟨S5, B5, L5, e5, g5, hL5, -⟩ := t_stepofOwn hm hm1 g4.inv (by omega) hok
  have c5 := g5.cnt
  have hM5 := hM4.keep g5.gm (by simp)
  -- the step
  obtain ⟨S6, B6, A6, e6, hM6, g6, hA6⟩ := hM5.step hm (by omega) (by omega)
  have c6 := g6.cnt
  have w6 := nxRows_len m (runM m i s0)
  obtain ⟨e5o, ho5⟩ := hM5.obj
  -- its digest
  obtain ⟨S7, B7, e7, g7⟩ := hM6.digest hm hm1 (by omega)
  have c7 := g7.cnt
  simp only [List.length_cons, List.length_nil] at c7
  have hM7 := hM6.keep g7.gm (by simp)
  obtain ⟨e6o, ho6⟩ := hM6.obj
  obtain ⟨e7o, ho7⟩ := hM7.obj
  rw [← hs] at hM6 hM7 e7 g7 g6 ho6 ho7 hM5 ho5 w6 c6
  -- what stands
  have oB : ∀ a ∈ [0, L1, L2, L3], a < S4.length ∧ a ∉ fpB 1 2 B.es := fun a ha => ⟨by
    simp only [List.mem_cons, List.not_mem_nil, or_false] at ha
    rcases ha with rfl | rfl | rfl | rfl
    · have := h.bg.len; have := g1.only.1; have := g2.only.1; have := g3.only.1; have := g4.only.1; omega
    · exact (gE l1b).1
    · exact (gE l2b).1
    · exact (gE l3b).1, h.out a ha⟩
  have o5 : ∀ a ∈ [0, L1, L2, L3], a ∉ fpB 1 2 B5.es := fun a ha => (g5.gm.safe (oB a ha).1 (oB a ha).2).1
  have l5 := g5.only.1
  have o6 : ∀ a ∈ [0, L1, L2, L3], a ∉ fpB 1 2 B6.es := fun a ha => (g6.safe (by have := (oB a ha).1; omega) (o5 a ha)).1
  have l6 := g6.only.1
  have o7 : ∀ a ∈ [0, L1, L2, L3], a ∉ fpB 1 2 B7.es := fun a ha => (g7.gm.safe (by have := (oB a ha).1; omega) (o6 a ha)).1
  have all : ∀ a ∈ [0, L1, L2, L3], ∀ o, S4[a]? = some o → S7[a]? = some o := fun a ha o ho => g7.gm.rd (g6.rd (g5.gm.rd ho (oB a ha).2 (by simp)) (o5 a ha) (hA a ha)) (o6 a ha) (by simp)
  have hA7 : ∀ a ∈ [0, L1, L2, L3], a ∉ A6 := fun a ha z => (hA6 a z).elim (hA a ha) (fun q => by have := (oB a ha).1; omega)
  have bg4 : Bg S4 := g4.bag (g3.bag (g2.bag (g1.bag h.bg (h.out 0 (by simp)) (by simp; omega)) (h.out 0 (by simp)) (by simp)) (h.out 0 (by simp)) (by simp; omega)) (h.out 0 (by simp)) (by simp; omega)
  have bg7 : Bg S7 := by
    obtain ⟨o, z1, z2⟩ := bg4
    exact ⟨o, all 0 (by simp) o z1, z2⟩
  have l17 := all L1 (by simp) _ l1b
  have l27 := all L2 (by simp) _ l2b
  have l37 := all L3 (by simp) _ l3b
  have mono : ∀ r, TR B.es r → TR B7.es r := fun r hr => g7.gm.tr (g6.tr (g5.gm.tr (g4.tr (g3.tr (g2.tr (g1.tr hr))))))
  have hP : Pl m L1 L2 L3 s0 (i + 1) S7 B7 := by
    refine ⟨g7.inv, bg7, by rw [range_snoc, ← hs]; exact l17, by rw [range_snoc, ← hs]; exact l27, by rw [range_snoc, ← hs]; exact l37, o7, nd, fun k hk => ?_, fun k hk => ?_⟩
    · by_cases hki : k ≤ i
      · exact fun r hr => mono r (h.tm k hki r hr)
      · have : k = i + 1 := by omega
        subst this
        rw [hnx]
        have t5 : AllT B5.es (memRows m s.w) := g5.gm.keepT (g4.keepT (g3.keepT (g2.keepT (g1.keepT (by rw [hs]; exact h.tm i (by omega))))))
        exact g7.gm.keepT (mt_step hm hok t5 g6.told)
    · by_cases hki : k ≤ i
      · exact mono _ (h.td k hki)
      · have : k = i + 1 := by omega
        subst this
        rw [hnx]
        exact g7.gm.all _ (by simp)
  refine ⟨S7, B7, A6, ?_, hP, by rw [hnx]; exact hM7, hA7, by omega⟩
  rw [hnx, ← hs]
  rw [← hs] at ho
  have lnA : ((List.range i).map fun k => stW (runM m k s0)).length = i := rng_len _ _
  have lnB : ((List.range i).map fun k => openW m (runM m k s0)).length = i := rng_len _ _
  have lnC : ((List.range i).map fun k => W.int (digN m (runM m k s0).g (runM m k s0).w)).length = i := rng_len _ _
  have atB : atI (((List.range i).map fun k => openW m (runM m k s0)) ++ [openW m s]) (-1) = some (openW m s) := by rw [Mi.atI_last]; simp
  have atA : atI (((List.range i).map fun k => stW (runM m k s0)) ++ [stW s]) (-1) = some (stW s) := by rw [Mi.atI_last]; simp
  have atC : atI (((List.range i).map fun k => W.int (digN m (runM m k s0).g (runM m k s0).w)) ++ [W.int (digN m s.g s.w)]) (-1) = some (W.int (digN m s.g s.w)) := by rw [Mi.atI_last]; simp
  have hl1 := h.l1
  have st0 : atI [rgW s.g, W.tup (s.w.map W.int)] 0 = some (rgW s.g) := rfl
  have st3 : atI [W.int s.g.pc, W.int s.g.acc, W.int s.g.x, W.int s.g.mrk, W.int s.g.out, W.int s.g.cnt] 3 = some (W.int s.g.mrk) := rfl
  have hrest : s.g.mrk ≠ 0 → nx m s = s := fun hk => by unfold nx nxG nxT nxW; simp only [hk, if_false]
  have hstW : stW s = .tup [rgW s.g, .tup (s.w.map W.int)] := rfl
  have l2c := g1.rd h.l2 (h.out L2 (by simp)) (by simp; omega)
  unfold l0_law
  generalize ((List.range i).map fun k => stW (runM m k s0)) = QA at *
  generalize ((List.range i).map fun k => openW m (runM m k s0)) = QB at *
  generalize ((List.range i).map fun k => W.int (digN m (runM m k s0).g (runM m k s0).w)) = QC at *
  refine seq_nx (s1 := [x0, some (.ref 0), x2, x3, some (.ref 1), some (.ref 3), some (.ref 4), some (.int (digN m s.g s.w)), some (.ref L1), some (.ref L2), some (.ref L3), x11, x12, x13, x14]) (st1 := S1) (by
    rw [hS1, hstW]
    simp [hl1, ho, er, ew, sizeLine_eq, lnA, show i < 16777216 by omega]) ?_
  refine seq_nx (s1 := [x0, some (.ref 0), x2, x3, some (.ref 1), some (.ref 3), some (.ref 4), some (.int (digN m s.g s.w)), some (.ref L1), some (.ref L2), some (.ref L3), x11, x12, x13, x14]) (st1 := S3) (by
    rw [hS3]
    generalize openW m s = O at *
    simp [l2c, e2, l2a, sizeLine_eq, lnB, show i < 16777216 by omega]) ?_
  refine seq_nx (s1 := [x0, some (.ref 0), x2, x3, some (.ref 1), some (.ref 3), some (.ref 4), some (.int (digN m s.g s.w)), some (.ref L1), some (.ref L2), some (.ref L3), x11, x12, x13, x14]) (st1 := S4) (by
    rw [hS4]
    simp [l3a, sizeLine_eq, lnC, show i < 16777216 by omega]) ?_
  refine seq_nx (s1 := [x0, some (.ref 0), x2, x3, some (.ref 1), some (.ref 3), some (.ref 4), some (.int (digN m (nx m s).g (nx m s).w)), some (.ref L1), some (.ref L2), some (.ref L3), x11, x12, x13, x14]) (st1 := S5) (by
    generalize openW m s = O at *
    simp [l2b, atB, e5]) ?_
  refine seq_nx (s1 := [x0, some (.ref 0), x2, x3, some (.ref 1), some (.ref 3), some (.ref 4), some (.int (digN m (nx m s).g (nx m s).w)), some (.ref L1), some (.ref L2), some (.ref L3), x11, x12, x13, x14]) (st1 := S6) (by
    simp [ho5, e6]) ?_
  rw [hstW] at l17 atA
  by_cases hk : s.g.mrk = 0
  · simp [-mNe, mNe_ii, ho6, e7, l17, atA, st0, st3, hk]
  · have q : digN m (nx m s).g (nx m s).w = digN m s.g s.w := by rw [hrest hk]
    rw [q] at e7 ⊢
    simp [-mNe, mNe_ii, ho6, e7, l17, l37, atA, atC, st0, st3, hk]
end Gn

namespace Gn
open PySem L2 Mi
theorem stW_pv (s : Ms) : Pv 2 (stW s) := fun x hx => by
  simp at hx
  rcases hx with rfl | rfl
  · exact Pv.ints 0 (rgL s.g)
  · exact Pv.ints 0 s.w
theorem ints_inj {a b : List Int} (h : a.map W.int = b.map W.int) : a = b := by
  have e : ∀ l : List Int, (l.map W.int).map (fun w => match w with | .int i => i | _ => 0) = l := fun l => by rw [List.map_map]; exact List.map_id l
  rw [← e a, ← e b, h]
theorem t_taken {m : Int} (hm : 7 < m) (hm1 : m < 4611686018427387904) {j bk T : Nat} {st : Sto} {B : BS} (hD : DigB m st j bk T B) (hB : B.n < 800000) {s : Ms} (h : Ok m s) (d : Int) :
    ∃ st' B' L, m_L_taken [.ref j, .int d, openW m s] st = .ok (.bl (decide (d = digN m s.g s.w))) st' ∧ Gx m j bk T st B st' B' L ∧ L.length ≤ 40 := by
  by_cases hd : digN m s.g s.w = d
  · subst hd
    obtain ⟨st', B', L, e, g, hl, -⟩ := t_stepofOwn hm hm1 hD hB h
    refine ⟨st', B', L, ?_, g, hl⟩
    generalize openW m s = O at *
    simp only [m_L_taken, b_L_taken]
    simp [e]
  · obtain ⟨st', B', e, g⟩ := t_stepofNot hm hm1 hD hB h hd
    refine ⟨st', B', _, ?_, g, by simp⟩
    generalize openW m s = O at *
    simp only [m_L_taken, b_L_taken]
    simp [e, tabC, Ne.symm hd]
/-- one opening at another digest -/
theorem t_turn2 {m : Int} (hm : 7 < m) (hm1 : m < 4611686018427387904) {L1 L2 L3 : Nat} {s0 : Ms} (hok : Ok m s0) {N : Nat} (hN0 : 0 < N) (hN : N ≤ 60) {st : Sto} {B : BS} (h : Pl m L1 L2 L3 s0 N st B) (hB : B.n < 700000)
    (x0 x2 x3 x6 x7 x11 x12 x13 x14 : Option W) :
    ∃ st' B' y12 y13 y14, l1_law [x0, some (.ref 0), x2, x3, some (.ref 1), some (.ref 3), x6, x7, some (.ref L1), some (.ref L2), some (.ref L3), x11, x12, x13, x14] st =
      .nx [x0, some (.ref 0), x2, x3, some (.ref 1), some (.ref 3), x6, x7, some (.ref L1), some (.ref L2), some (.ref L3), x11, y12, y13, y14] st' ∧
      Pl m L1 L2 L3 s0 N st' B' ∧ B'.n ≤ B.n + 50 := by
  have nd := h.nd
  have nn : L1 ≠ 0 ∧ L2 ≠ 0 ∧ L3 ≠ 0 := by
    simp at nd
    omega
  obtain ⟨r1, s1, e1, k1, a0, a1⟩ := r_draw (N : Int) h.bg (by omega) (by omega)
  have g1 := Gm.rl h.dg k1 (by omega) (h.out 0 (by simp))
  have h1 := h.keep g1 k1.b (by simp; omega)
  obtain ⟨r2, s2, e2, k2, b0, b1⟩ := r_draw (N : Int) h1.bg (by omega) (by omega)
  have g2 := Gm.rl h1.dg k2 (by omega) (h1.out 0 (by simp))
  have h2 := h1.keep g2 k2.b (by simp; omega)
  obtain ⟨p, rfl⟩ : ∃ p : Nat, r1 = (p : Int) := ⟨r1.toNat, by omega⟩
  obtain ⟨q, rfl⟩ : ∃ q : Nat, r2 = (q : Int) := ⟨r2.toNat, by omega⟩
  have hp : p < N := by omega
  have hq : q < N := by omega
  have okp := ok_run hm hok p
  have okq := ok_run hm hok q
  obtain ⟨s3, B3, L, e3, g3, hL⟩ := t_taken hm hm1 h2.dg (by omega) okq (digN m (runM m p s0).g (runM m p s0).w)
  have h3 := h2.keep g3.gm (g3.gm.bag h2.bg (h2.out 0 (by simp)) (by simp)) (by simp)
  have c3 := g3.cnt
  have hcol := h3.dg.2.ob
  obtain ⟨c, ce, cn, ci⟩ := mEq_pv (by omega) (stW_pv (runM m p s0)) (stW_pv (runM m q s0)) s3
  have l1 := h3.l1
  have l2 := h3.l2
  have l3 := h3.l3
  have m3 := h.l3
  have m31 := h1.l3
  have m32 := h2.l3
  have m22 := h2.l2
  have lnC : ((List.range N).map fun k => W.int (digN m (runM m k s0).g (runM m k s0).w)).length = N := rng_len _ _
  have atp3 : atI ((List.range N).map fun k => W.int (digN m (runM m k s0).g (runM m k s0).w)) (p : Int) = some (.int (digN m (runM m p s0).g (runM m p s0).w)) := atI_nn (by omega) (by rw [Int.toNat_natCast]; exact rng_at _ hp)
  have atq3 : atI ((List.range N).map fun k => W.int (digN m (runM m k s0).g (runM m k s0).w)) (q : Int) = some (.int (digN m (runM m q s0).g (runM m q s0).w)) := atI_nn (by omega) (by rw [Int.toNat_natCast]; exact rng_at _ hq)
  have atq2 : atI ((List.range N).map fun k => openW m (runM m k s0)) (q : Int) = some (openW m (runM m q s0)) := atI_nn (by omega) (by rw [Int.toNat_natCast]; exact rng_at _ hq)
  have atp1 : atI ((List.range N).map fun k => stW (runM m k s0)) (p : Int) = some (stW (runM m p s0)) := atI_nn (by omega) (by rw [Int.toNat_natCast]; exact rng_at _ hp)
  have atq1 : atI ((List.range N).map fun k => stW (runM m k s0)) (q : Int) = some (stW (runM m q s0)) := atI_nn (by omega) (by rw [Int.toNat_natCast]; exact rng_at _ hq)
  have hbind : digN m (runM m p s0).g (runM m p s0).w = digN m (runM m q s0).g (runM m q s0).w → c = false → B3.c = true := by
    intro hd hc
    cases hB3 : B3.c with
    | true => rfl
    | false =>
      obtain ⟨w1, w2⟩ := states_bind (h3.dg.noc hB3) okp okq (h3.td p (by omega)) (h3.td q (by omega)) (h3.tm p (by omega)) (h3.tm q (by omega)) hd
      have : c = true := ci.mpr (by unfold stW; rw [w1, w2])
      rw [hc] at this
      cases this
  refine ⟨s3, B3, some (.int (p : Int)), some (.int (q : Int)), some (.bl (decide (digN m (runM m p s0).g (runM m p s0).w = digN m (runM m q s0).g (runM m q s0).w))), ?_, h3, by omega⟩
  generalize ((List.range N).map fun k => stW (runM m k s0)) = QA at *
  generalize ((List.range N).map fun k => openW m (runM m k s0)) = QB at *
  generalize ((List.range N).map fun k => W.int (digN m (runM m k s0).g (runM m k s0).w)) = QC at *
  generalize openW m (runM m q s0) = O at *
  generalize digN m (runM m p s0).g (runM m p s0).w = dp at *
  generalize digN m (runM m q s0).g (runM m q s0).w = dq at *
  generalize stW (runM m p s0) = sp at *
  generalize stW (runM m q s0) = sq at *
  unfold l1_law
  have lz : N ≤ 16777216 := by omega
  refine seq_nx (s1 := [x0, some (.ref 0), x2, x3, some (.ref 1), some (.ref 3), x6, x7, some (.ref L1), some (.ref L2), some (.ref L3), x11, some (.int (p : Int)), x13, x14]) (st1 := s1) (by simp [m3, lnC, lz, sizeLine_eq, e1]) ?_
  refine seq_nx (s1 := [x0, some (.ref 0), x2, x3, some (.ref 1), some (.ref 3), x6, x7, some (.ref L1), some (.ref L2), some (.ref L3), x11, some (.int (p : Int)), some (.int (q : Int)), x14]) (st1 := s2) (by simp [m31, lnC, lz, sizeLine_eq, e2]) ?_
  refine seq_nx (s1 := [x0, some (.ref 0), x2, x3, some (.ref 1), some (.ref 3), x6, x7, some (.ref L1), some (.ref L2), some (.ref L3), x11, some (.int (p : Int)), some (.int (q : Int)), some (.bl (decide (dp = dq)))]) (st1 := s3) (by simp [m32, m22, atp3, atq2, e3]) ?_
  refine seq_nx (s1 := [x0, some (.ref 0), x2, x3, some (.ref 1), some (.ref 3), x6, x7, some (.ref L1), some (.ref L2), some (.ref L3), x11, some (.int (p : Int)), some (.int (q : Int)), some (.bl (decide (dp = dq)))]) (st1 := s3) (by
    have q1 : ∀ (b : Bool) st, mNe (.bl b) (.bl b) st = .ok (.bl false) st := fun b st => by simp
    simp [-mNe, -mEq, mEq_ii, l3, atp3, atq3, q1]) ?_
  by_cases hd : dp = dq
  · cases c with
    | true => simp [-mNe, -mEq, l1, atp1, atq1, cn, hd]
    | false =>
      have hc := hbind hd rfl
      have ecol : m_Book_has_collision [.ref 1] s3 = .ok (.bl true) s3 := by
        simp only [m_Book_has_collision, b_Book_has_collision]
        simp [hcol, hc]
      simp [-mNe, -mEq, l1, atp1, atq1, cn, hd, hcol, ecol]
  · simp [-mNe, -mEq, hd]
end Gn

namespace Gn
open PySem L2 Mi
/-! ### a book made, digests made with it -/
abbrev bookF (T : Nat) (c : Bool) : Fl := [("_texts", .ref T), ("_collision", .bl c)]
abbrev digF (b m : Int) (w : W) : Fl := [("_bits", .int b), ("_modulus", .int m), ("_book", w)]
theorem mk_book (S : Sto) : m_Book_init [.ref S.length] (S ++ [.ins 1 []]) = .ok .non (S ++ [.ins 1 (bookF (S.length + 1) false), .dT []]) := by
  simp only [m_Book_init, b_Book_init]
  simp [putW]
theorem mk_dig (S : Sto) (b : Nat) (hb : b ≤ 61) (w : W) : m_Digests_init [.ref S.length, .int (b : Int), w] (S ++ [.ins 0 []]) = .ok .non (S ++ [.ins 0 (digF b (2 ^ b - 1) w)]) := by
  have h1 : (0 : Int) ≤ b := by omega
  have h2 : (b : Int) ≤ 1000000 := by omega
  simp only [m_Digests_init, b_Digests_init]
  simp [h1, h2, putW]
theorem mk_new {st : Sto} {j bk T : Nat} {b : Nat} {m : Int} (hj : st[j]? = some (.ins 0 (digF b m (.ref bk)))) (hb : st[bk]? = some (.ins 1 (bookF T false))) (hT : st[T]? = some (.dT [])) : DigB m st j bk T ⟨[], false, 0⟩ :=
  ⟨⟨b, hj⟩, ⟨hb, hT, by simp, by simp, by simp, by simp, by simp, by simp⟩⟩
end Gn

namespace Gn
open PySem L2 Mi
theorem law_true : ∀ ns : List Int, ns.length ≤ 63 → (∀ z ∈ ns, Builtin.Int.intBits z ≤ 1048576) → ∃ st, m_law [.xst (ns.map W.int)] [] = .ok (.bl true) st := by
  intro ns _ _
  obtain ⟨ebag, hS0⟩ := t_bag0 ns
  obtain ⟨r, s1, e1, b1, r0, r1⟩ := t_draw _ 0 4 hS0 (by omega) (by omega)
  have hl1 : s1.length = 1 := b1.1
  obtain ⟨b, m, hbi, ⟨k, hk1, hk2⟩, hb, h7, h1, hmb⟩ : ∃ (b : Nat) (m : Int), atI [W.int 61, W.int 31, W.int 13, W.int 7] r = some (.int (b : Int)) ∧
      (∃ k : Nat, List.findIdx? (fun z => eqV (toV z) (.int (b : Int))) [W.int 61, W.int 31, W.int 13, W.int 7] = some k ∧ atI [W.int 2305843009213693951, W.int 2147483647, W.int 8191, W.int 127] (k : Int) = some (.int m)) ∧ b ≤ 61 ∧ 7 < m ∧ m < 4611686018427387904 ∧ (2 : Int) ^ b - 1 = m := by
    have : r = 0 ∨ r = 1 ∨ r = 2 ∨ r = 3 := by omega
    rcases this with rfl | rfl | rfl | rfl
    · exact ⟨61, 2305843009213693951, rfl, ⟨0, rfl, rfl⟩, by omega, by omega, by omega, by decide⟩
    · exact ⟨31, 2147483647, rfl, ⟨1, rfl, rfl⟩, by omega, by omega, by omega, by decide⟩
    · exact ⟨13, 8191, rfl, ⟨2, rfl, rfl⟩, by omega, by omega, by omega, by decide⟩
    · exact ⟨7, 127, rfl, ⟨3, rfl, rfl⟩, by omega, by omega, by omega, by decide⟩
  simp only [toV] at hk1
  -- the book, the digests
  have ebk := mk_book s1
  obtain ⟨s2, hs2⟩ : ∃ s2, s2 = s1 ++ [Ob.ins 1 (bookF (s1.length + 1) false), .dT []] := ⟨_, rfl⟩
  rw [← hs2] at ebk
  have hl2 : s2.length = 3 := by rw [hs2]; simp [hl1]
  have emk := mk_dig s2 b hb (.ref 1)
  rw [hmb] at emk
  obtain ⟨s3, hs3⟩ : ∃ s3, s3 = s2 ++ [Ob.ins 0 (digF b m (.ref 1))] := ⟨_, rfl⟩
  rw [← hs3] at emk
  have hl3 : s3.length = 4 := by rw [hs3]; simp [hl2]
  rw [hl1] at hs2 ebk
  rw [hl2] at emk
  have a12 : s2[1]? = some (.ins 1 (bookF 2 false)) := by rw [hs2]; rw [List.getElem?_append_right (by omega), hl1]; rfl
  have a22 : s2[2]? = some (.dT []) := by rw [hs2]; rw [List.getElem?_append_right (by omega), hl1]; rfl
  have a33 : s3[3]? = some (.ins 0 (digF b m (.ref 1))) := by rw [hs3, ← hl2]; simp
  have a13 : s3[1]? = some (.ins 1 (bookF 2 false)) := by rw [hs3]; exact app_lt0 a12
  have a23 : s3[2]? = some (.dT []) := by rw [hs3]; exact app_lt0 a22
  have bg3 : Bg s3 := by rw [hs3, hs2]; exact ((Rl.of b1).b.app _).app _
  have D3 : DigB m s3 3 1 2 ⟨[], false, 0⟩ := mk_new a33 a13 a23
  -- its registers, its words
  obtain ⟨pc, acc, x, mk, out, cnt, s4, e4, b4, g1, g2, g3, g4, g5, g6⟩ := t_start s3 0 m bg3.sm h7 (by omega)
  obtain ⟨words, s5, e5, b5, w1, w2⟩ := t_words s4 0 b4.here
  have k45 := (Rl.of b4).trans (Rl.of b5)
  have hl5 : s5.length = 4 := by rw [b5.1, b4.1, hl3]
  have hgo : Good m ⟨pc, acc, x, mk, out, cnt⟩ := ⟨g1, g2, g3, g4, g5, g6⟩
  have n0 : 0 ∉ fpB 1 2 ([] : List Ent) := by simp [fpB]
  have D5 := (Gm.rl D3 k45 (by omega) n0).inv
  -- the machine
  obtain ⟨s6, B6, A, e6, m6, gm6, lo6⟩ := MhB.make (S := s5) h7 (by omega) w1 D5 (by simp) hgo w2
  rw [hl5] at e6 m6 lo6
  obtain ⟨s0, hs0⟩ : ∃ s0 : Ms, s0 = ⟨⟨pc, acc, x, mk, out, cnt⟩, [], words⟩ := ⟨_, rfl⟩
  rw [← hs0] at m6
  have c6 := gm6.cnt
  rw [memRows_len m w1] at c6
  simp only [Nat.zero_add] at c6
  have bg6 := gm6.bag k45.b n0 (by simp)
  have o6 := (gm6.safe k45.b.len n0).1
  -- its digest
  obtain ⟨s7, B7, e7, g7⟩ := m6.digest h7 h1 (by omega)
  have c7 := g7.cnt
  simp only [List.length_cons, List.length_nil] at c7
  have m7 := m6.keep g7.gm (by simp)
  have bg7 := g7.gm.bag bg6 o6 (by simp)
  have o7 := (g7.gm.safe bg6.len o6).1
  obtain ⟨eo6, ho6⟩ := m6.obj
  -- the rows
  obtain ⟨s8, hs8⟩ : ∃ s8, s8 = s7 ++ [Ob.lst []] := ⟨_, rfl⟩
  obtain ⟨s9, hs9⟩ : ∃ s9, s9 = s8 ++ [Ob.lst []] := ⟨_, rfl⟩
  obtain ⟨sA, hsA⟩ : ∃ sA, sA = s9 ++ [Ob.lst []] := ⟨_, rfl⟩
  have hl8 : s8.length = s7.length + 1 := by rw [hs8]; simp
  have hl9 : s9.length = s7.length + 2 := by rw [hs9]; simp [hl8]
  have gA : Gm m 3 1 2 [] s7 B7 sA B7 [] := by
    rw [hsA, hs9, hs8, List.append_assoc, List.append_assoc]
    exact Gm.app m7.dig _
  have mA := m7.keep gA (by simp)
  have bgA := gA.bag bg7 o7 (by simp)
  have lt7 := m7.dig.lt
  have ltA := m7.lt
  have h37 : 4 < s7.length := ltA 4 m7.self
  have z1 : sA[s7.length]? = some (.lst []) := by rw [hsA, hs9, hs8]; simp
  have z2 : sA[s8.length]? = some (.lst []) := by rw [hsA, hs9]; simp
  have z3 : sA[s9.length]? = some (.lst []) := by rw [hsA]; simp
  obtain ⟨q, sB, eB, kB, q0, q1⟩ := r_draw 60 bgA (by omega) (by omega)
  have gB := Gm.rl gA.inv kB (by omega) o7
  have mB := mA.keep gB (fun a ha z => by simp only [List.mem_singleton] at z; subst z; have := lo6 0 ha; omega)
  obtain ⟨N, hN⟩ : ∃ N : Nat, 1 + q = (N : Int) := ⟨(1 + q).toNat, by omega⟩
  have hND : [0, 1, 2, 3, 4, s7.length, s8.length, s9.length].Nodup := by
    simp
    omega
  have fo : ∀ a ∈ [0, s7.length, s8.length, s9.length], a ∉ fpB 1 2 B7.es := by
    intro a ha z
    have := lt7 a z
    simp only [List.mem_cons, List.not_mem_nil, or_false] at ha
    rcases ha with rfl | rfl | rfl | rfl
    · exact o7 z
    · omega
    · omega
    · omega
  have P0 : Pl m s7.length s8.length s9.length s0 0 sB B7 := by
    refine ⟨gB.inv, kB.b, kB.rd z1 (by omega), kB.rd z2 (by omega), kB.rd z3 (by omega), fo, hND, fun k hk => ?_, fun k hk => ?_⟩
    · have : k = 0 := by omega
      subst this
      have t := gm6.all
      rw [show words = s0.w by rw [hs0]] at t
      exact g7.gm.keepT t
    · have : k = 0 := by omega
      subst this
      exact g7.gm.all _ (by simp [runM])
  have dA : ∀ a ∈ [0, s7.length, s8.length, s9.length], a ∉ A := by
    intro a ha z
    have h1 := lo6 a z
    have h2 := ltA a z
    simp only [List.mem_cons, List.not_mem_nil, or_false] at ha
    rcases ha with rfl | rfl | rfl | rfl <;> omega
  -- the run
  obtain ⟨SC, sC, hlp, ⟨y11, hSC⟩, BC, AC, PC, mC, dC, nC⟩ := loop_st (ws := rngW 0 N) (g := mGN 11) (n := N)
    (s := [some (.xst (ns.map W.int)), some (.ref 0), some (.int (b : Int)), some (.int m), some (.ref 1), some (.ref 3), some (.ref 4), some (.int (digN m s0.g s0.w)), some (.ref s7.length), some (.ref s8.length), some (.ref s9.length), none, none, none, none]) (st := sB) (body := l0_law) (rngW_len 0 N)
    (fun i s st => (∃ x11 : Option W, s = [some (.xst (ns.map W.int)), some (.ref 0), some (.int (b : Int)), some (.int m), some (.ref 1), some (.ref 3), some (.ref 4), some (.int (digN m (runM m i s0).g (runM m i s0).w)), some (.ref s7.length), some (.ref s8.length), some (.ref s9.length), x11, none, none, none]) ∧
      ∃ B A, Pl m s7.length s8.length s9.length s0 i st B ∧ MhB m 3 1 2 4 (runM m i s0) A st B ∧ (∀ a ∈ [0, s7.length, s8.length, s9.length], a ∉ A) ∧ B.n ≤ 600 + 50 * i)
    ⟨⟨none, rfl⟩, B7, A, P0, mB, dA, by omega⟩ (by
      rintro i w s st hw ⟨⟨x11, rfl⟩, B, A, P, M, d, nB⟩
      have hi : i < N := by
        have := (gE hw).1
        rwa [rngW_len] at this
      refine ⟨_, _, rfl, ?_⟩
      obtain ⟨st', B', A', e, P', M', d', n'⟩ := t_turn1 h7 h1 (by omega) P M d (by omega) (some (.xst (ns.map W.int))) (some (.int (b : Int))) (some (.int m)) (some w) none none none
      simp only [mGN, List.set]
      rw [e]
      exact ⟨⟨_, rfl⟩, B', A', P', M', d', by omega⟩)
  subst hSC
  -- the other openings
  have ok0 : Ok m s0 := m6.ok
  obtain ⟨SD, sD, hlp2, ⟨y1, y2, y3, y4, rfl⟩, -⟩ := loop_nx (ws := rngW 0 20) (g := mGN 11) (n := 20)
    (s := [some (.xst (ns.map W.int)), some (.ref 0), some (.int (b : Int)), some (.int m), some (.ref 1), some (.ref 3), some (.ref 4), some (.int (digN m (runM m N s0).g (runM m N s0).w)), some (.ref s7.length), some (.ref s8.length), some (.ref s9.length), y11, none, none, none]) (st := sC) (body := l1_law) (rngW_len 0 20)
    (fun i s st => (∃ y1 y2 y3 y4, s = [some (.xst (ns.map W.int)), some (.ref 0), some (.int (b : Int)), some (.int m), some (.ref 1), some (.ref 3), some (.ref 4), some (.int (digN m (runM m N s0).g (runM m N s0).w)), some (.ref s7.length), some (.ref s8.length), some (.ref s9.length), y1, y2, y3, y4]) ∧
      ∃ B, Pl m s7.length s8.length s9.length s0 N st B ∧ B.n ≤ 4000 + 50 * i)
    ⟨⟨_, _, _, _, rfl⟩, BC, PC, by omega⟩ (by
      rintro i w s st hw ⟨⟨y1, y2, y3, y4, rfl⟩, B, P, nB⟩
      have hi : i < 20 := by
        have := (gE hw).1
        rwa [rngW_len] at this
      obtain ⟨st', B', z2, z3, z4, e, P', n'⟩ := t_turn2 h7 h1 ok0 (N := N) (by omega) (by omega) P (by omega) (some (.xst (ns.map W.int))) (some (.int (b : Int))) (some (.int m)) (some (.ref 4)) (some (.int (digN m (runM m N s0).g (runM m N s0).w))) (some w) y2 y3 y4
      exact ⟨_, _, rfl, _, _, .inl e, ⟨_, _, _, _, rfl⟩, B', P', by omega⟩)
  refine ⟨sD, defX_rt rfl ?_⟩
  show b_law [some (.xst (ns.map W.int)), none, none, none, none, none, none, none, none, none, none, none, none, none, none] [] = _
  unfold b_law
  refine seq_nx (by simp [ebag]; exact ⟨rfl, rfl⟩) ?_
  refine seq_nx (by simp [e1, hbi, sizeLine_eq]; exact ⟨rfl, rfl⟩) ?_
  refine seq_nx (by simp [hk1, hk2, sizeLine_eq]; exact ⟨rfl, rfl⟩) ?_
  refine seq_nx (s1 := [some (.xst (ns.map W.int)), some (.ref 0), some (.int (b : Int)), some (.int m), some (.ref 1), none, none, none, none, none, none, none, none, none, none]) (st1 := s2) (by simp [hl1, ebk, a12]) ?_
  refine seq_nx (s1 := [some (.xst (ns.map W.int)), some (.ref 0), some (.int (b : Int)), some (.int m), some (.ref 1), some (.ref 3), none, none, none, none, none, none, none, none, none]) (st1 := s3) (by simp [hl2, emk, a33]) ?_
  refine seq_nx (s1 := [some (.xst (ns.map W.int)), some (.ref 0), some (.int (b : Int)), some (.int m), some (.ref 1), some (.ref 3), some (.ref 4), none, none, none, none, none, none, none, none]) (st1 := s6) (by simp [e4, e5, hl5, e6, ho6]) ?_
  refine seq_nx (s1 := [some (.xst (ns.map W.int)), some (.ref 0), some (.int (b : Int)), some (.int m), some (.ref 1), some (.ref 3), some (.ref 4), some (.int (digN m s0.g s0.w)), none, none, none, none, none, none, none]) (st1 := s7) (by simp [ho6, e7]) ?_
  refine seq_nx (s1 := [some (.xst (ns.map W.int)), some (.ref 0), some (.int (b : Int)), some (.int m), some (.ref 1), some (.ref 3), some (.ref 4), some (.int (digN m s0.g s0.w)), some (.ref s7.length), none, none, none, none, none, none]) (st1 := s8) (by rw [hs8]; simp [sizeLine_eq]) ?_
  refine seq_nx (s1 := [some (.xst (ns.map W.int)), some (.ref 0), some (.int (b : Int)), some (.int m), some (.ref 1), some (.ref 3), some (.ref 4), some (.int (digN m s0.g s0.w)), some (.ref s7.length), some (.ref s8.length), none, none, none, none, none]) (st1 := s9) (by rw [hs9]; simp [sizeLine_eq]) ?_
  refine seq_nx (s1 := [some (.xst (ns.map W.int)), some (.ref 0), some (.int (b : Int)), some (.int m), some (.ref 1), some (.ref 3), some (.ref 4), some (.int (digN m s0.g s0.w)), some (.ref s7.length), some (.ref s8.length), some (.ref s9.length), none, none, none, none]) (st1 := sA) (by rw [hsA]; simp [sizeLine_eq]) ?_
  refine seq_nx (mFor_vals (rng1_nat (k := N) (st1 := sB) (by simp [eB, hN]) (by omega)) (rngW_len 0 N) hlp) ?_
  refine seq_nx (mFor_vals (rng1_nat (k := 20) (st1 := sC) (by simp) (by omega)) (rngW_len 0 20) hlp2) ?_
  simp
end Gn

namespace Gn
open PySem L2 Mi
/-! ### what the top has written -/
theorem all_mk {l : PySem.W.OpenLaw} {w : World} {K : PySem.W.Frag} {h : Heap} {mg : Str → Option Value} {fa : Addr} (X : K.In h) (G : h.Ns mainGlobals mg) (hfa : mg "law" = some (.ref fa))
    {f_Machine_told : Addr} {od_Machine_told an_Machine_told : Option Addr} {sl_Machine_told : Array (Option Value)} {oc_Machine_told kV_Machine_told dc_Machine_told pm_Machine_told cd_Machine_told ct_Machine_told : Value}
    {f_Memory_words : Addr} {od_Memory_words an_Memory_words : Option Addr} {sl_Memory_words : Array (Option Value)} {oc_Memory_words kV_Memory_words dc_Memory_words pm_Memory_words cd_Memory_words ct_Memory_words : Value}
    {f_Machine_words : Addr} {od_Machine_words an_Machine_words : Option Addr} {sl_Machine_words : Array (Option Value)} {oc_Machine_words kV_Machine_words dc_Machine_words pm_Machine_words cd_Machine_words ct_Machine_words : Value}
    {f_Memory_word : Addr} {od_Memory_word an_Memory_word : Option Addr} {sl_Memory_word : Array (Option Value)} {oc_Memory_word kV_Memory_word dc_Memory_word pm_Memory_word cd_Memory_word ct_Memory_word : Value}
    {f_Machine_word : Addr} {od_Machine_word an_Machine_word : Option Addr} {sl_Machine_word : Array (Option Value)} {oc_Machine_word kV_Machine_word dc_Machine_word pm_Machine_word cd_Machine_word ct_Machine_word : Value}
    {f_Machine_registers : Addr} {od_Machine_registers an_Machine_registers : Option Addr} {sl_Machine_registers : Array (Option Value)} {oc_Machine_registers kV_Machine_registers dc_Machine_registers pm_Machine_registers cd_Machine_registers ct_Machine_registers : Value}
    {f_Memory_root : Addr} {od_Memory_root an_Memory_root : Option Addr} {sl_Memory_root : Array (Option Value)} {oc_Memory_root kV_Memory_root dc_Memory_root pm_Memory_root cd_Memory_root ct_Memory_root : Value}
    {f_Machine_root : Addr} {od_Machine_root an_Machine_root : Option Addr} {sl_Machine_root : Array (Option Value)} {oc_Machine_root kV_Machine_root dc_Machine_root pm_Machine_root cd_Machine_root ct_Machine_root : Value}
    {f_Book_add : Addr} {od_Book_add an_Book_add : Option Addr} {sl_Book_add : Array (Option Value)} {oc_Book_add kV_Book_add dc_Book_add pm_Book_add cd_Book_add ct_Book_add : Value}
    {f_Digests_kept : Addr} {od_Digests_kept an_Digests_kept : Option Addr} {sl_Digests_kept : Array (Option Value)} {oc_Digests_kept kV_Digests_kept dc_Digests_kept pm_Digests_kept cd_Digests_kept ct_Digests_kept : Value}
    {f_Digests_state : Addr} {od_Digests_state an_Digests_state : Option Addr} {sl_Digests_state : Array (Option Value)} {oc_Digests_state kV_Digests_state dc_Digests_state pm_Digests_state cd_Digests_state ct_Digests_state : Value}
    {f_Machine_digest : Addr} {od_Machine_digest an_Machine_digest : Option Addr} {sl_Machine_digest : Array (Option Value)} {oc_Machine_digest kV_Machine_digest dc_Machine_digest pm_Machine_digest cd_Machine_digest ct_Machine_digest : Value}
    {f_Memory_path : Addr} {od_Memory_path an_Memory_path : Option Addr} {sl_Memory_path : Array (Option Value)} {oc_Memory_path kV_Memory_path dc_Memory_path pm_Memory_path cd_Memory_path ct_Memory_path : Value}
    {f_Machine_path : Addr} {od_Machine_path an_Machine_path : Option Addr} {sl_Machine_path : Array (Option Value)} {oc_Machine_path kV_Machine_path dc_Machine_path pm_Machine_path cd_Machine_path ct_Machine_path : Value}
    {f_name_of : Addr} {od_name_of an_name_of : Option Addr} {sl_name_of : Array (Option Value)} {oc_name_of kV_name_of dc_name_of pm_name_of cd_name_of ct_name_of : Value}
    {f_data_of : Addr} {od_data_of an_data_of : Option Addr} {sl_data_of : Array (Option Value)} {oc_data_of kV_data_of dc_data_of pm_data_of cd_data_of ct_data_of : Value}
    {f_wrapped : Addr} {od_wrapped an_wrapped : Option Addr} {sl_wrapped : Array (Option Value)} {oc_wrapped kV_wrapped dc_wrapped pm_wrapped cd_wrapped ct_wrapped : Value}
    {f_compared : Addr} {od_compared an_compared : Option Addr} {sl_compared : Array (Option Value)} {oc_compared kV_compared dc_compared pm_compared cd_compared ct_compared : Value}
    {f_op : Addr} {od_op an_op : Option Addr} {sl_op : Array (Option Value)} {oc_op kV_op dc_op pm_op cd_op ct_op : Value}
    {f_mark_of : Addr} {od_mark_of an_mark_of : Option Addr} {sl_mark_of : Array (Option Value)} {oc_mark_of kV_mark_of dc_mark_of pm_mark_of cd_mark_of ct_mark_of : Value}
    {f_halted : Addr} {od_halted an_halted : Option Addr} {sl_halted : Array (Option Value)} {oc_halted kV_halted dc_halted pm_halted cd_halted ct_halted : Value}
    {f_Digests_fold : Addr} {od_Digests_fold an_Digests_fold : Option Addr} {sl_Digests_fold : Array (Option Value)} {oc_Digests_fold kV_Digests_fold dc_Digests_fold pm_Digests_fold cd_Digests_fold ct_Digests_fold : Value}
    {f_Digests_leaf : Addr} {od_Digests_leaf an_Digests_leaf : Option Addr} {sl_Digests_leaf : Array (Option Value)} {oc_Digests_leaf kV_Digests_leaf dc_Digests_leaf pm_Digests_leaf cd_Digests_leaf ct_Digests_leaf : Value}
    {f_pc_behind : Addr} {od_pc_behind an_pc_behind : Option Addr} {sl_pc_behind : Array (Option Value)} {oc_pc_behind kV_pc_behind dc_pc_behind pm_pc_behind cd_pc_behind ct_pc_behind : Value}
    {f_acc_behind : Addr} {od_acc_behind an_acc_behind : Option Addr} {sl_acc_behind : Array (Option Value)} {oc_acc_behind kV_acc_behind dc_acc_behind pm_acc_behind cd_acc_behind ct_acc_behind : Value}
    {f_done_by : Addr} {od_done_by an_done_by : Option Addr} {sl_done_by : Array (Option Value)} {oc_done_by kV_done_by dc_done_by pm_done_by cd_done_by ct_done_by : Value}
    {f_Memory_change : Addr} {od_Memory_change an_Memory_change : Option Addr} {sl_Memory_change : Array (Option Value)} {oc_Memory_change kV_Memory_change dc_Memory_change pm_Memory_change cd_Memory_change ct_Memory_change : Value}
    {f_Machine_step : Addr} {od_Machine_step an_Machine_step : Option Addr} {sl_Machine_step : Array (Option Value)} {oc_Machine_step kV_Machine_step dc_Machine_step pm_Machine_step cd_Machine_step ct_Machine_step : Value}
    {f_L_bag : Addr} {od_L_bag an_L_bag : Option Addr} {sl_L_bag : Array (Option Value)} {oc_L_bag kV_L_bag dc_L_bag pm_L_bag cd_L_bag ct_L_bag : Value}
    {f_L_draw : Addr} {od_L_draw an_L_draw : Option Addr} {sl_L_draw : Array (Option Value)} {oc_L_draw kV_L_draw dc_L_draw pm_L_draw cd_L_draw ct_L_draw : Value}
    {f_Book_init : Addr} {od_Book_init an_Book_init : Option Addr} {sl_Book_init : Array (Option Value)} {oc_Book_init kV_Book_init dc_Book_init pm_Book_init cd_Book_init ct_Book_init : Value}
    {f_Digests_init : Addr} {od_Digests_init an_Digests_init : Option Addr} {sl_Digests_init : Array (Option Value)} {oc_Digests_init kV_Digests_init dc_Digests_init pm_Digests_init cd_Digests_init ct_Digests_init : Value}
    {f_folded : Addr} {od_folded an_folded : Option Addr} {sl_folded : Array (Option Value)} {oc_folded kV_folded dc_folded pm_folded cd_folded ct_folded : Value}
    {f_Memory_init : Addr} {od_Memory_init an_Memory_init : Option Addr} {sl_Memory_init : Array (Option Value)} {oc_Memory_init kV_Memory_init dc_Memory_init pm_Memory_init cd_Memory_init ct_Memory_init : Value}
    {f_Machine_init : Addr} {od_Machine_init an_Machine_init : Option Addr} {sl_Machine_init : Array (Option Value)} {oc_Machine_init kV_Machine_init dc_Machine_init pm_Machine_init cd_Machine_init ct_Machine_init : Value}
    {f_L_start : Addr} {od_L_start an_L_start : Option Addr} {sl_L_start : Array (Option Value)} {oc_L_start kV_L_start dc_L_start pm_L_start cd_L_start ct_L_start : Value}
    {f_L_word : Addr} {od_L_word an_L_word : Option Addr} {sl_L_word : Array (Option Value)} {oc_L_word kV_L_word dc_L_word pm_L_word cd_L_word ct_L_word : Value}
    {f_L_words : Addr} {od_L_words an_L_words : Option Addr} {sl_L_words : Array (Option Value)} {oc_L_words kV_L_words dc_L_words pm_L_words cd_L_words ct_L_words : Value}
    {f_opened : Addr} {od_opened an_opened : Option Addr} {sl_opened : Array (Option Value)} {oc_opened kV_opened dc_opened pm_opened cd_opened ct_opened : Value}
    {f_must : Addr} {od_must an_must : Option Addr} {sl_must : Array (Option Value)} {oc_must kV_must dc_must pm_must cd_must ct_must : Value}
    {f_is_integer : Addr} {od_is_integer an_is_integer : Option Addr} {sl_is_integer : Array (Option Value)} {oc_is_integer kV_is_integer dc_is_integer pm_is_integer cd_is_integer ct_is_integer : Value}
    {f_is_word : Addr} {od_is_word an_is_word : Option Addr} {sl_is_word : Array (Option Value)} {oc_is_word kV_is_word dc_is_word pm_is_word cd_is_word ct_is_word : Value}
    {f_Digests_is_digest : Addr} {od_Digests_is_digest an_Digests_is_digest : Option Addr} {sl_Digests_is_digest : Array (Option Value)} {oc_Digests_is_digest kV_Digests_is_digest dc_Digests_is_digest pm_Digests_is_digest cd_Digests_is_digest ct_Digests_is_digest : Value}
    {f_are_registers : Addr} {od_are_registers an_are_registers : Option Addr} {sl_are_registers : Array (Option Value)} {oc_are_registers kV_are_registers dc_are_registers pm_are_registers cd_are_registers ct_are_registers : Value}
    {f_is_part : Addr} {od_is_part an_is_part : Option Addr} {sl_is_part : Array (Option Value)} {oc_is_part kV_is_part dc_is_part pm_is_part cd_is_part ct_is_part : Value}
    {f_is_opening : Addr} {od_is_opening an_is_opening : Option Addr} {sl_is_opening : Array (Option Value)} {oc_is_opening kV_is_opening dc_is_opening pm_is_opening cd_is_opening ct_is_opening : Value}
    {f_root_by : Addr} {od_root_by an_root_by : Option Addr} {sl_root_by : Array (Option Value)} {oc_root_by kV_root_by dc_root_by pm_root_by cd_root_by ct_root_by : Value}
    {f_root_with : Addr} {od_root_with an_root_with : Option Addr} {sl_root_with : Array (Option Value)} {oc_root_with kV_root_with dc_root_with pm_root_with cd_root_with ct_root_with : Value}
    {f_step_of : Addr} {od_step_of an_step_of : Option Addr} {sl_step_of : Array (Option Value)} {oc_step_of kV_step_of dc_step_of pm_step_of cd_step_of ct_step_of : Value}
    {f_L_taken : Addr} {od_L_taken an_L_taken : Option Addr} {sl_L_taken : Array (Option Value)} {oc_L_taken kV_L_taken dc_L_taken pm_L_taken cd_L_taken ct_L_taken : Value}
    {f_Book_has_collision : Addr} {od_Book_has_collision an_Book_has_collision : Option Addr} {sl_Book_has_collision : Array (Option Value)} {oc_Book_has_collision kV_Book_has_collision dc_Book_has_collision pm_Book_has_collision cd_Book_has_collision ct_Book_has_collision : Value}
    {f_law : Addr} {od_law an_law : Option Addr} {sl_law : Array (Option Value)} {oc_law kV_law dc_law pm_law cd_law ct_law : Value}
    {C_Book : Addr}
    {C_Digests : Addr}
    {C_Memory : Addr}
    {C_Machine : Addr}
    {C_CourtError : Addr}
    {C_BadOpening : Addr}
    {t_FIRST_STATE : Tok}
    {t_ARGUMENTS : Tok}
    {p_NAMES : Addr} {qd_NAMES : Option Addr} {qs_NAMES : Array (Option Value)} {qi_NAMES : Array Value} {qn_NAMES : Nat}
    {t_PLACES_machine : Tok}
    {p_CHANGERS : Addr} {qd_CHANGERS : Option Addr} {qs_CHANGERS : Array (Option Value)} {qi_CHANGERS : Array Value} {qn_CHANGERS : Nat}
    {p_READERS : Addr} {qd_READERS : Option Addr} {qs_READERS : Array (Option Value)} {qi_READERS : Array Value} {qn_READERS : Nat}
    {p_SIGNS : Addr} {qd_SIGNS : Option Addr} {qs_SIGNS : Array (Option Value)} {qi_SIGNS : Array Value} {qn_SIGNS : Nat}
    {t_MOST_WORD : Tok}
    {t_MOST_TOLD : Tok}
    {t_PLACES_trees : Tok}
    {p_MARKS : Addr} {qs_MARKS : Array (Option Value)} {qi_MARKS : Array Value} {qn_MARKS : Nat}
    {t_DEPTH : Tok}
    (aC_Book : PySem.W.nsIn K mainGlobals "Book" = some (some (.ref C_Book)))
    (aC_Digests : PySem.W.nsIn K mainGlobals "Digests" = some (some (.ref C_Digests)))
    (aC_Memory : PySem.W.nsIn K mainGlobals "Memory" = some (some (.ref C_Memory)))
    (aC_Machine : PySem.W.nsIn K mainGlobals "Machine" = some (some (.ref C_Machine)))
    (aC_CourtError : PySem.W.nsIn K mainGlobals "CourtError" = some (some (.ref C_CourtError)))
    (aC_BadOpening : PySem.W.nsIn K mainGlobals "BadOpening" = some (some (.ref C_BadOpening)))
    (a_Machine_told : PySem.W.findIn K (.ref C_Machine) "told" = some (some (.ref f_Machine_told)))
    (i_Machine_told : PySem.W.isFn K (.ref f_Machine_told) = true)
    (l_Machine_told : K.lookup f_Machine_told = some ⟨oc_Machine_told, od_Machine_told, .func (PySem.W.fnOf "told" "Machine.told" (defArgs s_Machine_told) (defBody s_Machine_told) (defScope s_Machine_told) .none kV_Machine_told dc_Machine_told pm_Machine_told an_Machine_told cd_Machine_told ct_Machine_told), sl_Machine_told⟩)
    (c_Machine_told : PySem.W.codeIn K cd_Machine_told "Machine.told" = true)
    (k_Machine_told : PySem.W.keepIn K (.ref f_Machine_told) = true)
    (a_Memory_words : PySem.W.findIn K (.ref C_Memory) "words" = some (some (.ref f_Memory_words)))
    (i_Memory_words : PySem.W.isFn K (.ref f_Memory_words) = true)
    (l_Memory_words : K.lookup f_Memory_words = some ⟨oc_Memory_words, od_Memory_words, .func (PySem.W.fnOf "words" "Memory.words" (defArgs s_Memory_words) (defBody s_Memory_words) (defScope s_Memory_words) .none kV_Memory_words dc_Memory_words pm_Memory_words an_Memory_words cd_Memory_words ct_Memory_words), sl_Memory_words⟩)
    (c_Memory_words : PySem.W.codeIn K cd_Memory_words "Memory.words" = true)
    (k_Memory_words : PySem.W.keepIn K (.ref f_Memory_words) = true)
    (a_Machine_words : PySem.W.findIn K (.ref C_Machine) "words" = some (some (.ref f_Machine_words)))
    (i_Machine_words : PySem.W.isFn K (.ref f_Machine_words) = true)
    (l_Machine_words : K.lookup f_Machine_words = some ⟨oc_Machine_words, od_Machine_words, .func (PySem.W.fnOf "words" "Machine.words" (defArgs s_Machine_words) (defBody s_Machine_words) (defScope s_Machine_words) .none kV_Machine_words dc_Machine_words pm_Machine_words an_Machine_words cd_Machine_words ct_Machine_words), sl_Machine_words⟩)
    (c_Machine_words : PySem.W.codeIn K cd_Machine_words "Machine.words" = true)
    (k_Machine_words : PySem.W.keepIn K (.ref f_Machine_words) = true)
    (a_Memory_word : PySem.W.findIn K (.ref C_Memory) "word" = some (some (.ref f_Memory_word)))
    (i_Memory_word : PySem.W.isFn K (.ref f_Memory_word) = true)
    (l_Memory_word : K.lookup f_Memory_word = some ⟨oc_Memory_word, od_Memory_word, .func (PySem.W.fnOf "word" "Memory.word" (defArgs s_Memory_word) (defBody s_Memory_word) (defScope s_Memory_word) .none kV_Memory_word dc_Memory_word pm_Memory_word an_Memory_word cd_Memory_word ct_Memory_word), sl_Memory_word⟩)
    (c_Memory_word : PySem.W.codeIn K cd_Memory_word "Memory.word" = true)
    (k_Memory_word : PySem.W.keepIn K (.ref f_Memory_word) = true)
    (a_Machine_word : PySem.W.findIn K (.ref C_Machine) "word" = some (some (.ref f_Machine_word)))
    (i_Machine_word : PySem.W.isFn K (.ref f_Machine_word) = true)
    (l_Machine_word : K.lookup f_Machine_word = some ⟨oc_Machine_word, od_Machine_word, .func (PySem.W.fnOf "word" "Machine.word" (defArgs s_Machine_word) (defBody s_Machine_word) (defScope s_Machine_word) .none kV_Machine_word dc_Machine_word pm_Machine_word an_Machine_word cd_Machine_word ct_Machine_word), sl_Machine_word⟩)
    (c_Machine_word : PySem.W.codeIn K cd_Machine_word "Machine.word" = true)
    (k_Machine_word : PySem.W.keepIn K (.ref f_Machine_word) = true)
    (a_Machine_registers : PySem.W.findIn K (.ref C_Machine) "registers" = some (some (.ref f_Machine_registers)))
    (i_Machine_registers : PySem.W.isFn K (.ref f_Machine_registers) = true)
    (l_Machine_registers : K.lookup f_Machine_registers = some ⟨oc_Machine_registers, od_Machine_registers, .func (PySem.W.fnOf "registers" "Machine.registers" (defArgs s_Machine_registers) (defBody s_Machine_registers) (defScope s_Machine_registers) .none kV_Machine_registers dc_Machine_registers pm_Machine_registers an_Machine_registers cd_Machine_registers ct_Machine_registers), sl_Machine_registers⟩)
    (c_Machine_registers : PySem.W.codeIn K cd_Machine_registers "Machine.registers" = true)
    (k_Machine_registers : PySem.W.keepIn K (.ref f_Machine_registers) = true)
    (a_Memory_root : PySem.W.findIn K (.ref C_Memory) "root" = some (some (.ref f_Memory_root)))
    (i_Memory_root : PySem.W.isFn K (.ref f_Memory_root) = true)
    (l_Memory_root : K.lookup f_Memory_root = some ⟨oc_Memory_root, od_Memory_root, .func (PySem.W.fnOf "root" "Memory.root" (defArgs s_Memory_root) (defBody s_Memory_root) (defScope s_Memory_root) .none kV_Memory_root dc_Memory_root pm_Memory_root an_Memory_root cd_Memory_root ct_Memory_root), sl_Memory_root⟩)
    (c_Memory_root : PySem.W.codeIn K cd_Memory_root "Memory.root" = true)
    (k_Memory_root : PySem.W.keepIn K (.ref f_Memory_root) = true)
    (a_Machine_root : PySem.W.findIn K (.ref C_Machine) "root" = some (some (.ref f_Machine_root)))
    (i_Machine_root : PySem.W.isFn K (.ref f_Machine_root) = true)
    (l_Machine_root : K.lookup f_Machine_root = some ⟨oc_Machine_root, od_Machine_root, .func (PySem.W.fnOf "root" "Machine.root" (defArgs s_Machine_root) (defBody s_Machine_root) (defScope s_Machine_root) .none kV_Machine_root dc_Machine_root pm_Machine_root an_Machine_root cd_Machine_root ct_Machine_root), sl_Machine_root⟩)
    (c_Machine_root : PySem.W.codeIn K cd_Machine_root "Machine.root" = true)
    (k_Machine_root : PySem.W.keepIn K (.ref f_Machine_root) = true)
    (a_Book_add : PySem.W.findIn K (.ref C_Book) "add" = some (some (.ref f_Book_add)))
    (i_Book_add : PySem.W.isFn K (.ref f_Book_add) = true)
    (l_Book_add : K.lookup f_Book_add = some ⟨oc_Book_add, od_Book_add, .func (PySem.W.fnOf "add" "Book.add" (defArgs s_Book_add) (defBody s_Book_add) (defScope s_Book_add) .none kV_Book_add dc_Book_add pm_Book_add an_Book_add cd_Book_add ct_Book_add), sl_Book_add⟩)
    (c_Book_add : PySem.W.codeIn K cd_Book_add "Book.add" = true)
    (k_Book_add : PySem.W.keepIn K (.ref f_Book_add) = true)
    (a_Digests_kept : PySem.W.findIn K (.ref C_Digests) "_kept" = some (some (.ref f_Digests_kept)))
    (i_Digests_kept : PySem.W.isFn K (.ref f_Digests_kept) = true)
    (l_Digests_kept : K.lookup f_Digests_kept = some ⟨oc_Digests_kept, od_Digests_kept, .func (PySem.W.fnOf "_kept" "Digests._kept" (defArgs s_Digests_kept) (defBody s_Digests_kept) (defScope s_Digests_kept) .none kV_Digests_kept dc_Digests_kept pm_Digests_kept an_Digests_kept cd_Digests_kept ct_Digests_kept), sl_Digests_kept⟩)
    (c_Digests_kept : PySem.W.codeIn K cd_Digests_kept "Digests._kept" = true)
    (k_Digests_kept : PySem.W.keepIn K (.ref f_Digests_kept) = true)
    (a_Digests_state : PySem.W.findIn K (.ref C_Digests) "state" = some (some (.ref f_Digests_state)))
    (i_Digests_state : PySem.W.isFn K (.ref f_Digests_state) = true)
    (l_Digests_state : K.lookup f_Digests_state = some ⟨oc_Digests_state, od_Digests_state, .func (PySem.W.fnOf "state" "Digests.state" (defArgs s_Digests_state) (defBody s_Digests_state) (defScope s_Digests_state) .none kV_Digests_state dc_Digests_state pm_Digests_state an_Digests_state cd_Digests_state ct_Digests_state), sl_Digests_state⟩)
    (c_Digests_state : PySem.W.codeIn K cd_Digests_state "Digests.state" = true)
    (k_Digests_state : PySem.W.keepIn K (.ref f_Digests_state) = true)
    (a_Machine_digest : PySem.W.findIn K (.ref C_Machine) "digest" = some (some (.ref f_Machine_digest)))
    (i_Machine_digest : PySem.W.isFn K (.ref f_Machine_digest) = true)
    (l_Machine_digest : K.lookup f_Machine_digest = some ⟨oc_Machine_digest, od_Machine_digest, .func (PySem.W.fnOf "digest" "Machine.digest" (defArgs s_Machine_digest) (defBody s_Machine_digest) (defScope s_Machine_digest) .none kV_Machine_digest dc_Machine_digest pm_Machine_digest an_Machine_digest cd_Machine_digest ct_Machine_digest), sl_Machine_digest⟩)
    (c_Machine_digest : PySem.W.codeIn K cd_Machine_digest "Machine.digest" = true)
    (k_Machine_digest : PySem.W.keepIn K (.ref f_Machine_digest) = true)
    (a_Memory_path : PySem.W.findIn K (.ref C_Memory) "path" = some (some (.ref f_Memory_path)))
    (i_Memory_path : PySem.W.isFn K (.ref f_Memory_path) = true)
    (l_Memory_path : K.lookup f_Memory_path = some ⟨oc_Memory_path, od_Memory_path, .func (PySem.W.fnOf "path" "Memory.path" (defArgs s_Memory_path) (defBody s_Memory_path) (defScope s_Memory_path) .none kV_Memory_path dc_Memory_path pm_Memory_path an_Memory_path cd_Memory_path ct_Memory_path), sl_Memory_path⟩)
    (c_Memory_path : PySem.W.codeIn K cd_Memory_path "Memory.path" = true)
    (k_Memory_path : PySem.W.keepIn K (.ref f_Memory_path) = true)
    (a_Machine_path : PySem.W.findIn K (.ref C_Machine) "path" = some (some (.ref f_Machine_path)))
    (i_Machine_path : PySem.W.isFn K (.ref f_Machine_path) = true)
    (l_Machine_path : K.lookup f_Machine_path = some ⟨oc_Machine_path, od_Machine_path, .func (PySem.W.fnOf "path" "Machine.path" (defArgs s_Machine_path) (defBody s_Machine_path) (defScope s_Machine_path) .none kV_Machine_path dc_Machine_path pm_Machine_path an_Machine_path cd_Machine_path ct_Machine_path), sl_Machine_path⟩)
    (c_Machine_path : PySem.W.codeIn K cd_Machine_path "Machine.path" = true)
    (k_Machine_path : PySem.W.keepIn K (.ref f_Machine_path) = true)
    (a_name_of : PySem.W.nsIn K mainGlobals "name_of" = some (some (.ref f_name_of)))
    (l_name_of : K.lookup f_name_of = some ⟨oc_name_of, od_name_of, .func (PySem.W.fnOf "name_of" "name_of" (defArgs s_name_of) (defBody s_name_of) (defScope s_name_of) .none kV_name_of dc_name_of pm_name_of an_name_of cd_name_of ct_name_of), sl_name_of⟩)
    (c_name_of : PySem.W.codeIn K cd_name_of "name_of" = true)
    (k_name_of : PySem.W.keepIn K (.ref f_name_of) = true)
    (a_data_of : PySem.W.nsIn K mainGlobals "data_of" = some (some (.ref f_data_of)))
    (l_data_of : K.lookup f_data_of = some ⟨oc_data_of, od_data_of, .func (PySem.W.fnOf "data_of" "data_of" (defArgs s_data_of) (defBody s_data_of) (defScope s_data_of) .none kV_data_of dc_data_of pm_data_of an_data_of cd_data_of ct_data_of), sl_data_of⟩)
    (c_data_of : PySem.W.codeIn K cd_data_of "data_of" = true)
    (k_data_of : PySem.W.keepIn K (.ref f_data_of) = true)
    (a_wrapped : PySem.W.nsIn K mainGlobals "wrapped" = some (some (.ref f_wrapped)))
    (l_wrapped : K.lookup f_wrapped = some ⟨oc_wrapped, od_wrapped, .func (PySem.W.fnOf "wrapped" "wrapped" (defArgs s_wrapped) (defBody s_wrapped) (defScope s_wrapped) .none kV_wrapped dc_wrapped pm_wrapped an_wrapped cd_wrapped ct_wrapped), sl_wrapped⟩)
    (c_wrapped : PySem.W.codeIn K cd_wrapped "wrapped" = true)
    (k_wrapped : PySem.W.keepIn K (.ref f_wrapped) = true)
    (a_compared : PySem.W.nsIn K mainGlobals "compared" = some (some (.ref f_compared)))
    (l_compared : K.lookup f_compared = some ⟨oc_compared, od_compared, .func (PySem.W.fnOf "compared" "compared" (defArgs s_compared) (defBody s_compared) (defScope s_compared) .none kV_compared dc_compared pm_compared an_compared cd_compared ct_compared), sl_compared⟩)
    (c_compared : PySem.W.codeIn K cd_compared "compared" = true)
    (k_compared : PySem.W.keepIn K (.ref f_compared) = true)
    (a_op : PySem.W.nsIn K mainGlobals "op" = some (some (.ref f_op)))
    (l_op : K.lookup f_op = some ⟨oc_op, od_op, .func (PySem.W.fnOf "op" "op" (defArgs s_op) (defBody s_op) (defScope s_op) .none kV_op dc_op pm_op an_op cd_op ct_op), sl_op⟩)
    (c_op : PySem.W.codeIn K cd_op "op" = true)
    (k_op : PySem.W.keepIn K (.ref f_op) = true)
    (a_mark_of : PySem.W.nsIn K mainGlobals "mark_of" = some (some (.ref f_mark_of)))
    (l_mark_of : K.lookup f_mark_of = some ⟨oc_mark_of, od_mark_of, .func (PySem.W.fnOf "mark_of" "mark_of" (defArgs s_mark_of) (defBody s_mark_of) (defScope s_mark_of) .none kV_mark_of dc_mark_of pm_mark_of an_mark_of cd_mark_of ct_mark_of), sl_mark_of⟩)
    (c_mark_of : PySem.W.codeIn K cd_mark_of "mark_of" = true)
    (k_mark_of : PySem.W.keepIn K (.ref f_mark_of) = true)
    (a_halted : PySem.W.nsIn K mainGlobals "halted" = some (some (.ref f_halted)))
    (l_halted : K.lookup f_halted = some ⟨oc_halted, od_halted, .func (PySem.W.fnOf "halted" "halted" (defArgs s_halted) (defBody s_halted) (defScope s_halted) .none kV_halted dc_halted pm_halted an_halted cd_halted ct_halted), sl_halted⟩)
    (c_halted : PySem.W.codeIn K cd_halted "halted" = true)
    (k_halted : PySem.W.keepIn K (.ref f_halted) = true)
    (a_Digests_fold : PySem.W.findIn K (.ref C_Digests) "fold" = some (some (.ref f_Digests_fold)))
    (i_Digests_fold : PySem.W.isFn K (.ref f_Digests_fold) = true)
    (l_Digests_fold : K.lookup f_Digests_fold = some ⟨oc_Digests_fold, od_Digests_fold, .func (PySem.W.fnOf "fold" "Digests.fold" (defArgs s_Digests_fold) (defBody s_Digests_fold) (defScope s_Digests_fold) .none kV_Digests_fold dc_Digests_fold pm_Digests_fold an_Digests_fold cd_Digests_fold ct_Digests_fold), sl_Digests_fold⟩)
    (c_Digests_fold : PySem.W.codeIn K cd_Digests_fold "Digests.fold" = true)
    (k_Digests_fold : PySem.W.keepIn K (.ref f_Digests_fold) = true)
    (a_Digests_leaf : PySem.W.findIn K (.ref C_Digests) "leaf" = some (some (.ref f_Digests_leaf)))
    (i_Digests_leaf : PySem.W.isFn K (.ref f_Digests_leaf) = true)
    (l_Digests_leaf : K.lookup f_Digests_leaf = some ⟨oc_Digests_leaf, od_Digests_leaf, .func (PySem.W.fnOf "leaf" "Digests.leaf" (defArgs s_Digests_leaf) (defBody s_Digests_leaf) (defScope s_Digests_leaf) .none kV_Digests_leaf dc_Digests_leaf pm_Digests_leaf an_Digests_leaf cd_Digests_leaf ct_Digests_leaf), sl_Digests_leaf⟩)
    (c_Digests_leaf : PySem.W.codeIn K cd_Digests_leaf "Digests.leaf" = true)
    (k_Digests_leaf : PySem.W.keepIn K (.ref f_Digests_leaf) = true)
    (a_pc_behind : PySem.W.nsIn K mainGlobals "pc_behind" = some (some (.ref f_pc_behind)))
    (l_pc_behind : K.lookup f_pc_behind = some ⟨oc_pc_behind, od_pc_behind, .func (PySem.W.fnOf "pc_behind" "pc_behind" (defArgs s_pc_behind) (defBody s_pc_behind) (defScope s_pc_behind) .none kV_pc_behind dc_pc_behind pm_pc_behind an_pc_behind cd_pc_behind ct_pc_behind), sl_pc_behind⟩)
    (c_pc_behind : PySem.W.codeIn K cd_pc_behind "pc_behind" = true)
    (k_pc_behind : PySem.W.keepIn K (.ref f_pc_behind) = true)
    (a_acc_behind : PySem.W.nsIn K mainGlobals "acc_behind" = some (some (.ref f_acc_behind)))
    (l_acc_behind : K.lookup f_acc_behind = some ⟨oc_acc_behind, od_acc_behind, .func (PySem.W.fnOf "acc_behind" "acc_behind" (defArgs s_acc_behind) (defBody s_acc_behind) (defScope s_acc_behind) .none kV_acc_behind dc_acc_behind pm_acc_behind an_acc_behind cd_acc_behind ct_acc_behind), sl_acc_behind⟩)
    (c_acc_behind : PySem.W.codeIn K cd_acc_behind "acc_behind" = true)
    (k_acc_behind : PySem.W.keepIn K (.ref f_acc_behind) = true)
    (a_done_by : PySem.W.nsIn K mainGlobals "done_by" = some (some (.ref f_done_by)))
    (l_done_by : K.lookup f_done_by = some ⟨oc_done_by, od_done_by, .func (PySem.W.fnOf "done_by" "done_by" (defArgs s_done_by) (defBody s_done_by) (defScope s_done_by) .none kV_done_by dc_done_by pm_done_by an_done_by cd_done_by ct_done_by), sl_done_by⟩)
    (c_done_by : PySem.W.codeIn K cd_done_by "done_by" = true)
    (k_done_by : PySem.W.keepIn K (.ref f_done_by) = true)
    (a_Memory_change : PySem.W.findIn K (.ref C_Memory) "change" = some (some (.ref f_Memory_change)))
    (i_Memory_change : PySem.W.isFn K (.ref f_Memory_change) = true)
    (l_Memory_change : K.lookup f_Memory_change = some ⟨oc_Memory_change, od_Memory_change, .func (PySem.W.fnOf "change" "Memory.change" (defArgs s_Memory_change) (defBody s_Memory_change) (defScope s_Memory_change) .none kV_Memory_change dc_Memory_change pm_Memory_change an_Memory_change cd_Memory_change ct_Memory_change), sl_Memory_change⟩)
    (c_Memory_change : PySem.W.codeIn K cd_Memory_change "Memory.change" = true)
    (k_Memory_change : PySem.W.keepIn K (.ref f_Memory_change) = true)
    (a_Machine_step : PySem.W.findIn K (.ref C_Machine) "step" = some (some (.ref f_Machine_step)))
    (i_Machine_step : PySem.W.isFn K (.ref f_Machine_step) = true)
    (l_Machine_step : K.lookup f_Machine_step = some ⟨oc_Machine_step, od_Machine_step, .func (PySem.W.fnOf "step" "Machine.step" (defArgs s_Machine_step) (defBody s_Machine_step) (defScope s_Machine_step) .none kV_Machine_step dc_Machine_step pm_Machine_step an_Machine_step cd_Machine_step ct_Machine_step), sl_Machine_step⟩)
    (c_Machine_step : PySem.W.codeIn K cd_Machine_step "Machine.step" = true)
    (k_Machine_step : PySem.W.keepIn K (.ref f_Machine_step) = true)
    (a_L_bag : PySem.W.nsIn K mainGlobals "_law_bag" = some (some (.ref f_L_bag)))
    (l_L_bag : K.lookup f_L_bag = some ⟨oc_L_bag, od_L_bag, .func (PySem.W.fnOf "_law_bag" "_law_bag" (defArgs s_L_bag) (defBody s_L_bag) (defScope s_L_bag) .none kV_L_bag dc_L_bag pm_L_bag an_L_bag cd_L_bag ct_L_bag), sl_L_bag⟩)
    (c_L_bag : PySem.W.codeIn K cd_L_bag "_law_bag" = true)
    (k_L_bag : PySem.W.keepIn K (.ref f_L_bag) = true)
    (a_L_draw : PySem.W.nsIn K mainGlobals "_law_draw" = some (some (.ref f_L_draw)))
    (l_L_draw : K.lookup f_L_draw = some ⟨oc_L_draw, od_L_draw, .func (PySem.W.fnOf "_law_draw" "_law_draw" (defArgs s_L_draw) (defBody s_L_draw) (defScope s_L_draw) .none kV_L_draw dc_L_draw pm_L_draw an_L_draw cd_L_draw ct_L_draw), sl_L_draw⟩)
    (c_L_draw : PySem.W.codeIn K cd_L_draw "_law_draw" = true)
    (k_L_draw : PySem.W.keepIn K (.ref f_L_draw) = true)
    (a_Book_init : PySem.W.findIn K (.ref C_Book) "__init__" = some (some (.ref f_Book_init)))
    (i_Book_init : PySem.W.isFn K (.ref f_Book_init) = true)
    (l_Book_init : K.lookup f_Book_init = some ⟨oc_Book_init, od_Book_init, .func (PySem.W.fnOf "__init__" "Book.__init__" (defArgs s_Book_init) (defBody s_Book_init) (defScope s_Book_init) .none kV_Book_init dc_Book_init pm_Book_init an_Book_init cd_Book_init ct_Book_init), sl_Book_init⟩)
    (c_Book_init : PySem.W.codeIn K cd_Book_init "Book.__init__" = true)
    (k_Book_init : PySem.W.keepIn K (.ref f_Book_init) = true)
    (a_Digests_init : PySem.W.findIn K (.ref C_Digests) "__init__" = some (some (.ref f_Digests_init)))
    (i_Digests_init : PySem.W.isFn K (.ref f_Digests_init) = true)
    (l_Digests_init : K.lookup f_Digests_init = some ⟨oc_Digests_init, od_Digests_init, .func (PySem.W.fnOf "__init__" "Digests.__init__" (defArgs s_Digests_init) (defBody s_Digests_init) (defScope s_Digests_init) .none kV_Digests_init dc_Digests_init pm_Digests_init an_Digests_init cd_Digests_init ct_Digests_init), sl_Digests_init⟩)
    (c_Digests_init : PySem.W.codeIn K cd_Digests_init "Digests.__init__" = true)
    (k_Digests_init : PySem.W.keepIn K (.ref f_Digests_init) = true)
    (a_folded : PySem.W.nsIn K mainGlobals "folded" = some (some (.ref f_folded)))
    (l_folded : K.lookup f_folded = some ⟨oc_folded, od_folded, .func (PySem.W.fnOf "folded" "folded" (defArgs s_folded) (defBody s_folded) (defScope s_folded) .none kV_folded dc_folded pm_folded an_folded cd_folded ct_folded), sl_folded⟩)
    (c_folded : PySem.W.codeIn K cd_folded "folded" = true)
    (k_folded : PySem.W.keepIn K (.ref f_folded) = true)
    (a_Memory_init : PySem.W.findIn K (.ref C_Memory) "__init__" = some (some (.ref f_Memory_init)))
    (i_Memory_init : PySem.W.isFn K (.ref f_Memory_init) = true)
    (l_Memory_init : K.lookup f_Memory_init = some ⟨oc_Memory_init, od_Memory_init, .func (PySem.W.fnOf "__init__" "Memory.__init__" (defArgs s_Memory_init) (defBody s_Memory_init) (defScope s_Memory_init) .none kV_Memory_init dc_Memory_init pm_Memory_init an_Memory_init cd_Memory_init ct_Memory_init), sl_Memory_init⟩)
    (c_Memory_init : PySem.W.codeIn K cd_Memory_init "Memory.__init__" = true)
    (k_Memory_init : PySem.W.keepIn K (.ref f_Memory_init) = true)
    (a_Machine_init : PySem.W.findIn K (.ref C_Machine) "__init__" = some (some (.ref f_Machine_init)))
    (i_Machine_init : PySem.W.isFn K (.ref f_Machine_init) = true)
    (l_Machine_init : K.lookup f_Machine_init = some ⟨oc_Machine_init, od_Machine_init, .func (PySem.W.fnOf "__init__" "Machine.__init__" (defArgs s_Machine_init) (defBody s_Machine_init) (defScope s_Machine_init) .none kV_Machine_init dc_Machine_init pm_Machine_init an_Machine_init cd_Machine_init ct_Machine_init), sl_Machine_init⟩)
    (c_Machine_init : PySem.W.codeIn K cd_Machine_init "Machine.__init__" = true)
    (k_Machine_init : PySem.W.keepIn K (.ref f_Machine_init) = true)
    (a_L_start : PySem.W.nsIn K mainGlobals "_law_start" = some (some (.ref f_L_start)))
    (l_L_start : K.lookup f_L_start = some ⟨oc_L_start, od_L_start, .func (PySem.W.fnOf "_law_start" "_law_start" (defArgs s_L_start) (defBody s_L_start) (defScope s_L_start) .none kV_L_start dc_L_start pm_L_start an_L_start cd_L_start ct_L_start), sl_L_start⟩)
    (c_L_start : PySem.W.codeIn K cd_L_start "_law_start" = true)
    (k_L_start : PySem.W.keepIn K (.ref f_L_start) = true)
    (a_L_word : PySem.W.nsIn K mainGlobals "_law_word" = some (some (.ref f_L_word)))
    (l_L_word : K.lookup f_L_word = some ⟨oc_L_word, od_L_word, .func (PySem.W.fnOf "_law_word" "_law_word" (defArgs s_L_word) (defBody s_L_word) (defScope s_L_word) .none kV_L_word dc_L_word pm_L_word an_L_word cd_L_word ct_L_word), sl_L_word⟩)
    (c_L_word : PySem.W.codeIn K cd_L_word "_law_word" = true)
    (k_L_word : PySem.W.keepIn K (.ref f_L_word) = true)
    (a_L_words : PySem.W.nsIn K mainGlobals "_law_words" = some (some (.ref f_L_words)))
    (l_L_words : K.lookup f_L_words = some ⟨oc_L_words, od_L_words, .func (PySem.W.fnOf "_law_words" "_law_words" (defArgs s_L_words) (defBody s_L_words) (defScope s_L_words) .none kV_L_words dc_L_words pm_L_words an_L_words cd_L_words ct_L_words), sl_L_words⟩)
    (c_L_words : PySem.W.codeIn K cd_L_words "_law_words" = true)
    (k_L_words : PySem.W.keepIn K (.ref f_L_words) = true)
    (a_opened : PySem.W.nsIn K mainGlobals "opened" = some (some (.ref f_opened)))
    (l_opened : K.lookup f_opened = some ⟨oc_opened, od_opened, .func (PySem.W.fnOf "opened" "opened" (defArgs s_opened) (defBody s_opened) (defScope s_opened) .none kV_opened dc_opened pm_opened an_opened cd_opened ct_opened), sl_opened⟩)
    (c_opened : PySem.W.codeIn K cd_opened "opened" = true)
    (k_opened : PySem.W.keepIn K (.ref f_opened) = true)
    (a_must : PySem.W.nsIn K mainGlobals "must" = some (some (.ref f_must)))
    (l_must : K.lookup f_must = some ⟨oc_must, od_must, .func (PySem.W.fnOf "must" "must" (defArgs s_must) (defBody s_must) (defScope s_must) .none kV_must dc_must pm_must an_must cd_must ct_must), sl_must⟩)
    (c_must : PySem.W.codeIn K cd_must "must" = true)
    (k_must : PySem.W.keepIn K (.ref f_must) = true)
    (a_is_integer : PySem.W.nsIn K mainGlobals "is_integer" = some (some (.ref f_is_integer)))
    (l_is_integer : K.lookup f_is_integer = some ⟨oc_is_integer, od_is_integer, .func (PySem.W.fnOf "is_integer" "is_integer" (defArgs s_is_integer) (defBody s_is_integer) (defScope s_is_integer) .none kV_is_integer dc_is_integer pm_is_integer an_is_integer cd_is_integer ct_is_integer), sl_is_integer⟩)
    (c_is_integer : PySem.W.codeIn K cd_is_integer "is_integer" = true)
    (k_is_integer : PySem.W.keepIn K (.ref f_is_integer) = true)
    (a_is_word : PySem.W.nsIn K mainGlobals "is_word" = some (some (.ref f_is_word)))
    (l_is_word : K.lookup f_is_word = some ⟨oc_is_word, od_is_word, .func (PySem.W.fnOf "is_word" "is_word" (defArgs s_is_word) (defBody s_is_word) (defScope s_is_word) .none kV_is_word dc_is_word pm_is_word an_is_word cd_is_word ct_is_word), sl_is_word⟩)
    (c_is_word : PySem.W.codeIn K cd_is_word "is_word" = true)
    (k_is_word : PySem.W.keepIn K (.ref f_is_word) = true)
    (a_Digests_is_digest : PySem.W.findIn K (.ref C_Digests) "is_digest" = some (some (.ref f_Digests_is_digest)))
    (i_Digests_is_digest : PySem.W.isFn K (.ref f_Digests_is_digest) = true)
    (l_Digests_is_digest : K.lookup f_Digests_is_digest = some ⟨oc_Digests_is_digest, od_Digests_is_digest, .func (PySem.W.fnOf "is_digest" "Digests.is_digest" (defArgs s_Digests_is_digest) (defBody s_Digests_is_digest) (defScope s_Digests_is_digest) .none kV_Digests_is_digest dc_Digests_is_digest pm_Digests_is_digest an_Digests_is_digest cd_Digests_is_digest ct_Digests_is_digest), sl_Digests_is_digest⟩)
    (c_Digests_is_digest : PySem.W.codeIn K cd_Digests_is_digest "Digests.is_digest" = true)
    (k_Digests_is_digest : PySem.W.keepIn K (.ref f_Digests_is_digest) = true)
    (a_are_registers : PySem.W.nsIn K mainGlobals "are_registers" = some (some (.ref f_are_registers)))
    (l_are_registers : K.lookup f_are_registers = some ⟨oc_are_registers, od_are_registers, .func (PySem.W.fnOf "are_registers" "are_registers" (defArgs s_are_registers) (defBody s_are_registers) (defScope s_are_registers) .none kV_are_registers dc_are_registers pm_are_registers an_are_registers cd_are_registers ct_are_registers), sl_are_registers⟩)
    (c_are_registers : PySem.W.codeIn K cd_are_registers "are_registers" = true)
    (k_are_registers : PySem.W.keepIn K (.ref f_are_registers) = true)
    (a_is_part : PySem.W.nsIn K mainGlobals "is_part" = some (some (.ref f_is_part)))
    (l_is_part : K.lookup f_is_part = some ⟨oc_is_part, od_is_part, .func (PySem.W.fnOf "is_part" "is_part" (defArgs s_is_part) (defBody s_is_part) (defScope s_is_part) .none kV_is_part dc_is_part pm_is_part an_is_part cd_is_part ct_is_part), sl_is_part⟩)
    (c_is_part : PySem.W.codeIn K cd_is_part "is_part" = true)
    (k_is_part : PySem.W.keepIn K (.ref f_is_part) = true)
    (a_is_opening : PySem.W.nsIn K mainGlobals "is_opening" = some (some (.ref f_is_opening)))
    (l_is_opening : K.lookup f_is_opening = some ⟨oc_is_opening, od_is_opening, .func (PySem.W.fnOf "is_opening" "is_opening" (defArgs s_is_opening) (defBody s_is_opening) (defScope s_is_opening) .none kV_is_opening dc_is_opening pm_is_opening an_is_opening cd_is_opening ct_is_opening), sl_is_opening⟩)
    (c_is_opening : PySem.W.codeIn K cd_is_opening "is_opening" = true)
    (k_is_opening : PySem.W.keepIn K (.ref f_is_opening) = true)
    (a_root_by : PySem.W.nsIn K mainGlobals "root_by" = some (some (.ref f_root_by)))
    (l_root_by : K.lookup f_root_by = some ⟨oc_root_by, od_root_by, .func (PySem.W.fnOf "root_by" "root_by" (defArgs s_root_by) (defBody s_root_by) (defScope s_root_by) .none kV_root_by dc_root_by pm_root_by an_root_by cd_root_by ct_root_by), sl_root_by⟩)
    (c_root_by : PySem.W.codeIn K cd_root_by "root_by" = true)
    (k_root_by : PySem.W.keepIn K (.ref f_root_by) = true)
    (a_root_with : PySem.W.nsIn K mainGlobals "root_with" = some (some (.ref f_root_with)))
    (l_root_with : K.lookup f_root_with = some ⟨oc_root_with, od_root_with, .func (PySem.W.fnOf "root_with" "root_with" (defArgs s_root_with) (defBody s_root_with) (defScope s_root_with) .none kV_root_with dc_root_with pm_root_with an_root_with cd_root_with ct_root_with), sl_root_with⟩)
    (c_root_with : PySem.W.codeIn K cd_root_with "root_with" = true)
    (k_root_with : PySem.W.keepIn K (.ref f_root_with) = true)
    (a_step_of : PySem.W.nsIn K mainGlobals "step_of" = some (some (.ref f_step_of)))
    (l_step_of : K.lookup f_step_of = some ⟨oc_step_of, od_step_of, .func (PySem.W.fnOf "step_of" "step_of" (defArgs s_step_of) (defBody s_step_of) (defScope s_step_of) .none kV_step_of dc_step_of pm_step_of an_step_of cd_step_of ct_step_of), sl_step_of⟩)
    (c_step_of : PySem.W.codeIn K cd_step_of "step_of" = true)
    (k_step_of : PySem.W.keepIn K (.ref f_step_of) = true)
    (a_L_taken : PySem.W.nsIn K mainGlobals "_law_taken" = some (some (.ref f_L_taken)))
    (l_L_taken : K.lookup f_L_taken = some ⟨oc_L_taken, od_L_taken, .func (PySem.W.fnOf "_law_taken" "_law_taken" (defArgs s_L_taken) (defBody s_L_taken) (defScope s_L_taken) .none kV_L_taken dc_L_taken pm_L_taken an_L_taken cd_L_taken ct_L_taken), sl_L_taken⟩)
    (c_L_taken : PySem.W.codeIn K cd_L_taken "_law_taken" = true)
    (k_L_taken : PySem.W.keepIn K (.ref f_L_taken) = true)
    (a_Book_has_collision : PySem.W.findIn K (.ref C_Book) "has_collision" = some (some (.ref f_Book_has_collision)))
    (i_Book_has_collision : PySem.W.isFn K (.ref f_Book_has_collision) = true)
    (l_Book_has_collision : K.lookup f_Book_has_collision = some ⟨oc_Book_has_collision, od_Book_has_collision, .func (PySem.W.fnOf "has_collision" "Book.has_collision" (defArgs s_Book_has_collision) (defBody s_Book_has_collision) (defScope s_Book_has_collision) .none kV_Book_has_collision dc_Book_has_collision pm_Book_has_collision an_Book_has_collision cd_Book_has_collision ct_Book_has_collision), sl_Book_has_collision⟩)
    (c_Book_has_collision : PySem.W.codeIn K cd_Book_has_collision "Book.has_collision" = true)
    (k_Book_has_collision : PySem.W.keepIn K (.ref f_Book_has_collision) = true)
    (a_law : PySem.W.nsIn K mainGlobals "law" = some (some (.ref f_law)))
    (l_law : K.lookup f_law = some ⟨oc_law, od_law, .func (PySem.W.fnOf "law" "law" (defArgs s_law) (defBody s_law) (defScope s_law) .none kV_law dc_law pm_law an_law cd_law ct_law), sl_law⟩)
    (c_law : PySem.W.codeIn K cd_law "law" = true)
    (k_law : PySem.W.keepIn K (.ref f_law) = true)
    (pg_Book : PySem.W.plainGet K C_Book Str.empty = true)
    (hd_Book : PySem.W.hasDictIn K C_Book = true)
    (po_Book : PySem.W.plainOver K C_Book = true)
    (sa_Book : PySem.W.findIn K (.ref C_Book) "__setattr__" = some (some (.builtin "object.__setattr__")))
    (mk_Book : PySem.W.makesIn K C_Book = true)
    (kc_Book : PySem.W.keepIn K (.ref C_Book) = true)
    (n_Book__texts : PySem.W.findIn K (.ref C_Book) "_texts" = some none)
    (n_Book__collision : PySem.W.findIn K (.ref C_Book) "_collision" = some none)
    (pg_Digests : PySem.W.plainGet K C_Digests Str.empty = true)
    (hd_Digests : PySem.W.hasDictIn K C_Digests = true)
    (po_Digests : PySem.W.plainOver K C_Digests = true)
    (sa_Digests : PySem.W.findIn K (.ref C_Digests) "__setattr__" = some (some (.builtin "object.__setattr__")))
    (mk_Digests : PySem.W.makesIn K C_Digests = true)
    (kc_Digests : PySem.W.keepIn K (.ref C_Digests) = true)
    (n_Digests__modulus : PySem.W.findIn K (.ref C_Digests) "_modulus" = some none)
    (n_Digests__book : PySem.W.findIn K (.ref C_Digests) "_book" = some none)
    (n_Digests__bits : PySem.W.findIn K (.ref C_Digests) "_bits" = some none)
    (pg_Memory : PySem.W.plainGet K C_Memory Str.empty = true)
    (hd_Memory : PySem.W.hasDictIn K C_Memory = true)
    (po_Memory : PySem.W.plainOver K C_Memory = true)
    (sa_Memory : PySem.W.findIn K (.ref C_Memory) "__setattr__" = some (some (.builtin "object.__setattr__")))
    (mk_Memory : PySem.W.makesIn K C_Memory = true)
    (kc_Memory : PySem.W.keepIn K (.ref C_Memory) = true)
    (n_Memory__words : PySem.W.findIn K (.ref C_Memory) "_words" = some none)
    (n_Memory__rows : PySem.W.findIn K (.ref C_Memory) "_rows" = some none)
    (n_Memory__digests : PySem.W.findIn K (.ref C_Memory) "_digests" = some none)
    (pg_Machine : PySem.W.plainGet K C_Machine Str.empty = true)
    (hd_Machine : PySem.W.hasDictIn K C_Machine = true)
    (po_Machine : PySem.W.plainOver K C_Machine = true)
    (sa_Machine : PySem.W.findIn K (.ref C_Machine) "__setattr__" = some (some (.builtin "object.__setattr__")))
    (mk_Machine : PySem.W.makesIn K C_Machine = true)
    (kc_Machine : PySem.W.keepIn K (.ref C_Machine) = true)
    (n_Machine__told : PySem.W.findIn K (.ref C_Machine) "_told" = some none)
    (n_Machine__memory : PySem.W.findIn K (.ref C_Machine) "_memory" = some none)
    (n_Machine__registers : PySem.W.findIn K (.ref C_Machine) "_registers" = some none)
    (n_Machine__digests : PySem.W.findIn K (.ref C_Machine) "_digests" = some none)
    (xe_BadOpening : PySem.W.excIn K C_BadOpening [.type "ValueError", .type "Exception", .type "BaseException", .type "object"] "ValueError.__new__" = true)
    (kc_BadOpening : PySem.W.keepIn K (.ref C_BadOpening) = true)
    (sb_BadOpening : PySem.W.subIn K (.ref C_BadOpening) (.type "BaseException") = some true)
    (ty_BadOpening : PySem.W.typeIn K (.ref C_BadOpening) = some (.type "type"))
    (hsb_BadOpening : PySem.W.subIn K (.ref C_BadOpening) (.type "BaseException") = some true)
    (hhd_BadOpening : PySem.W.hasDictIn K C_BadOpening = true)
    (hty_BadOpening : PySem.W.typeIn K (.ref C_BadOpening) = some (.type "type"))
    (ex_BadOpening_BadOpening : PySem.W.subIn K (.ref C_BadOpening) (.ref C_BadOpening) = some true)
    (v_FIRST_STATE : PySem.W.nsIn K mainGlobals "FIRST_STATE" = some (some (.int 3 t_FIRST_STATE)))
    (v_ARGUMENTS : PySem.W.nsIn K mainGlobals "ARGUMENTS" = some (some (.int 1024 t_ARGUMENTS)))
    (v_NAMES : PySem.W.nsIn K mainGlobals "NAMES" = some (some (.ref p_NAMES)))
    (q_NAMES : K.lookup p_NAMES = some ⟨.type "tuple", qd_NAMES, .seq qi_NAMES qn_NAMES, qs_NAMES⟩)
    (z_NAMES : qi_NAMES.size ≤ sizeLine)
    (r_NAMES : Vals [V.str "bad", V.str "halt", V.str "lit", V.str "load", V.str "store", V.str "loadx", V.str "storex", V.str "tox", V.str "index", V.str "bound", V.str "within", V.str "not", V.str "+", V.str "-", V.str "*", V.str "/", V.str "mod", V.str "==", V.str "!=", V.str "<", V.str "<=", V.str ">", V.str ">=", V.str "jump", V.str "zero", V.str "some", V.str "call", V.str "back", V.str "tell"] qi_NAMES.toList)
    (v_PLACES_machine : PySem.W.nsIn K mainGlobals "PLACES_machine" = some (some (.int 256 t_PLACES_machine)))
    (v_CHANGERS : PySem.W.nsIn K mainGlobals "CHANGERS" = some (some (.ref p_CHANGERS)))
    (q_CHANGERS : K.lookup p_CHANGERS = some ⟨.type "tuple", qd_CHANGERS, .seq qi_CHANGERS qn_CHANGERS, qs_CHANGERS⟩)
    (z_CHANGERS : qi_CHANGERS.size ≤ sizeLine)
    (r_CHANGERS : Vals [V.str "store", V.str "storex", V.str "call"] qi_CHANGERS.toList)
    (v_READERS : PySem.W.nsIn K mainGlobals "READERS" = some (some (.ref p_READERS)))
    (q_READERS : K.lookup p_READERS = some ⟨.type "tuple", qd_READERS, .seq qi_READERS qn_READERS, qs_READERS⟩)
    (z_READERS : qi_READERS.size ≤ sizeLine)
    (r_READERS : Vals [V.str "load", V.str "loadx", V.str "index", V.str "within", V.str "back"] qi_READERS.toList)
    (v_SIGNS : PySem.W.nsIn K mainGlobals "SIGNS" = some (some (.ref p_SIGNS)))
    (q_SIGNS : K.lookup p_SIGNS = some ⟨.type "tuple", qd_SIGNS, .seq qi_SIGNS qn_SIGNS, qs_SIGNS⟩)
    (z_SIGNS : qi_SIGNS.size ≤ sizeLine)
    (r_SIGNS : Vals [V.str "+", V.str "-", V.str "*", V.str "/", V.str "mod", V.str "==", V.str "!=", V.str "<", V.str "<=", V.str ">", V.str ">="] qi_SIGNS.toList)
    (v_MOST_WORD : PySem.W.nsIn K mainGlobals "MOST_WORD" = some (some (.int 65535 t_MOST_WORD)))
    (v_MOST_TOLD : PySem.W.nsIn K mainGlobals "MOST_TOLD" = some (some (.int 16 t_MOST_TOLD)))
    (v_PLACES_trees : PySem.W.nsIn K mainGlobals "PLACES_trees" = some (some (.int 256 t_PLACES_trees)))
    (v_MARKS : PySem.W.nsIn K mainGlobals "MARKS" = some (some (.ref p_MARKS)))
    (q_MARKS : K.lookup p_MARKS = some ⟨.type "tuple", none, .seq qi_MARKS qn_MARKS, qs_MARKS⟩)
    (z_MARKS : qi_MARKS.size ≤ sizeLine)
    (r_MARKS : Vals [V.str "long", V.str "done", V.str "divided", V.str "place", V.str "input", V.str "full", V.str "bad"] qi_MARKS.toList)
    (v_DEPTH : PySem.W.nsIn K mainGlobals "DEPTH" = some (some (.int 8 t_DEPTH)))
    (b_all : PySem.W.nsIn K mainGlobals "all" = some none)
    (b_bool : PySem.W.nsIn K mainGlobals "bool" = some none)
    (b_int : PySem.W.nsIn K mainGlobals "int" = some none)
    (b_isinstance : PySem.W.nsIn K mainGlobals "isinstance" = some none)
    (b_len : PySem.W.nsIn K mainGlobals "len" = some none)
    (b_list : PySem.W.nsIn K mainGlobals "list" = some none)
    (b_range : PySem.W.nsIn K mainGlobals "range" = some none)
    (b_tuple : PySem.W.nsIn K mainGlobals "tuple" = some none) :
    ∃ (fd : FuncData) (Cl : Nat → Addr), (∀ (s : Shared) (v : Value), BindsTo s fd ⟨[v], []⟩ [("_law_script", v)]) ∧ ∀ base : Heap, K.In base → base.Ns mainGlobals mg → FnOk l.prog w K mg base (L2.CX l.prog w) 9 fa fd ["_law_script"] (spM K Cl 1 m_law) := by
  have e : f_law = fa := by
    have z := (PySem.W.mg_of X G a_law).symm.trans hfa
    injection z with z
    injection z
  subst e
  let T : Tx K mg (fun n => [C_Digests, C_Book, C_Memory, C_Machine, 0, 0, 0, 0, 0, 0, 0, 0, 0, 0, 0, 0, 0, 0, 0, 0, 0, 0, 0, 0, C_CourtError, 0, 0, 0, 0, C_BadOpening].getD n 0) := {
    a_Machine_told := f_Machine_told,
    d_Machine_told := _,
    F_Machine_told := fun_mk (st := s_Machine_told) l_Machine_told c_Machine_told k_Machine_told,
    m_Machine_told := ⟨a_Machine_told, i_Machine_told, k_Machine_told⟩,
    a_Memory_words := f_Memory_words,
    d_Memory_words := _,
    F_Memory_words := fun_mk (st := s_Memory_words) l_Memory_words c_Memory_words k_Memory_words,
    m_Memory_words := ⟨a_Memory_words, i_Memory_words, k_Memory_words⟩,
    a_Machine_words := f_Machine_words,
    d_Machine_words := _,
    F_Machine_words := fun_mk (st := s_Machine_words) l_Machine_words c_Machine_words k_Machine_words,
    m_Machine_words := ⟨a_Machine_words, i_Machine_words, k_Machine_words⟩,
    a_Memory_word := f_Memory_word,
    d_Memory_word := _,
    F_Memory_word := fun_mk (st := s_Memory_word) l_Memory_word c_Memory_word k_Memory_word,
    m_Memory_word := ⟨a_Memory_word, i_Memory_word, k_Memory_word⟩,
    a_Machine_word := f_Machine_word,
    d_Machine_word := _,
    F_Machine_word := fun_mk (st := s_Machine_word) l_Machine_word c_Machine_word k_Machine_word,
    m_Machine_word := ⟨a_Machine_word, i_Machine_word, k_Machine_word⟩,
    a_Machine_registers := f_Machine_registers,
    d_Machine_registers := _,
    F_Machine_registers := fun_mk (st := s_Machine_registers) l_Machine_registers c_Machine_registers k_Machine_registers,
    m_Machine_registers := ⟨a_Machine_registers, i_Machine_registers, k_Machine_registers⟩,
    a_Memory_root := f_Memory_root,
    d_Memory_root := _,
    F_Memory_root := fun_mk (st := s_Memory_root) l_Memory_root c_Memory_root k_Memory_root,
    m_Memory_root := ⟨a_Memory_root, i_Memory_root, k_Memory_root⟩,
    a_Machine_root := f_Machine_root,
    d_Machine_root := _,
    F_Machine_root := fun_mk (st := s_Machine_root) l_Machine_root c_Machine_root k_Machine_root,
    m_Machine_root := ⟨a_Machine_root, i_Machine_root, k_Machine_root⟩,
    a_Book_add := f_Book_add,
    d_Book_add := _,
    F_Book_add := fun_mk (st := s_Book_add) l_Book_add c_Book_add k_Book_add,
    m_Book_add := ⟨a_Book_add, i_Book_add, k_Book_add⟩,
    a_Digests_kept := f_Digests_kept,
    d_Digests_kept := _,
    F_Digests_kept := fun_mk (st := s_Digests_kept) l_Digests_kept c_Digests_kept k_Digests_kept,
    m_Digests_kept := ⟨a_Digests_kept, i_Digests_kept, k_Digests_kept⟩,
    a_Digests_state := f_Digests_state,
    d_Digests_state := _,
    F_Digests_state := fun_mk (st := s_Digests_state) l_Digests_state c_Digests_state k_Digests_state,
    m_Digests_state := ⟨a_Digests_state, i_Digests_state, k_Digests_state⟩,
    a_Machine_digest := f_Machine_digest,
    d_Machine_digest := _,
    F_Machine_digest := fun_mk (st := s_Machine_digest) l_Machine_digest c_Machine_digest k_Machine_digest,
    m_Machine_digest := ⟨a_Machine_digest, i_Machine_digest, k_Machine_digest⟩,
    a_Memory_path := f_Memory_path,
    d_Memory_path := _,
    F_Memory_path := fun_mk (st := s_Memory_path) l_Memory_path c_Memory_path k_Memory_path,
    m_Memory_path := ⟨a_Memory_path, i_Memory_path, k_Memory_path⟩,
    a_Machine_path := f_Machine_path,
    d_Machine_path := _,
    F_Machine_path := fun_mk (st := s_Machine_path) l_Machine_path c_Machine_path k_Machine_path,
    m_Machine_path := ⟨a_Machine_path, i_Machine_path, k_Machine_path⟩,
    a_name_of := f_name_of,
    d_name_of := _,
    F_name_of := fun_mk (st := s_name_of) l_name_of c_name_of k_name_of,
    g_name_of := PySem.W.mg_of X G a_name_of,
    a_data_of := f_data_of,
    d_data_of := _,
    F_data_of := fun_mk (st := s_data_of) l_data_of c_data_of k_data_of,
    g_data_of := PySem.W.mg_of X G a_data_of,
    a_wrapped := f_wrapped,
    d_wrapped := _,
    F_wrapped := fun_mk (st := s_wrapped) l_wrapped c_wrapped k_wrapped,
    g_wrapped := PySem.W.mg_of X G a_wrapped,
    a_compared := f_compared,
    d_compared := _,
    F_compared := fun_mk (st := s_compared) l_compared c_compared k_compared,
    g_compared := PySem.W.mg_of X G a_compared,
    a_op := f_op,
    d_op := _,
    F_op := fun_mk (st := s_op) l_op c_op k_op,
    g_op := PySem.W.mg_of X G a_op,
    a_mark_of := f_mark_of,
    d_mark_of := _,
    F_mark_of := fun_mk (st := s_mark_of) l_mark_of c_mark_of k_mark_of,
    g_mark_of := PySem.W.mg_of X G a_mark_of,
    a_halted := f_halted,
    d_halted := _,
    F_halted := fun_mk (st := s_halted) l_halted c_halted k_halted,
    g_halted := PySem.W.mg_of X G a_halted,
    a_Digests_fold := f_Digests_fold,
    d_Digests_fold := _,
    F_Digests_fold := fun_mk (st := s_Digests_fold) l_Digests_fold c_Digests_fold k_Digests_fold,
    m_Digests_fold := ⟨a_Digests_fold, i_Digests_fold, k_Digests_fold⟩,
    a_Digests_leaf := f_Digests_leaf,
    d_Digests_leaf := _,
    F_Digests_leaf := fun_mk (st := s_Digests_leaf) l_Digests_leaf c_Digests_leaf k_Digests_leaf,
    m_Digests_leaf := ⟨a_Digests_leaf, i_Digests_leaf, k_Digests_leaf⟩,
    a_pc_behind := f_pc_behind,
    d_pc_behind := _,
    F_pc_behind := fun_mk (st := s_pc_behind) l_pc_behind c_pc_behind k_pc_behind,
    g_pc_behind := PySem.W.mg_of X G a_pc_behind,
    a_acc_behind := f_acc_behind,
    d_acc_behind := _,
    F_acc_behind := fun_mk (st := s_acc_behind) l_acc_behind c_acc_behind k_acc_behind,
    g_acc_behind := PySem.W.mg_of X G a_acc_behind,
    a_done_by := f_done_by,
    d_done_by := _,
    F_done_by := fun_mk (st := s_done_by) l_done_by c_done_by k_done_by,
    g_done_by := PySem.W.mg_of X G a_done_by,
    a_Memory_change := f_Memory_change,
    d_Memory_change := _,
    F_Memory_change := fun_mk (st := s_Memory_change) l_Memory_change c_Memory_change k_Memory_change,
    m_Memory_change := ⟨a_Memory_change, i_Memory_change, k_Memory_change⟩,
    a_Machine_step := f_Machine_step,
    d_Machine_step := _,
    F_Machine_step := fun_mk (st := s_Machine_step) l_Machine_step c_Machine_step k_Machine_step,
    m_Machine_step := ⟨a_Machine_step, i_Machine_step, k_Machine_step⟩,
    a_L_bag := f_L_bag,
    d_L_bag := _,
    F_L_bag := fun_mk (st := s_L_bag) l_L_bag c_L_bag k_L_bag,
    g_L_bag := PySem.W.mg_of X G a_L_bag,
    a_L_draw := f_L_draw,
    d_L_draw := _,
    F_L_draw := fun_mk (st := s_L_draw) l_L_draw c_L_draw k_L_draw,
    g_L_draw := PySem.W.mg_of X G a_L_draw,
    a_Book_init := f_Book_init,
    d_Book_init := _,
    F_Book_init := fun_mk (st := s_Book_init) l_Book_init c_Book_init k_Book_init,
    M_Book := ⟨mk_Book, a_Book_init, i_Book_init, kc_Book⟩,
    a_Digests_init := f_Digests_init,
    d_Digests_init := _,
    F_Digests_init := fun_mk (st := s_Digests_init) l_Digests_init c_Digests_init k_Digests_init,
    M_Digests := ⟨mk_Digests, a_Digests_init, i_Digests_init, kc_Digests⟩,
    a_folded := f_folded,
    d_folded := _,
    F_folded := fun_mk (st := s_folded) l_folded c_folded k_folded,
    g_folded := PySem.W.mg_of X G a_folded,
    a_Memory_init := f_Memory_init,
    d_Memory_init := _,
    F_Memory_init := fun_mk (st := s_Memory_init) l_Memory_init c_Memory_init k_Memory_init,
    M_Memory := ⟨mk_Memory, a_Memory_init, i_Memory_init, kc_Memory⟩,
    a_Machine_init := f_Machine_init,
    d_Machine_init := _,
    F_Machine_init := fun_mk (st := s_Machine_init) l_Machine_init c_Machine_init k_Machine_init,
    M_Machine := ⟨mk_Machine, a_Machine_init, i_Machine_init, kc_Machine⟩,
    a_L_start := f_L_start,
    d_L_start := _,
    F_L_start := fun_mk (st := s_L_start) l_L_start c_L_start k_L_start,
    g_L_start := PySem.W.mg_of X G a_L_start,
    a_L_word := f_L_word,
    d_L_word := _,
    F_L_word := fun_mk (st := s_L_word) l_L_word c_L_word k_L_word,
    g_L_word := PySem.W.mg_of X G a_L_word,
    a_L_words := f_L_words,
    d_L_words := _,
    F_L_words := fun_mk (st := s_L_words) l_L_words c_L_words k_L_words,
    g_L_words := PySem.W.mg_of X G a_L_words,
    a_opened := f_opened,
    d_opened := _,
    F_opened := fun_mk (st := s_opened) l_opened c_opened k_opened,
    g_opened := PySem.W.mg_of X G a_opened,
    a_must := f_must,
    d_must := _,
    F_must := fun_mk (st := s_must) l_must c_must k_must,
    g_must := PySem.W.mg_of X G a_must,
    a_is_integer := f_is_integer,
    d_is_integer := _,
    F_is_integer := fun_mk (st := s_is_integer) l_is_integer c_is_integer k_is_integer,
    g_is_integer := PySem.W.mg_of X G a_is_integer,
    a_is_word := f_is_word,
    d_is_word := _,
    F_is_word := fun_mk (st := s_is_word) l_is_word c_is_word k_is_word,
    g_is_word := PySem.W.mg_of X G a_is_word,
    a_Digests_is_digest := f_Digests_is_digest,
    d_Digests_is_digest := _,
    F_Digests_is_digest := fun_mk (st := s_Digests_is_digest) l_Digests_is_digest c_Digests_is_digest k_Digests_is_digest,
    m_Digests_is_digest := ⟨a_Digests_is_digest, i_Digests_is_digest, k_Digests_is_digest⟩,
    a_are_registers := f_are_registers,
    d_are_registers := _,
    F_are_registers := fun_mk (st := s_are_registers) l_are_registers c_are_registers k_are_registers,
    g_are_registers := PySem.W.mg_of X G a_are_registers,
    a_is_part := f_is_part,
    d_is_part := _,
    F_is_part := fun_mk (st := s_is_part) l_is_part c_is_part k_is_part,
    g_is_part := PySem.W.mg_of X G a_is_part,
    a_is_opening := f_is_opening,
    d_is_opening := _,
    F_is_opening := fun_mk (st := s_is_opening) l_is_opening c_is_opening k_is_opening,
    g_is_opening := PySem.W.mg_of X G a_is_opening,
    a_root_by := f_root_by,
    d_root_by := _,
    F_root_by := fun_mk (st := s_root_by) l_root_by c_root_by k_root_by,
    g_root_by := PySem.W.mg_of X G a_root_by,
    a_root_with := f_root_with,
    d_root_with := _,
    F_root_with := fun_mk (st := s_root_with) l_root_with c_root_with k_root_with,
    g_root_with := PySem.W.mg_of X G a_root_with,
    a_step_of := f_step_of,
    d_step_of := _,
    F_step_of := fun_mk (st := s_step_of) l_step_of c_step_of k_step_of,
    g_step_of := PySem.W.mg_of X G a_step_of,
    a_L_taken := f_L_taken,
    d_L_taken := _,
    F_L_taken := fun_mk (st := s_L_taken) l_L_taken c_L_taken k_L_taken,
    g_L_taken := PySem.W.mg_of X G a_L_taken,
    a_Book_has_collision := f_Book_has_collision,
    d_Book_has_collision := _,
    F_Book_has_collision := fun_mk (st := s_Book_has_collision) l_Book_has_collision c_Book_has_collision k_Book_has_collision,
    m_Book_has_collision := ⟨a_Book_has_collision, i_Book_has_collision, k_Book_has_collision⟩,
    a_law := f_law,
    d_law := _,
    F_law := fun_mk (st := s_law) l_law c_law k_law,
    g_law := PySem.W.mg_of X G a_law,
    k_Book := ⟨pg_Book, hd_Book, po_Book, sa_Book⟩,
    g_Book := PySem.W.mg_of X G aC_Book,
    n_Book__texts := n_Book__texts,
    n_Book__collision := n_Book__collision,
    k_Digests := ⟨pg_Digests, hd_Digests, po_Digests, sa_Digests⟩,
    g_Digests := PySem.W.mg_of X G aC_Digests,
    n_Digests__modulus := n_Digests__modulus,
    n_Digests__book := n_Digests__book,
    n_Digests__bits := n_Digests__bits,
    k_Memory := ⟨pg_Memory, hd_Memory, po_Memory, sa_Memory⟩,
    g_Memory := PySem.W.mg_of X G aC_Memory,
    n_Memory__words := n_Memory__words,
    n_Memory__rows := n_Memory__rows,
    n_Memory__digests := n_Memory__digests,
    k_Machine := ⟨pg_Machine, hd_Machine, po_Machine, sa_Machine⟩,
    g_Machine := PySem.W.mg_of X G aC_Machine,
    n_Machine__told := n_Machine__told,
    n_Machine__memory := n_Machine__memory,
    n_Machine__registers := n_Machine__registers,
    n_Machine__digests := n_Machine__digests,
    g_CourtError := PySem.W.mg_of X G aC_CourtError,
    g_BadOpening := PySem.W.mg_of X G aC_BadOpening,
    x_BadOpening := ⟨PySem.W.mg_of X G aC_BadOpening, xe_BadOpening, kc_BadOpening, sb_BadOpening, ty_BadOpening⟩,
    e_BadOpening_BadOpening := PySem.W.exm_ref hsb_BadOpening hhd_BadOpening hty_BadOpening ex_BadOpening_BadOpening,
    c_FIRST_STATE := ⟨_, .int 3, PySem.W.mg_of X G v_FIRST_STATE, ⟨_, rfl⟩, fun _ _ => .int _⟩,
    c_ARGUMENTS := ⟨_, .int 1024, PySem.W.mg_of X G v_ARGUMENTS, ⟨_, rfl⟩, fun _ _ => .int _⟩,
    c_NAMES := ⟨_, .ref p_NAMES, PySem.W.mg_of X G v_NAMES, rfl, fun _ _ => .tup (.inr ⟨_, qi_NAMES, qn_NAMES, q_NAMES, rfl, rfl, z_NAMES, r_NAMES⟩) (.cons (.str _) (.cons (.str _) (.cons (.str _) (.cons (.str _) (.cons (.str _) (.cons (.str _) (.cons (.str _) (.cons (.str _) (.cons (.str _) (.cons (.str _) (.cons (.str _) (.cons (.str _) (.cons (.str _) (.cons (.str _) (.cons (.str _) (.cons (.str _) (.cons (.str _) (.cons (.str _) (.cons (.str _) (.cons (.str _) (.cons (.str _) (.cons (.str _) (.cons (.str _) (.cons (.str _) (.cons (.str _) (.cons (.str _) (.cons (.str _) (.cons (.str _) (.cons (.str _) RVs.nil)))))))))))))))))))))))))))))⟩,
    c_PLACES_machine := ⟨_, .int 256, PySem.W.mg_of X G v_PLACES_machine, ⟨_, rfl⟩, fun _ _ => .int _⟩,
    c_CHANGERS := ⟨_, .ref p_CHANGERS, PySem.W.mg_of X G v_CHANGERS, rfl, fun _ _ => .tup (.inr ⟨_, qi_CHANGERS, qn_CHANGERS, q_CHANGERS, rfl, rfl, z_CHANGERS, r_CHANGERS⟩) (.cons (.str _) (.cons (.str _) (.cons (.str _) RVs.nil)))⟩,
    c_READERS := ⟨_, .ref p_READERS, PySem.W.mg_of X G v_READERS, rfl, fun _ _ => .tup (.inr ⟨_, qi_READERS, qn_READERS, q_READERS, rfl, rfl, z_READERS, r_READERS⟩) (.cons (.str _) (.cons (.str _) (.cons (.str _) (.cons (.str _) (.cons (.str _) RVs.nil)))))⟩,
    c_SIGNS := ⟨_, .ref p_SIGNS, PySem.W.mg_of X G v_SIGNS, rfl, fun _ _ => .tup (.inr ⟨_, qi_SIGNS, qn_SIGNS, q_SIGNS, rfl, rfl, z_SIGNS, r_SIGNS⟩) (.cons (.str _) (.cons (.str _) (.cons (.str _) (.cons (.str _) (.cons (.str _) (.cons (.str _) (.cons (.str _) (.cons (.str _) (.cons (.str _) (.cons (.str _) (.cons (.str _) RVs.nil)))))))))))⟩,
    c_MOST_WORD := ⟨_, .int 65535, PySem.W.mg_of X G v_MOST_WORD, ⟨_, rfl⟩, fun _ _ => .int _⟩,
    c_MOST_TOLD := ⟨_, .int 16, PySem.W.mg_of X G v_MOST_TOLD, ⟨_, rfl⟩, fun _ _ => .int _⟩,
    c_PLACES_trees := ⟨_, .int 256, PySem.W.mg_of X G v_PLACES_trees, ⟨_, rfl⟩, fun _ _ => .int _⟩,
    x_MARKS := ⟨p_MARKS, _, qi_MARKS, qn_MARKS, PySem.W.mg_of X G v_MARKS, q_MARKS, rfl, rfl, rfl, z_MARKS, r_MARKS⟩,
    c_MARKS := ⟨_, .ref p_MARKS, PySem.W.mg_of X G v_MARKS, rfl, fun _ _ => .tup (.inr ⟨_, qi_MARKS, qn_MARKS, q_MARKS, rfl, rfl, z_MARKS, r_MARKS⟩) (.cons (.str _) (.cons (.str _) (.cons (.str _) (.cons (.str _) (.cons (.str _) (.cons (.str _) (.cons (.str _) RVs.nil)))))))⟩,
    c_DEPTH := ⟨_, .int 8, PySem.W.mg_of X G v_DEPTH, ⟨_, rfl⟩, fun _ _ => .int _⟩,
    b_all := PySem.W.mg_none_of X G b_all,
    b_bool := PySem.W.mg_none_of X G b_bool,
    b_int := PySem.W.mg_none_of X G b_int,
    b_isinstance := PySem.W.mg_none_of X G b_isinstance,
    b_len := PySem.W.mg_none_of X G b_len,
    b_list := PySem.W.mg_none_of X G b_list,
    b_range := PySem.W.mg_none_of X G b_range,
    b_tuple := PySem.W.mg_none_of X G b_tuple }
  exact ⟨_, _, fun s v => .of_eq rfl, fun base _ _ => ok_law T⟩
theorem walk {l : PySem.W.OpenLaw} {q : Program} {loose : List Str} {XP : (Str → Option Value) → Heap → Prop} {YP : World → Heap → Prop} {d : DefRec} {K : Params → PySem.W.Frag} (hn : l.most = some 63) (hdf : d.params.defaults = [])
    (hY : ∀ (w : World) (h : Heap), YP w h → (K w.params).In h)
    (hlaw : ∀ ns : List Int, ns.length ≤ 63 → (∀ z ∈ ns, Builtin.Int.intBits z ≤ 1048576) → ∃ st, m_law [.xst (ns.map W.int)] [] = .ok (.bl true) st)
    (F : ∀ (w : World) (mg : Str → Option Value) (fa : Addr) (h : Heap), (K w.params).In h → h.Ns mainGlobals mg → mg d.name = some (.ref fa) →
      ∃ (fd : FuncData) (Cl : Nat → Addr), (∀ (s : Shared) (u : Value), BindsTo s fd ⟨[u], []⟩ [("_law_script", u)]) ∧ ∀ base : Heap, (K w.params).In base → base.Ns mainGlobals mg → FnOk l.prog w (K w.params) mg base (L2.CX l.prog w) 9 fa fd ["_law_script"] (spM (K w.params) Cl 1 m_law)) :
    PySem.W.WalkO q loose XP YP l.row.toRowW d [] (fun f vs => PySem.call f vs) :=
  L2.walk_ofB (n := 63) (k := 9) (x := "_law_script") (CX := fun w => L2.CX l.prog w) (sp := fun w vs H Q E => ∀ Cl, spM (K w.params) Cl 1 m_law vs H Q E) hn (by decide) hdf ⟨rfl, by decide, by decide⟩ hY
    (fun w mg fa h X G hm => by
      obtain ⟨fd, Cl, b, f⟩ := F w mg fa h X G hm
      exact ⟨fd, b, fun base h1 h2 => (f base h1 h2).imp fun vs H Q E q => q Cl⟩)
    (fun w H a ns hl hb hO hS Cl => law_sp hO hS (hlaw ns hl hb)) (fun _ _ _ _ _ z => by obtain ⟨_, _, _, _, _, _, _, _, _, _, _, _, z⟩ := z; exact z)
end Gn

open PySem PySem.W PyProof.Rows
set_option maxRecDepth 100000 in
set_option maxHeartbeats 0 in
theorem PySem.Challenge.cw_onestepcourt_k23_whole_runs_by_openings_holds : PySem.Challenge.rw_onestepcourt_k23_whole_runs_by_openings.Holds := by
  w_on; o_law; k_head; (case hw => w_witness2)
  k_fill
  refine Gn.walk (l := PySem.Challenge.rw_onestepcourt_k23_whole_runs_by_openings) rfl rfl (fun w h Y => PySem.W.kIn_of Y) Gn.law_true ?F
  case F =>
    intro w mg fa h KX G hmg
    refine' Gn.all_mk KX G hmg ?aC_Book ?aC_Digests ?aC_Memory ?aC_Machine ?aC_CourtError ?aC_BadOpening ?a_Machine_told ?i_Machine_told ?l_Machine_told ?c_Machine_told ?k_Machine_told ?a_Memory_words ?i_Memory_words ?l_Memory_words ?c_Memory_words ?k_Memory_words ?a_Machine_words ?i_Machine_words ?l_Machine_words ?c_Machine_words ?k_Machine_words ?a_Memory_word ?i_Memory_word ?l_Memory_word ?c_Memory_word ?k_Memory_word ?a_Machine_word ?i_Machine_word ?l_Machine_word ?c_Machine_word ?k_Machine_word ?a_Machine_registers ?i_Machine_registers ?l_Machine_registers ?c_Machine_registers ?k_Machine_registers ?a_Memory_root ?i_Memory_root ?l_Memory_root ?c_Memory_root ?k_Memory_root ?a_Machine_root ?i_Machine_root ?l_Machine_root ?c_Machine_root ?k_Machine_root ?a_Book_add ?i_Book_add ?l_Book_add ?c_Book_add ?k_Book_add ?a_Digests_kept ?i_Digests_kept ?l_Digests_kept ?c_Digests_kept ?k_Digests_kept ?a_Digests_state ?i_Digests_state ?l_Digests_state ?c_Digests_state ?k_Digests_state ?a_Machine_digest ?i_Machine_digest ?l_Machine_digest ?c_Machine_digest ?k_Machine_digest ?a_Memory_path ?i_Memory_path ?l_Memory_path ?c_Memory_path ?k_Memory_path ?a_Machine_path ?i_Machine_path ?l_Machine_path ?c_Machine_path ?k_Machine_path ?a_name_of ?l_name_of ?c_name_of ?k_name_of ?a_data_of ?l_data_of ?c_data_of ?k_data_of ?a_wrapped ?l_wrapped ?c_wrapped ?k_wrapped ?a_compared ?l_compared ?c_compared ?k_compared ?a_op ?l_op ?c_op ?k_op ?a_mark_of ?l_mark_of ?c_mark_of ?k_mark_of ?a_halted ?l_halted ?c_halted ?k_halted ?a_Digests_fold ?i_Digests_fold ?l_Digests_fold ?c_Digests_fold ?k_Digests_fold ?a_Digests_leaf ?i_Digests_leaf ?l_Digests_leaf ?c_Digests_leaf ?k_Digests_leaf ?a_pc_behind ?l_pc_behind ?c_pc_behind ?k_pc_behind ?a_acc_behind ?l_acc_behind ?c_acc_behind ?k_acc_behind ?a_done_by ?l_done_by ?c_done_by ?k_done_by ?a_Memory_change ?i_Memory_change ?l_Memory_change ?c_Memory_change ?k_Memory_change ?a_Machine_step ?i_Machine_step ?l_Machine_step ?c_Machine_step ?k_Machine_step ?a_L_bag ?l_L_bag ?c_L_bag ?k_L_bag ?a_L_draw ?l_L_draw ?c_L_draw ?k_L_draw ?a_Book_init ?i_Book_init ?l_Book_init ?c_Book_init ?k_Book_init ?a_Digests_init ?i_Digests_init ?l_Digests_init ?c_Digests_init ?k_Digests_init ?a_folded ?l_folded ?c_folded ?k_folded ?a_Memory_init ?i_Memory_init ?l_Memory_init ?c_Memory_init ?k_Memory_init ?a_Machine_init ?i_Machine_init ?l_Machine_init ?c_Machine_init ?k_Machine_init ?a_L_start ?l_L_start ?c_L_start ?k_L_start ?a_L_word ?l_L_word ?c_L_word ?k_L_word ?a_L_words ?l_L_words ?c_L_words ?k_L_words ?a_opened ?l_opened ?c_opened ?k_opened ?a_must ?l_must ?c_must ?k_must ?a_is_integer ?l_is_integer ?c_is_integer ?k_is_integer ?a_is_word ?l_is_word ?c_is_word ?k_is_word ?a_Digests_is_digest ?i_Digests_is_digest ?l_Digests_is_digest ?c_Digests_is_digest ?k_Digests_is_digest ?a_are_registers ?l_are_registers ?c_are_registers ?k_are_registers ?a_is_part ?l_is_part ?c_is_part ?k_is_part ?a_is_opening ?l_is_opening ?c_is_opening ?k_is_opening ?a_root_by ?l_root_by ?c_root_by ?k_root_by ?a_root_with ?l_root_with ?c_root_with ?k_root_with ?a_step_of ?l_step_of ?c_step_of ?k_step_of ?a_L_taken ?l_L_taken ?c_L_taken ?k_L_taken ?a_Book_has_collision ?i_Book_has_collision ?l_Book_has_collision ?c_Book_has_collision ?k_Book_has_collision ?a_law ?l_law ?c_law ?k_law ?pg_Book ?hd_Book ?po_Book ?sa_Book ?mk_Book ?kc_Book ?n_Book__texts ?n_Book__collision ?pg_Digests ?hd_Digests ?po_Digests ?sa_Digests ?mk_Digests ?kc_Digests ?n_Digests__modulus ?n_Digests__book ?n_Digests__bits ?pg_Memory ?hd_Memory ?po_Memory ?sa_Memory ?mk_Memory ?kc_Memory ?n_Memory__words ?n_Memory__rows ?n_Memory__digests ?pg_Machine ?hd_Machine ?po_Machine ?sa_Machine ?mk_Machine ?kc_Machine ?n_Machine__told ?n_Machine__memory ?n_Machine__registers ?n_Machine__digests ?xe_BadOpening ?kc_BadOpening ?sb_BadOpening ?ty_BadOpening ?hsb_BadOpening ?hhd_BadOpening ?hty_BadOpening ?ex_BadOpening_BadOpening ?v_FIRST_STATE ?v_ARGUMENTS ?v_NAMES ?q_NAMES ?z_NAMES ?r_NAMES ?v_PLACES_machine ?v_CHANGERS ?q_CHANGERS ?z_CHANGERS ?r_CHANGERS ?v_READERS ?q_READERS ?z_READERS ?r_READERS ?v_SIGNS ?q_SIGNS ?z_SIGNS ?r_SIGNS ?v_MOST_WORD ?v_MOST_TOLD ?v_PLACES_trees ?v_MARKS ?q_MARKS ?z_MARKS ?r_MARKS ?v_DEPTH ?b_all ?b_bool ?b_int ?b_isinstance ?b_len ?b_list ?b_range ?b_tuple
    (case aC_Book => k_is); (case aC_Digests => k_is); (case aC_Memory => k_is); (case aC_Machine => k_is); (case aC_CourtError => k_is); (case aC_BadOpening => k_is)
    (case a_Machine_told => k_is); (case i_Machine_told => k_is); (case l_Machine_told => k_is); (case c_Machine_told => k_is); (case k_Machine_told => k_is); (case a_Memory_words => k_is)
    (case i_Memory_words => k_is); (case l_Memory_words => k_is); (case c_Memory_words => k_is); (case k_Memory_words => k_is); (case a_Machine_words => k_is); (case i_Machine_words => k_is)
    (case l_Machine_words => k_is); (case c_Machine_words => k_is); (case k_Machine_words => k_is); (case a_Memory_word => k_is); (case i_Memory_word => k_is); (case l_Memory_word => k_is)
    (case c_Memory_word => k_is); (case k_Memory_word => k_is); (case a_Machine_word => k_is); (case i_Machine_word => k_is); (case l_Machine_word => k_is); (case c_Machine_word => k_is)
    (case k_Machine_word => k_is); (case a_Machine_registers => k_is); (case i_Machine_registers => k_is); (case l_Machine_registers => k_is); (case c_Machine_registers => k_is); (case k_Machine_registers => k_is)
    (case a_Memory_root => k_is); (case i_Memory_root => k_is); (case l_Memory_root => k_is); (case c_Memory_root => k_is); (case k_Memory_root => k_is); (case a_Machine_root => k_is)
    (case i_Machine_root => k_is); (case l_Machine_root => k_is); (case c_Machine_root => k_is); (case k_Machine_root => k_is); (case a_Book_add => k_is); (case i_Book_add => k_is)
    (case l_Book_add => k_is); (case c_Book_add => k_is); (case k_Book_add => k_is); (case a_Digests_kept => k_is); (case i_Digests_kept => k_is); (case l_Digests_kept => k_is)
    (case c_Digests_kept => k_is); (case k_Digests_kept => k_is); (case a_Digests_state => k_is); (case i_Digests_state => k_is); (case l_Digests_state => k_is); (case c_Digests_state => k_is)
    (case k_Digests_state => k_is); (case a_Machine_digest => k_is); (case i_Machine_digest => k_is); (case l_Machine_digest => k_is); (case c_Machine_digest => k_is); (case k_Machine_digest => k_is)
    (case a_Memory_path => k_is); (case i_Memory_path => k_is); (case l_Memory_path => k_is); (case c_Memory_path => k_is); (case k_Memory_path => k_is); (case a_Machine_path => k_is)
    (case i_Machine_path => k_is); (case l_Machine_path => k_is); (case c_Machine_path => k_is); (case k_Machine_path => k_is); (case a_name_of => k_is); (case l_name_of => k_is)
    (case c_name_of => k_is); (case k_name_of => k_is); (case a_data_of => k_is); (case l_data_of => k_is); (case c_data_of => k_is); (case k_data_of => k_is)
    (case a_wrapped => k_is); (case l_wrapped => k_is); (case c_wrapped => k_is); (case k_wrapped => k_is); (case a_compared => k_is); (case l_compared => k_is)
    (case c_compared => k_is); (case k_compared => k_is); (case a_op => k_is); (case l_op => k_is); (case c_op => k_is); (case k_op => k_is)
    (case a_mark_of => k_is); (case l_mark_of => k_is); (case c_mark_of => k_is); (case k_mark_of => k_is); (case a_halted => k_is); (case l_halted => k_is)
    (case c_halted => k_is); (case k_halted => k_is); (case a_Digests_fold => k_is); (case i_Digests_fold => k_is); (case l_Digests_fold => k_is); (case c_Digests_fold => k_is)
    (case k_Digests_fold => k_is); (case a_Digests_leaf => k_is); (case i_Digests_leaf => k_is); (case l_Digests_leaf => k_is); (case c_Digests_leaf => k_is); (case k_Digests_leaf => k_is)
    (case a_pc_behind => k_is); (case l_pc_behind => k_is); (case c_pc_behind => k_is); (case k_pc_behind => k_is); (case a_acc_behind => k_is); (case l_acc_behind => k_is)
    (case c_acc_behind => k_is); (case k_acc_behind => k_is); (case a_done_by => k_is); (case l_done_by => k_is); (case c_done_by => k_is); (case k_done_by => k_is)
    (case a_Memory_change => k_is); (case i_Memory_change => k_is); (case l_Memory_change => k_is); (case c_Memory_change => k_is); (case k_Memory_change => k_is); (case a_Machine_step => k_is)
    (case i_Machine_step => k_is); (case l_Machine_step => k_is); (case c_Machine_step => k_is); (case k_Machine_step => k_is); (case a_L_bag => k_is); (case l_L_bag => k_is)
    (case c_L_bag => k_is); (case k_L_bag => k_is); (case a_L_draw => k_is); (case l_L_draw => k_is); (case c_L_draw => k_is); (case k_L_draw => k_is)
    (case a_Book_init => k_is); (case i_Book_init => k_is); (case l_Book_init => k_is); (case c_Book_init => k_is); (case k_Book_init => k_is); (case a_Digests_init => k_is)
    (case i_Digests_init => k_is); (case l_Digests_init => k_is); (case c_Digests_init => k_is); (case k_Digests_init => k_is); (case a_folded => k_is); (case l_folded => k_is)
    (case c_folded => k_is); (case k_folded => k_is); (case a_Memory_init => k_is); (case i_Memory_init => k_is); (case l_Memory_init => k_is); (case c_Memory_init => k_is)
    (case k_Memory_init => k_is); (case a_Machine_init => k_is); (case i_Machine_init => k_is); (case l_Machine_init => k_is); (case c_Machine_init => k_is); (case k_Machine_init => k_is)
    (case a_L_start => k_is); (case l_L_start => k_is); (case c_L_start => k_is); (case k_L_start => k_is); (case a_L_word => k_is); (case l_L_word => k_is)
    (case c_L_word => k_is); (case k_L_word => k_is); (case a_L_words => k_is); (case l_L_words => k_is); (case c_L_words => k_is); (case k_L_words => k_is)
    (case a_opened => k_is); (case l_opened => k_is); (case c_opened => k_is); (case k_opened => k_is); (case a_must => k_is); (case l_must => k_is)
    (case c_must => k_is); (case k_must => k_is); (case a_is_integer => k_is); (case l_is_integer => k_is); (case c_is_integer => k_is); (case k_is_integer => k_is)
    (case a_is_word => k_is); (case l_is_word => k_is); (case c_is_word => k_is); (case k_is_word => k_is); (case a_Digests_is_digest => k_is); (case i_Digests_is_digest => k_is)
    (case l_Digests_is_digest => k_is); (case c_Digests_is_digest => k_is); (case k_Digests_is_digest => k_is); (case a_are_registers => k_is); (case l_are_registers => k_is); (case c_are_registers => k_is)
    (case k_are_registers => k_is); (case a_is_part => k_is); (case l_is_part => k_is); (case c_is_part => k_is); (case k_is_part => k_is); (case a_is_opening => k_is)
    (case l_is_opening => k_is); (case c_is_opening => k_is); (case k_is_opening => k_is); (case a_root_by => k_is); (case l_root_by => k_is); (case c_root_by => k_is)
    (case k_root_by => k_is); (case a_root_with => k_is); (case l_root_with => k_is); (case c_root_with => k_is); (case k_root_with => k_is); (case a_step_of => k_is)
    (case l_step_of => k_is); (case c_step_of => k_is); (case k_step_of => k_is); (case a_L_taken => k_is); (case l_L_taken => k_is); (case c_L_taken => k_is)
    (case k_L_taken => k_is); (case a_Book_has_collision => k_is); (case i_Book_has_collision => k_is); (case l_Book_has_collision => k_is); (case c_Book_has_collision => k_is); (case k_Book_has_collision => k_is)
    (case a_law => k_is); (case l_law => k_is); (case c_law => k_is); (case k_law => k_is); (case pg_Book => k_is); (case hd_Book => k_is)
    (case po_Book => k_is); (case sa_Book => k_is); (case mk_Book => k_is); (case kc_Book => k_is); (case n_Book__texts => k_is); (case n_Book__collision => k_is)
    (case pg_Digests => k_is); (case hd_Digests => k_is); (case po_Digests => k_is); (case sa_Digests => k_is); (case mk_Digests => k_is); (case kc_Digests => k_is)
    (case n_Digests__modulus => k_is); (case n_Digests__book => k_is); (case n_Digests__bits => k_is); (case pg_Memory => k_is); (case hd_Memory => k_is); (case po_Memory => k_is)
    (case sa_Memory => k_is); (case mk_Memory => k_is); (case kc_Memory => k_is); (case n_Memory__words => k_is); (case n_Memory__rows => k_is); (case n_Memory__digests => k_is)
    (case pg_Machine => k_is); (case hd_Machine => k_is); (case po_Machine => k_is); (case sa_Machine => k_is); (case mk_Machine => k_is); (case kc_Machine => k_is)
    (case n_Machine__told => k_is); (case n_Machine__memory => k_is); (case n_Machine__registers => k_is); (case n_Machine__digests => k_is); (case xe_BadOpening => k_exc); (case kc_BadOpening => k_is)
    (case sb_BadOpening => k_is); (case ty_BadOpening => k_is); (case hsb_BadOpening => k_is); (case hhd_BadOpening => k_is); (case hty_BadOpening => k_is); (case ex_BadOpening_BadOpening => k_is)
    (case v_FIRST_STATE => k_is); (case v_ARGUMENTS => k_is); (case v_NAMES => k_is); (case q_NAMES => k_is); (case z_NAMES => decide); (case r_NAMES => exact .cons ⟨_, rfl⟩ (.cons ⟨_, rfl⟩ (.cons ⟨_, rfl⟩ (.cons ⟨_, rfl⟩ (.cons ⟨_, rfl⟩ (.cons ⟨_, rfl⟩ (.cons ⟨_, rfl⟩ (.cons ⟨_, rfl⟩ (.cons ⟨_, rfl⟩ (.cons ⟨_, rfl⟩ (.cons ⟨_, rfl⟩ (.cons ⟨_, rfl⟩ (.cons ⟨_, rfl⟩ (.cons ⟨_, rfl⟩ (.cons ⟨_, rfl⟩ (.cons ⟨_, rfl⟩ (.cons ⟨_, rfl⟩ (.cons ⟨_, rfl⟩ (.cons ⟨_, rfl⟩ (.cons ⟨_, rfl⟩ (.cons ⟨_, rfl⟩ (.cons ⟨_, rfl⟩ (.cons ⟨_, rfl⟩ (.cons ⟨_, rfl⟩ (.cons ⟨_, rfl⟩ (.cons ⟨_, rfl⟩ (.cons ⟨_, rfl⟩ (.cons ⟨_, rfl⟩ (.cons ⟨_, rfl⟩ (.nil))))))))))))))))))))))))))))))
    (case v_PLACES_machine => k_is); (case v_CHANGERS => k_is); (case q_CHANGERS => k_is); (case z_CHANGERS => decide); (case r_CHANGERS => exact .cons ⟨_, rfl⟩ (.cons ⟨_, rfl⟩ (.cons ⟨_, rfl⟩ (.nil)))); (case v_READERS => k_is)
    (case q_READERS => k_is); (case z_READERS => decide); (case r_READERS => exact .cons ⟨_, rfl⟩ (.cons ⟨_, rfl⟩ (.cons ⟨_, rfl⟩ (.cons ⟨_, rfl⟩ (.cons ⟨_, rfl⟩ (.nil)))))); (case v_SIGNS => k_is); (case q_SIGNS => k_is); (case z_SIGNS => decide)
    (case r_SIGNS => exact .cons ⟨_, rfl⟩ (.cons ⟨_, rfl⟩ (.cons ⟨_, rfl⟩ (.cons ⟨_, rfl⟩ (.cons ⟨_, rfl⟩ (.cons ⟨_, rfl⟩ (.cons ⟨_, rfl⟩ (.cons ⟨_, rfl⟩ (.cons ⟨_, rfl⟩ (.cons ⟨_, rfl⟩ (.cons ⟨_, rfl⟩ (.nil)))))))))))); (case v_MOST_WORD => k_is); (case v_MOST_TOLD => k_is); (case v_PLACES_trees => k_is); (case v_MARKS => k_is); (case q_MARKS => k_is)
    (case z_MARKS => decide); (case r_MARKS => exact .cons ⟨_, rfl⟩ (.cons ⟨_, rfl⟩ (.cons ⟨_, rfl⟩ (.cons ⟨_, rfl⟩ (.cons ⟨_, rfl⟩ (.cons ⟨_, rfl⟩ (.cons ⟨_, rfl⟩ (.nil)))))))); (case v_DEPTH => k_is); (case b_all => k_is); (case b_bool => k_is); (case b_int => k_is)
    (case b_isinstance => k_is); (case b_len => k_is); (case b_list => k_is); (case b_range => k_is); (case b_tuple => k_is)
#print axioms PySem.Challenge.cw_onestepcourt_k23_whole_runs_by_openings_holds
