import PyProof.Rows.All
import Wide.All
import OpenK.AllK
import Wide.FinOn
import HandS.ForMost
import HandS.TupAny
import HandS.Wide
import HandS.IsInst
import HandS.Deep
import HandS.Flow
import HandS.TupMul
import HandS.TupLe
import HandS.TupLen
import HandS.SortOrd
import HandS.SortInts
import HandS.Walk
import HandS.Zip
import HandS.ForExc
import HandS.EndBits
import HandS.ExcCtx
import HandS.HotCalls
import HandS.Conv
import HandS.SortRule
import KE.KSortTup
import PyProof.Rows.SortShell
import PyProof.Rows.SortShellAny
import HandS.Text
import PyProof.AutoSeq1
import KE.GoesZip
import KE.GoesMore
import KE.GoesEnum
import HandS.ExcIs
import HandS.SetFor
import HandS.Strs
import HandS.Replace
import KE.KRevSl
import HandS.Dict
import HandS.Iter
import KE.KDictWalk
import KE.KEqDict
import KE.KDictSum
import KE.KDictCopyH
import HandS.More
import KE.SortData
import KE.KDictDisplayH
import HandS.SetKeys
import PyProof.WalksMore
import PyProof.SumAny
import KE.KDictZip
import KE.KDictItemsList
import HandS.ListItems
import KE.DataMinMax
import KE.KDictKeyed
import KE.KDictList
import KE.KTupSum
import HandS.Rev
import HandS.TupSets
import PySem.Challenge.RW_switchnets_k24_order_papers_told
set_option Elab.async false
set_option linter.all false
set_option maxRecDepth 100000
namespace Y
open PySem PySem.Spec PyProof.Rows L2
abbrev St := L2.St

/-- data at any depth; lists, dicts by what they hold; arg: the script -/
inductive D where
  | non | bl (b : Bool) | int (i : Int) | str (x : Str) | tup (xs : List D) | lst (xs : List D)
  | arg (ns : List Int) | dik (ks : List Key) (ds : List D) | dit (ks : List (List Key)) (ds : List D)
instance : Inhabited D := ⟨.non⟩
/-- a way of a run: an end, an exception of the program's own, anything else -/
inductive R (α : Type) where
  | ok (a : α) | er (c : Str) (ds : List D) | stk
@[simp] def R.bind {α β : Type} : R α → (α → R β) → R β
  | .ok a, f => f a
  | .er c ds, _ => .er c ds
  | .stk, _ => .stk
instance : Monad R where
  pure := .ok
  bind := R.bind
@[simp] theorem R.bind_ok {α β : Type} (a : α) (f : α → R β) : (R.ok a >>= f) = f a := id rfl
@[simp] theorem R.bind_stk {α β : Type} (f : α → R β) : ((R.stk : R α) >>= f) = .stk := id rfl
@[simp] theorem R.bind_er {α β : Type} (c : Str) (ds : List D) (f : α → R β) : ((R.er c ds : R α) >>= f) = .er c ds := id rfl
@[simp] theorem R.pure_eq {α : Type} (a : α) : (pure a : R α) = .ok a := id rfl
/-- the names' data by slot -/
abbrev Env := List (Option D)
/-- what an expression hands on: new data, data, or the object of an own slot -/
inductive Hd where
  | fr (d : D) | vl (d : D) | ow (i : Nat)
abbrev EM := Env → R (Hd × Env)
def look (i : Nat) (ρ : Env) : R D := match ρ[i]? with
  | some (some d) => .ok d
  | _ => .stk
def Hd.d : Hd → Env → R D
  | .fr d, _ => .ok d
  | .vl d, _ => .ok d
  | .ow i, ρ => look i ρ
def Hd.v : Hd → R D
  | .fr d => .ok d
  | .vl d => .ok d
  | .ow _ => .stk
def D.isMu : D → Bool
  | .lst _ => true
  | .dik _ _ => true
  | .dit _ _ => true
  | .arg _ => true
  | _ => false

abbrev Pr := Addr → Prop
mutual
/-- v is d, over objects none of which is forbidden (tuples never change: they may be any) -/
def Rep (K : PySem.W.Frag) (H : Hp) : D → Pr → V → Prop
  | .non, _, v => v = .non
  | .bl b, _, v => v = .bl b
  | .int i, _, v => v = .int i
  | .str x, _, v => v = .str x
  | .tup ds, P, v => ∃ a vs, v = .ref a ∧ H a = some (.tup vs) ∧ Reps K H ds P vs
  | .lst ds, P, v => ∃ a vs, v = .ref a ∧ ¬ P a ∧ H a = some (.lst vs) ∧ Reps K H ds (fun b => P b ∨ b = a) vs
  | .arg ns, P, v => ∃ a, v = .ref a ∧ ((¬ P a ∧ Rd H a (.lst (ns.map V.int))) ∨ SqL K (fun _ => none) a (ns.map V.int))
  | .dik ks ds, P, v => ∃ a vs, v = .ref a ∧ ¬ P a ∧ ks.length = vs.length ∧ Rd H a (.dK (ks.zip vs)) ∧ Reps K H ds (fun b => P b ∨ b = a) vs
  | .dit ks ds, P, v => ∃ a vs, v = .ref a ∧ ¬ P a ∧ ks.length = vs.length ∧ Rd H a (.dT (ks.zip vs)) ∧ Reps K H ds (fun b => P b ∨ b = a) vs
def Reps (K : PySem.W.Frag) (H : Hp) : List D → Pr → List V → Prop
  | [], _, vs => vs = []
  | d :: ds, P, vs => ∃ v ws, vs = v :: ws ∧ Rep K H d P v ∧ Reps K H ds P ws
end
/-- the object itself may be forbidden, what it holds not -/
def RepW (K : PySem.W.Frag) (H : Hp) : D → Pr → V → Prop
  | .lst ds, P, v => ∃ a vs, v = .ref a ∧ H a = some (.lst vs) ∧ Reps K H ds P vs
  | .arg ns, P, v => ∃ a, v = .ref a ∧ SqL K H a (ns.map V.int)
  | .dik ks ds, P, v => ∃ a vs, v = .ref a ∧ ks.length = vs.length ∧ Rd H a (.dK (ks.zip vs)) ∧ Reps K H ds P vs
  | .dit ks ds, P, v => ∃ a vs, v = .ref a ∧ ks.length = vs.length ∧ Rd H a (.dT (ks.zip vs)) ∧ Reps K H ds P vs
  | d, P, v => Rep K H d P v
/-- an own slot's object: it may be written -/
def RepO (K : PySem.W.Frag) (H : Hp) : D → Pr → V → Prop
  | .lst ds, P, v => ∃ a vs, v = .ref a ∧ H a = some (.lst vs) ∧ Reps K H ds P vs
  | .dik ks ds, P, v => ∃ a vs, v = .ref a ∧ ks.length = vs.length ∧ H a = some (.dK (ks.zip vs)) ∧ Reps K H ds P vs
  | .dit ks ds, P, v => ∃ a vs, v = .ref a ∧ ks.length = vs.length ∧ H a = some (.dT (ks.zip vs)) ∧ Reps K H ds P vs
  | .non, _, v => v = .non
  | .bl b, _, v => v = .bl b
  | .int i, _, v => v = .int i
  | .str x, _, v => v = .str x
  | _, _, _ => False

/-- an object that may change (or a list, a dict that is locked) -/
def isMut : Option HO → Prop
  | some (.lst _) => True
  | some (.dK _) => True
  | some (.dT _) => True
  | some (.ins _ _ _) => True
  | some (.set _ _) => True
  | some (.frz _ (.lst _)) => True
  | some (.frz _ (.dK _)) => True
  | some (.frz _ (.dT _)) => True
  | _ => False
theorem isMut.nt {H : Hp} {b : Addr} (h : isMut (H b)) {xs : List V} : ¬ Rd H b (.tup xs) := by
  rintro (e | ⟨o, e⟩) <;> (rw [e] at h; exact h)
theorem isMut.some {o : Option HO} (h : isMut o) : o ≠ none := by rintro rfl; exact h
theorem Rd.keep {H H' : Hp} {a : Addr} {u : HO} (r : Rd H a u) (k : ∀ o, H a = some o → H' a = some o) : Rd H' a u := by
  rcases r with e | ⟨o, e⟩
  · exact .inl (k _ e)
  · exact .inr ⟨o, k _ e⟩
theorem Rd.some {H : Hp} {a : Addr} {u : HO} (r : Rd H a u) : H a ≠ none := by
  rcases r with e | ⟨o, e⟩ <;> (rw [e]; intro z; cases z)

section
variable {K : PySem.W.Frag} {H H' : Hp}
mutual
theorem Rep.mono : ∀ (d : D) {P P' : Pr} {v : V}, (∀ b, P b → isMut (H b)) → (∀ b o, H b = some o → ¬ P b → H' b = some o) → (∀ b, P' b → P b ∨ H b = none) → Rep K H d P v → Rep K H' d P' v
  | .non, _, _, _, _, _, _, h => by unfold Rep at h ⊢; exact h
  | .bl _, _, _, _, _, _, _, h => by unfold Rep at h ⊢; exact h
  | .int _, _, _, _, _, _, _, h => by unfold Rep at h ⊢; exact h
  | .str _, _, _, _, _, _, _, h => by unfold Rep at h ⊢; exact h
  | .tup ds, P, P', v, hm, k, hp, h => by
    unfold Rep at h ⊢
    obtain ⟨a, vs, rfl, ht, hr⟩ := h
    exact ⟨a, vs, rfl, k a _ ht fun z => (hm a z).nt (.inl ht), Reps.mono ds hm k hp hr⟩
  | .lst ds, P, P', v, hm, k, hp, h => by
    unfold Rep at h ⊢
    obtain ⟨a, vs, rfl, ha, ht, hr⟩ := h
    refine ⟨a, vs, rfl, fun z => ?_, k a _ ht ha, Reps.mono ds (P := fun b => P b ∨ b = a) (fun b z => ?_) (fun b o e n => k b o e fun z => n (.inl z)) (fun b z => ?_) hr⟩
    · rcases hp a z with z | z
      · exact ha z
      · rw [ht] at z; cases z
    · rcases z with z | rfl
      · exact hm b z
      · rw [ht]; trivial
    · rcases z with z | z
      · rcases hp b z with z | z
        · exact .inl (.inl z)
        · exact .inr z
      · exact .inl (.inr z)
  | .arg ns, P, P', v, hm, k, hp, h => by
    unfold Rep at h ⊢
    obtain ⟨a, rfl, h⟩ := h
    refine ⟨a, rfl, ?_⟩
    rcases h with ⟨ha, ht⟩ | h
    · refine .inl ⟨fun z => ?_, Rd.keep ht fun o e => k a o e ha⟩
      rcases hp a z with z | z
      · exact ha z
      · exact Rd.some ht z
    · exact .inr h
  | .dik ks ds, P, P', v, hm, k, hp, h => by
    unfold Rep at h ⊢
    obtain ⟨a, vs, rfl, ha, hl, ht, hr⟩ := h
    refine ⟨a, vs, rfl, fun z => ?_, hl, Rd.keep ht fun o e => k a o e ha, Reps.mono ds (P := fun b => P b ∨ b = a) (fun b z => ?_) (fun b o e n => k b o e fun z => n (.inl z)) (fun b z => ?_) hr⟩
    · rcases hp a z with z | z
      · exact ha z
      · exact Rd.some ht z
    · rcases z with z | rfl
      · exact hm b z
      · rcases ht with e | ⟨o, e⟩ <;> (rw [e]; trivial)
    · rcases z with z | z
      · rcases hp b z with z | z
        · exact .inl (.inl z)
        · exact .inr z
      · exact .inl (.inr z)
  | .dit ks ds, P, P', v, hm, k, hp, h => by
    unfold Rep at h ⊢
    obtain ⟨a, vs, rfl, ha, hl, ht, hr⟩ := h
    refine ⟨a, vs, rfl, fun z => ?_, hl, Rd.keep ht fun o e => k a o e ha, Reps.mono ds (P := fun b => P b ∨ b = a) (fun b z => ?_) (fun b o e n => k b o e fun z => n (.inl z)) (fun b z => ?_) hr⟩
    · rcases hp a z with z | z
      · exact ha z
      · exact Rd.some ht z
    · rcases z with z | rfl
      · exact hm b z
      · rcases ht with e | ⟨o, e⟩ <;> (rw [e]; trivial)
    · rcases z with z | z
      · rcases hp b z with z | z
        · exact .inl (.inl z)
        · exact .inr z
      · exact .inl (.inr z)
theorem Reps.mono : ∀ (ds : List D) {P P' : Pr} {vs : List V}, (∀ b, P b → isMut (H b)) → (∀ b o, H b = some o → ¬ P b → H' b = some o) → (∀ b, P' b → P b ∨ H b = none) → Reps K H ds P vs → Reps K H' ds P' vs
  | [], _, _, _, _, _, _, h => by unfold Reps at h ⊢; exact h
  | d :: ds, P, P', vs, hm, k, hp, h => by
    unfold Reps at h ⊢
    obtain ⟨v, ws, rfl, h1, h2⟩ := h
    exact ⟨v, ws, rfl, Rep.mono d hm k hp h1, Reps.mono ds hm k hp h2⟩
end
theorem Reps.length : ∀ {ds : List D} {P : Pr} {vs : List V}, Reps K H ds P vs → vs.length = ds.length
  | [], _, _, h => by unfold Reps at h; subst h; rfl
  | d :: ds, P, vs, h => by
    unfold Reps at h
    obtain ⟨v, ws, rfl, _, h2⟩ := h
    rw [List.length_cons, List.length_cons, Reps.length h2]
theorem Reps.nil {P : Pr} : Reps K H [] P [] := by unfold Reps; rfl
theorem Reps.cons {d : D} {ds : List D} {P : Pr} {v : V} {vs : List V} (h : Rep K H d P v) (h2 : Reps K H ds P vs) : Reps K H (d :: ds) P (v :: vs) := by
  unfold Reps; exact ⟨v, vs, rfl, h, h2⟩
theorem Reps.nil_iff {P : Pr} {vs : List V} (h : Reps K H [] P vs) : vs = [] := by unfold Reps at h; exact h
theorem Reps.cons_iff {d : D} {ds : List D} {P : Pr} {vs : List V} (h : Reps K H (d :: ds) P vs) : ∃ v ws, vs = v :: ws ∧ Rep K H d P v ∧ Reps K H ds P ws := by unfold Reps at h; exact h
theorem Reps.get : ∀ {ds : List D} {P : Pr} {vs : List V} {i : Nat} {d : D}, Reps K H ds P vs → ds[i]? = some d → ∃ v, vs[i]? = some v ∧ Rep K H d P v
  | [], _, _, _, _, _, e => by simp at e
  | d :: ds, P, vs, 0, d', h, e => by
    obtain ⟨v, ws, rfl, h1, _⟩ := h.cons_iff
    simp at e; subst e
    exact ⟨v, rfl, h1⟩
  | d :: ds, P, vs, i + 1, d', h, e => by
    obtain ⟨v, ws, rfl, _, h2⟩ := h.cons_iff
    simpa using Reps.get h2 (by simpa using e)
theorem Reps.append : ∀ {ds es : List D} {P : Pr} {vs ws : List V}, Reps K H ds P vs → Reps K H es P ws → Reps K H (ds ++ es) P (vs ++ ws)
  | [], _, _, _, _, h, h2 => by rw [h.nil_iff]; exact h2
  | d :: ds, es, P, vs, ws, h, h2 => by
    obtain ⟨v, us, rfl, h1, h3⟩ := h.cons_iff
    exact Reps.cons h1 (Reps.append h3 h2)
theorem Reps.of_get : ∀ {ds : List D} {P : Pr} {vs : List V}, vs.length = ds.length → (∀ (i : Nat) (d : D) (v : V), ds[i]? = some d → vs[i]? = some v → Rep K H d P v) → Reps K H ds P vs
  | [], _, [], _, _ => Reps.nil
  | [], _, _ :: _, h, _ => by simp at h
  | _ :: _, _, [], h, _ => by simp at h
  | d :: ds, P, v :: vs, h, g => Reps.cons (g 0 d v rfl rfl) (Reps.of_get (by simpa using h) fun i d' v' e1 e2 => g (i + 1) d' v' (by simpa using e1) (by simpa using e2))
/-- forbidding less -/
theorem Rep.less {d : D} {P P' : Pr} {v : V} (hm : ∀ b, P b → isMut (H b)) (h : Rep K H d P v) (hp : ∀ b, P' b → P b) : Rep K H d P' v := h.mono d hm (fun _ _ e _ => e) fun b z => .inl (hp b z)
theorem Reps.less {ds : List D} {P P' : Pr} {vs : List V} (hm : ∀ b, P b → isMut (H b)) (h : Reps K H ds P vs) (hp : ∀ b, P' b → P b) : Reps K H ds P' vs := h.mono ds hm (fun _ _ e _ => e) fun b z => .inl (hp b z)
/-- nothing that stood is changed -/
theorem Rep.same {d : D} {P : Pr} {v : V} (hm : ∀ b, P b → isMut (H b)) (h : Rep K H d P v) (k : Same H H') : Rep K H' d P v := h.mono d hm (fun b o e _ => k b o e) fun _ z => .inl z
theorem Reps.same {ds : List D} {P : Pr} {vs : List V} (hm : ∀ b, P b → isMut (H b)) (h : Reps K H ds P vs) (k : Same H H') : Reps K H' ds P vs := h.mono ds hm (fun b o e _ => k b o e) fun _ z => .inl z
theorem mutL {a : Addr} {P : Pr} {vs : List V} (hm : ∀ b, P b → isMut (H b)) (h : H a = some (.lst vs)) : ∀ b, P b ∨ b = a → isMut (H b) := fun b z => by
  rcases z with z | rfl
  · exact hm b z
  · rw [h]; trivial
theorem mutK {a : Addr} {P : Pr} {vs : List (Key × V)} (hm : ∀ b, P b → isMut (H b)) (h : Rd H a (.dK vs)) : ∀ b, P b ∨ b = a → isMut (H b) := fun b z => by
  rcases z with z | rfl
  · exact hm b z
  · rcases h with e | ⟨o, e⟩ <;> (rw [e]; trivial)
theorem mutT {a : Addr} {P : Pr} {vs : List (List Key × V)} (hm : ∀ b, P b → isMut (H b)) (h : Rd H a (.dT vs)) : ∀ b, P b ∨ b = a → isMut (H b) := fun b z => by
  rcases z with z | rfl
  · exact hm b z
  · rcases h with e | ⟨o, e⟩ <;> (rw [e]; trivial)
theorem Rep.weak {d : D} {P : Pr} {v : V} (hm : ∀ b, P b → isMut (H b)) (h : Rep K H d P v) : RepW K H d P v := by
  cases d with
  | lst ds =>
    unfold Rep at h; unfold RepW
    obtain ⟨a, vs, rfl, _, ht, hr⟩ := h
    exact ⟨a, vs, rfl, ht, hr.less (mutL hm ht) fun b z => .inl z⟩
  | arg ns =>
    unfold Rep at h; unfold RepW
    obtain ⟨a, rfl, h⟩ := h
    rcases h with ⟨_, h⟩ | h
    · exact ⟨a, rfl, .inl h⟩
    · refine ⟨a, rfl, .inr ?_⟩
      rcases h with h | h
      · rcases h with e | ⟨o, e⟩ <;> cases e
      · exact h
  | dik ks ds =>
    unfold Rep at h; unfold RepW
    obtain ⟨a, vs, rfl, _, hl, ht, hr⟩ := h
    exact ⟨a, vs, rfl, hl, ht, hr.less (mutK hm ht) fun b z => .inl z⟩
  | dit ks ds =>
    unfold Rep at h; unfold RepW
    obtain ⟨a, vs, rfl, _, hl, ht, hr⟩ := h
    exact ⟨a, vs, rfl, hl, ht, hr.less (mutT hm ht) fun b z => .inl z⟩
  | non => exact h
  | bl _ => exact h
  | int _ => exact h
  | str _ => exact h
  | tup _ => exact h
theorem RepO.weak {d : D} {P : Pr} {v : V} (h : RepO K H d P v) : RepW K H d P v := by
  cases d with
  | lst ds => obtain ⟨a, vs, rfl, ht, hr⟩ := h; exact ⟨a, vs, rfl, ht, hr⟩
  | dik ks ds => obtain ⟨a, vs, rfl, hl, ht, hr⟩ := h; exact ⟨a, vs, rfl, hl, .inl ht, hr⟩
  | dit ks ds => obtain ⟨a, vs, rfl, hl, ht, hr⟩ := h; exact ⟨a, vs, rfl, hl, .inl ht, hr⟩
  | non => unfold RepW Rep; exact h
  | bl _ => unfold RepW Rep; exact h
  | int _ => unfold RepW Rep; exact h
  | str _ => unfold RepW Rep; exact h
  | tup _ => exact False.elim h
  | arg _ => exact False.elim h
theorem Rep.of_same {d : D} {P : Pr} {v : V} (hm : ∀ b, P b → isMut (H b)) (h : Rep K H d P v) (k : ∀ b o, H b = some o → ¬ P b → H' b = some o) : Rep K H' d P v := h.mono d hm k fun _ z => .inl z
/-- a new list, tuple -/
theorem Rep.newL {ds : List D} {P : Pr} {vs : List V} {p : Addr} (hm : ∀ b, P b → isMut (H b)) (h : Reps K H ds P vs) (hp : H p = none) : Rep K (upd H p (.lst vs)) (.lst ds) P (.ref p) := by
  unfold Rep
  refine ⟨p, vs, rfl, fun z => (hm p z).some hp, upd_same, h.mono ds hm (fun b o e _ => ?_) fun b z => ?_⟩
  · rw [upd_ne (ne_of_none e hp)]; exact e
  · rcases z with z | rfl
    · exact .inl z
    · exact .inr hp
theorem Rep.newT {ds : List D} {P : Pr} {vs : List V} {p : Addr} (hm : ∀ b, P b → isMut (H b)) (h : Reps K H ds P vs) (hp : H p = none) : Rep K (upd H p (.tup vs)) (.tup ds) P (.ref p) := by
  unfold Rep
  refine ⟨p, vs, rfl, upd_same, h.mono ds hm (fun b o e _ => ?_) fun b z => .inl z⟩
  rw [upd_ne (ne_of_none e hp)]; exact e
theorem Same.new {p : Addr} {o : HO} (hp : H p = none) : Same H (upd H p o) := fun b u e => by rw [upd_ne (ne_of_none e hp)]; exact e
end

/-- the own slots' objects -/
def OA (O : List Nat) (σ : St) (b : Addr) : Prop := ∃ i, i ∈ O ∧ σ[i]? = some (some (.ref b))
def FA (P0 : Pr) (O : List Nat) (σ : St) : Pr := fun b => P0 b ∨ OA O σ b
/-- the names' data ρ lie in the slots σ over H. P0: forbidden here; O: the own slots, whose lists and dicts this def may change: nothing else leads to them -/
structure Sim (K : PySem.W.Frag) (P0 : Pr) (O W : List Nat) (ρ : Env) (σ : St) (H : Hp) : Prop where
  sub : ∀ i ∈ W, i ∈ O
  len : ρ.length ≤ σ.length
  dom : ∀ b, FA P0 O σ b → isMut (H b)
  val : ∀ i d, ρ[i]? = some (some d) → i ∉ O → ∃ v, σ[i]? = some (some v) ∧ Rep K H d (FA P0 O σ) v
  own : ∀ i d, ρ[i]? = some (some d) → i ∈ O → ∃ v, σ[i]? = some (some v) ∧ RepO K H d (FA P0 O σ) v
  sep : ∀ i j a, i ∈ O → j ∈ O → σ[i]? = some (some (.ref a)) → σ[j]? = some (some (.ref a)) → i = j
  sep0 : ∀ a, OA O σ a → ¬ P0 a
/-- what an expression may do to the heap -/
structure Keep (O : List Nat) (σ : St) (H H' : Hp) : Prop where
  keep : ∀ b o, H b = some o → ¬ OA O σ b → H' b = some o
  some : ∀ b, H b ≠ none → H' b ≠ none
theorem Keep.refl {W : List Nat} {σ : St} {H : Hp} : Keep W σ H H := ⟨fun _ _ e _ => e, fun _ e => e⟩
theorem Keep.trans {W : List Nat} {σ : St} {H H1 H2 : Hp} (a : Keep W σ H H1) (b : Keep W σ H1 H2) : Keep W σ H H2 :=
  ⟨fun c o e n => b.keep c o (a.keep c o e n) n, fun c e => b.some c (a.some c e)⟩
theorem Keep.same {W : List Nat} {σ : St} {H H' : Hp} (k : Same H H') : Keep W σ H H' := ⟨fun b o e _ => k b o e, fun b e => by
  cases q : H b with
  | none => exact absurd q e
  | some o => rw [k b o q]; intro z; cases z⟩
section
variable {K : PySem.W.Frag} {P0 : Pr} {O W : List Nat} {ρ ρ' : Env} {σ : St} {H H' : Hp}
theorem Sim.oaw (S : Sim K P0 O W ρ σ H) {b : Addr} (z : OA W σ b) : OA O σ b := let ⟨i, hi, e⟩ := z; ⟨i, S.sub i hi, e⟩
theorem Sim.rep (S : Sim K P0 O W ρ σ H) (k : Keep W σ H H') {d : D} {v : V} (h : Rep K H d (FA P0 O σ) v) : Rep K H' d (FA P0 O σ) v :=
  h.of_same S.dom fun b o e n => k.keep b o e fun z => n (.inr (S.oaw z))
theorem Sim.reps (S : Sim K P0 O W ρ σ H) (k : Keep W σ H H') {d : List D} {v : List V} (h : Reps K H d (FA P0 O σ) v) : Reps K H' d (FA P0 O σ) v :=
  h.mono d S.dom (fun b o e n => k.keep b o e fun z => n (.inr (S.oaw z))) fun _ z => .inl z
/-- all that stood stands -/
theorem Sim.same (S : Sim K P0 O W ρ σ H) (k : Same H H') : Sim K P0 O W ρ σ H' where
  sub := S.sub
  len := S.len
  dom := fun b z => by
    have q := S.dom b z
    cases e : H b with
    | none => rw [e] at q; exact q.elim
    | some o => rw [k b o e, ← e]; exact q
  val := fun i d e n => let ⟨v, h1, h2⟩ := S.val i d e n; ⟨v, h1, h2.same S.dom k⟩
  own := fun i d e n => by
    obtain ⟨v, h1, h2⟩ := S.own i d e n
    refine ⟨v, h1, ?_⟩
    cases d with
    | lst ds => obtain ⟨a, vs, rfl, ht, hr⟩ := h2; exact ⟨a, vs, rfl, k _ _ ht, hr.same S.dom k⟩
    | dik ks ds => obtain ⟨a, vs, rfl, hl, ht, hr⟩ := h2; exact ⟨a, vs, rfl, hl, k _ _ ht, hr.same S.dom k⟩
    | dit ks ds => obtain ⟨a, vs, rfl, hl, ht, hr⟩ := h2; exact ⟨a, vs, rfl, hl, k _ _ ht, hr.same S.dom k⟩
    | non => exact h2
    | bl _ => exact h2
    | int _ => exact h2
    | str _ => exact h2
    | tup _ => exact h2
    | arg _ => exact h2
  sep := S.sep
  sep0 := S.sep0
/-- what lies in a slot, for reading -/
theorem Sim.look (S : Sim K P0 O W ρ σ H) {i : Nat} {d : D} (h : look i ρ = .ok d) : ∃ v, σ[i]? = some (some v) ∧ RepW K H d (FA P0 O σ) v := by
  unfold Y.look at h
  split at h
  · rename_i d' e
    cases h
    by_cases hi : i ∈ O
    · obtain ⟨v, h1, h2⟩ := S.own i d e hi
      exact ⟨v, h1, h2.weak⟩
    · obtain ⟨v, h1, h2⟩ := S.val i d e hi
      exact ⟨v, h1, h2.weak S.dom⟩
  · cases h
end
/-- what a handle says of a value; Hs: the heap ahead -/
def HdR (K : PySem.W.Frag) (P0 : Pr) (O : List Nat) (Hs : Hp) (σ : St) (H : Hp) : Hd → V → Prop
  | .fr d, v => Rep K H d (FA P0 O σ) v ∧ (d.isMu = true → ∀ a, v = .ref a → Hs a = none)
  | .vl d, v => Rep K H d (FA P0 O σ) v
  | .ow i, v => i ∈ O ∧ σ[i]? = some (some v)
section
variable {K : PySem.W.Frag} {P0 : Pr} {O W : List Nat} {ρ ρ' : Env} {σ : St} {Hs Hs' H H' : Hp}
theorem HdR.keep (S : Sim K P0 O W ρ σ H) (k : Keep W σ H H') {h : Hd} {v : V} (r : HdR K P0 O Hs σ H h v) : HdR K P0 O Hs σ H' h v := by
  cases h with
  | fr d => exact ⟨S.rep k r.1, r.2⟩
  | vl d => exact S.rep k r
  | ow i => exact r
/-- ahead of that -/
theorem HdR.back (k : ∀ b, Hs' b ≠ none → Hs b ≠ none) {h : Hd} {v : V} (r : HdR K P0 O Hs σ H h v) : HdR K P0 O Hs' σ H h v := by
  cases h with
  | fr d => exact ⟨r.1, fun m a e => Classical.byContradiction fun z => k a z (r.2 m a e)⟩
  | vl d => exact r
  | ow i => exact r
theorem HdR.d (S : Sim K P0 O W ρ σ H) {h : Hd} {v : V} {d : D} (r : HdR K P0 O Hs σ H h v) (e : h.d ρ = .ok d) : RepW K H d (FA P0 O σ) v := by
  cases h with
  | fr d' => cases e; exact r.1.weak S.dom
  | vl d' => cases e; exact Rep.weak S.dom r
  | ow i =>
    obtain ⟨w, h1, h2⟩ := S.look e
    have q : σ[i]? = some (some v) := r.2
    rw [q] at h1; cases h1
    exact h2
theorem HdR.v {h : Hd} {v : V} {d : D} (r : HdR K P0 O Hs σ H h v) (e : h.v = .ok d) : Rep K H d (FA P0 O σ) v := by
  cases h with
  | fr d' => cases e; exact r.1
  | vl d' => cases e; exact r
  | ow i => cases e
end
end Y

set_option Elab.async false
set_option linter.all false
set_option maxRecDepth 100000
namespace Y
open PySem PySem.Spec PyProof.Rows L2

/-- no exception is told on -/
def R.nox {α : Type} : R α → R α
  | .er _ _ => .stk
  | x => x
@[simp] theorem R.nox_ok {α : Type} (a : α) : (R.ok a).nox = .ok a := id rfl
@[simp] theorem R.nox_stk {α : Type} : (R.stk : R α).nox = .stk := id rfl
abbrev EK := Str → List D → Hp → Prop
def Res (E : EK) (W : List Nat) (σ : St) (H : Hp) {α : Type} (r : R α) (k : α → Prop) : Prop := match r with
  | .ok a => k a
  | .er c ds => ∀ H', Keep W σ H H' → E c ds H'
  | .stk => False
section
variable {E : EK} {O W : List Nat} {σ : St} {H H1 : Hp} {α β : Type}
theorem Res.of_bind {r : R α} {f : α → R β} {k : β → Prop} (h : Res E W σ H (r >>= f) k) : Res E W σ H r fun a => Res E W σ H (f a) k := by cases r <;> exact h
theorem Res.mono {r : R α} {k k' : α → Prop} (h : Res E W σ H r k) (i : ∀ a, k a → k' a) : Res E W σ H r k' := by
  cases r with
  | ok a => exact i a h
  | er c ds => exact h
  | stk => exact h
theorem Res.keep {r : R α} {k : α → Prop} (h : Res E W σ H r k) (kp : Keep W σ H H1) : Res E W σ H1 r k := by
  cases r with
  | ok a => exact h
  | er c ds => exact fun H' k2 => h H' (kp.trans k2)
  | stk => exact h
theorem Res.of_nox {r : R α} {f : α → R β} {k : β → Prop} (h : Res E W σ H (r.nox >>= f) k) : ∃ a, r = .ok a ∧ Res E W σ H (f a) k := by
  cases r with
  | ok a => exact ⟨a, rfl, h⟩
  | er c ds => exact h.elim
  | stk => exact h.elim
theorem Res.of_nox1 {r : R α} {k : α → Prop} (h : Res E W σ H r.nox k) : ∃ a, r = .ok a ∧ k a := by
  cases r with
  | ok a => exact ⟨a, rfl, h⟩
  | er c ds => exact h.elim
  | stk => exact h.elim
end

def tM (K : PySem.W.Frag) (P0 : Pr) (O W : List Nat) (E : EK) (m : EM) : TE := fun σ H Q => ∃ ρ, Sim K P0 O W ρ σ H ∧
  Res E W σ H (m ρ) fun a => ∀ v H', Sim K P0 O W a.2 σ H' → Keep W σ H H' → HdR K P0 O H σ H' a.1 v → Q v H'
/-- several, from the left -/
def HdRs (K : PySem.W.Frag) (P0 : Pr) (O : List Nat) (Hs : Hp) (σ : St) (H : Hp) : List Hd → List V → Prop
  | [], vs => vs = []
  | h :: hs, vs => ∃ v ws, vs = v :: ws ∧ HdR K P0 O Hs σ H h v ∧ HdRs K P0 O Hs σ H hs ws
abbrev AM := Env → R (List Hd × Env)
def tMs (K : PySem.W.Frag) (P0 : Pr) (O W : List Nat) (E : EK) (m : AM) : TA := fun σ H Q => ∃ ρ, Sim K P0 O W ρ σ H ∧
  Res E W σ H (m ρ) fun a => ∀ vs H', Sim K P0 O W a.2 σ H' → Keep W σ H H' → HdRs K P0 O H σ H' a.1 vs → Q vs H'
abbrev BM := Env → R (Bool × Env)
def tMt (K : PySem.W.Frag) (P0 : Pr) (O W : List Nat) (E : EK) (m : BM) : TT := fun σ H Q => ∃ ρ, Sim K P0 O W ρ σ H ∧
  Res E W σ H (m ρ) fun a => ∀ H', Sim K P0 O W a.2 σ H' → Keep W σ H H' → Q a.1 H'
theorem PE.imp {X : Cx} {e : Expr} {t t' : TE} (h : PE X e t) (i : ∀ σ H Q, t' σ H Q → t σ H Q) : PE X e t' := ⟨fun pins s σ H Q I q => h.run pins s σ H Q I (i σ H Q q)⟩
theorem PT.imp {X : Cx} {e : Expr} {t t' : TT} (h : PT X e t) (i : ∀ σ H Q, t' σ H Q → t σ H Q) : PT X e t' := ⟨fun pins s σ H Q I q => h.run pins s σ H Q I (i σ H Q q)⟩
theorem PW.imp {X : Cx} {e : Expr} {t t' : TT} (h : PW X e t) (i : ∀ σ H Q, t' σ H Q → t σ H Q) : PW X e t' := ⟨fun w pins s σ H Q I q => h.run w pins s σ H Q I (i σ H Q q)⟩
theorem PA.imp {X : Cx} {e : List Expr} {t t' : TA} (h : PA X e t) (i : ∀ σ H Q, t' σ H Q → t σ H Q) : PA X e t' := ⟨fun p pins s σ H Q I q => h.run p pins s σ H Q I (i σ H Q q)⟩
theorem PS.imp {X : Cx} {e : Stmt} {t t' : TS} (h : PS X e t) (i : ∀ D σ H, t' D σ H → t D σ H) : PS X e t' := ⟨fun pins s σ H D I q => h.run pins s σ H D I (i D σ H q)⟩
theorem PSs.imp {X : Cx} {e : List Stmt} {t t' : TS} (h : PSs X e t) (i : ∀ D σ H, t' D σ H → t D σ H) : PSs X e t' := ⟨fun pins s σ H D I q => h.run pins s σ H D I (i D σ H q)⟩
theorem PE.or {X : Cx} {e : Expr} {t t' : TE} (h : PE X e t) (h' : PE X e t') : PE X e fun σ H Q => t σ H Q ∨ t' σ H Q :=
  ⟨fun pins s σ H Q I q => q.elim (h.run pins s σ H Q I) (h'.run pins s σ H Q I)⟩
section
variable {K : PySem.W.Frag} {P0 : Pr} {O W : List Nat} {ρ ρ' : Env} {σ : St} {Hs Hs' H H' : Hp}
theorem HdRs.keep (S : Sim K P0 O W ρ σ H) (k : Keep W σ H H') : ∀ {hs : List Hd} {vs : List V}, HdRs K P0 O Hs σ H hs vs → HdRs K P0 O Hs σ H' hs vs
  | [], _, r => r
  | h :: hs, _, ⟨v, ws, e, r1, r2⟩ => ⟨v, ws, e, r1.keep S k, HdRs.keep S k r2⟩
theorem HdRs.back (k : ∀ b, Hs' b ≠ none → Hs b ≠ none) : ∀ {hs : List Hd} {vs : List V}, HdRs K P0 O Hs σ H hs vs → HdRs K P0 O Hs' σ H hs vs
  | [], _, r => r
  | h :: hs, _, ⟨v, ws, e, r1, r2⟩ => ⟨v, ws, e, r1.back k, HdRs.back k r2⟩
end

def cVar (i : Nat) : EM := fun ρ => do
  let d ← (look i ρ).nox
  pure (.vl d, ρ)
def cOwn (i : Nat) : EM := fun ρ => do
  let _ ← (look i ρ).nox
  pure (.ow i, ρ)
def cC (d : D) : EM := fun ρ => .ok (.fr d, ρ)
theorem look_some {i : Nat} {ρ : Env} {d : D} (h : look i ρ = .ok d) : ρ[i]? = some (some d) := by
  unfold look at h
  split at h
  · rename_i e; cases h; exact e
  · cases h
section
variable {X : Cx} {P0 : Pr} {O W : List Nat} {E : EK} {pos : Pos}
abbrev CEx (X : Cx) (P0 : Pr) (O W : List Nat) (E : EK) (e : Expr) (m : EM) : Prop := PE X e (tM X.K P0 O W E m)
theorem ce_var (i : Nat) {x : Str} (ho : i ∉ O := by decide) (hN : X.N[i]? = some x := by rfl) (hv : Vis X.env.scope x := by first | exact Or.inl rfl | exact Or.inr (Or.inl rfl) | exact Or.inr (Or.inr rfl)) (hd : (x == ("__debug__" : Str)) = false := by decide)
    (hcd : (x == ("__classdict__" : Str)) = false := by decide) : CEx X P0 O W E (.Name x pos) (cVar i) := PE.imp (pe_var (i := i) hN hv hd hcd) fun σ H Q ⟨ρ, S, h⟩ => by
  obtain ⟨d, e, h⟩ := h.of_nox
  obtain ⟨v, h1, h2⟩ := S.val i d (look_some e) ho
  exact ⟨v, h1, h v H S .refl h2⟩
theorem ce_own (i : Nat) {x : Str} (ho : i ∈ O := by decide) (hN : X.N[i]? = some x := by rfl) (hv : Vis X.env.scope x := by first | exact Or.inl rfl | exact Or.inr (Or.inl rfl) | exact Or.inr (Or.inr rfl)) (hd : (x == ("__debug__" : Str)) = false := by decide)
    (hcd : (x == ("__classdict__" : Str)) = false := by decide) : CEx X P0 O W E (.Name x pos) (cOwn i) := PE.imp (pe_var (i := i) hN hv hd hcd) fun σ H Q ⟨ρ, S, h⟩ => by
  obtain ⟨d, e, h⟩ := h.of_nox
  obtain ⟨v, h1, h2⟩ := S.own i d (look_some e) ho
  exact ⟨v, h1, h v H S .refl ⟨ho, h1⟩⟩
theorem c_of {v : V} {d : D} (h : ∀ H P, Rep X.K H d P v) (hm : d.isMu = false) : ∀ σ H Q, tM X.K P0 O W E (cC d) σ H Q → tC v σ H Q := fun σ H Q ⟨ρ, S, q⟩ =>
  q v H S .refl ⟨h _ _, fun z => by rw [hm] at z; cases z⟩
theorem ce_int {i j} : CEx X P0 O W E (.Constant (.int i) j pos) (cC (.int i)) := PE.imp pe_int (c_of (fun _ _ => by unfold Rep; rfl) rfl)
theorem ce_bl {i j} : CEx X P0 O W E (.Constant (.bool i) j pos) (cC (.bl i)) := PE.imp pe_bl (c_of (fun _ _ => by unfold Rep; rfl) rfl)
theorem ce_str {i j} : CEx X P0 O W E (.Constant (.str i) j pos) (cC (.str i)) := PE.imp pe_str (c_of (fun _ _ => by unfold Rep; rfl) rfl)
theorem ce_non {j} : CEx X P0 O W E (.Constant .none j pos) (cC .non) := PE.imp pe_non (c_of (fun _ _ => by unfold Rep; rfl) rfl)
end

def cOp (f : D → D → R D) (a b : EM) : EM := fun ρ => do
  let (h1, ρ1) ← a ρ
  let (h2, ρ2) ← b ρ1
  let x ← (h1.d ρ2).nox
  let y ← (h2.d ρ2).nox
  let z ← (f x y).nox
  pure (.fr z, ρ2)
/-- what is told on of an operation: new data -/
def Out (K : PySem.W.Frag) (P : Pr) (H : Hp) (d : D) (Q : VK) : Prop := ∀ v H', Same H H' → Rep K H' d P v → (d.isMu = true → ∀ a, v = .ref a → H a = none) → Q v H'
def rD (K : PySem.W.Frag) (f : D → D → R D) : R2 := fun x y H Q => ∃ (P : Pr) (dx dy dz : D), (∀ b, P b → isMut (H b)) ∧ RepW K H dx P x ∧ RepW K H dy P y ∧ f dx dy = .ok dz ∧ Out K P H dz Q
theorem Same.some {H H' : Hp} (k : Same H H') : ∀ b, H b ≠ none → H' b ≠ none := fun b e => by
  cases q : H b with
  | none => exact absurd q e
  | some o => rw [k b o q]; intro z; cases z
section
variable {K : PySem.W.Frag} {P0 : Pr} {O W : List Nat} {E : EK}
/-- an operation's end, told to what follows -/
theorem out_of {ρ : Env} {σ : St} {H H1 : Hp} {Q : VK} {d : D} (S : Sim K P0 O W ρ σ H1) (k : Keep W σ H H1)
    (h : ∀ v H', Sim K P0 O W ρ σ H' → Keep W σ H H' → HdR K P0 O H σ H' (.fr d) v → Q v H') : Out K (FA P0 O σ) H1 d Q := fun v H' sm r fr =>
  h v H' (S.same sm) (k.trans (Keep.same sm)) ⟨r, fun m a e => Classical.byContradiction fun z => k.some a z (fr m a e)⟩
theorem tM_op {f : D → D → R D} {a b : EM} (σ : St) (H : Hp) (Q : VK) (h : tM K P0 O W E (cOp f a b) σ H Q) : tOp (rD K f) (tM K P0 O W E a) (tM K P0 O W E b) σ H Q := by
  obtain ⟨ρ, S, h⟩ := h
  refine ⟨ρ, S, h.of_bind.mono fun ⟨h1, ρ1⟩ q x H1 S1 k1 r1 => ⟨ρ1, S1, (q.keep k1).of_bind.mono fun ⟨h2, ρ2⟩ q2 y H2 S2 k2 r2 => ?_⟩⟩
  obtain ⟨dx, e1, q3⟩ := q2.of_nox
  obtain ⟨dy, e2, q4⟩ := q3.of_nox
  obtain ⟨dz, e3, q5⟩ := q4.of_nox
  exact ⟨FA P0 O σ, dx, dy, dz, S2.dom, (r1.keep S1 k2).d S2 e1, r2.d S2 e2, e3, out_of S2 (k1.trans k2) q5⟩
/-- new data of no object -/
theorem Out.flat {P : Pr} {H : Hp} {d : D} {v : V} {Q : VK} (h : Out K P H d Q) (r : Rep K H d P v) (hm : d.isMu = false) : Q v H := h v H (fun _ _ e => e) r fun z => by rw [hm] at z; cases z
theorem Out.int {P : Pr} {H : Hp} {i : Int} {Q : VK} (h : Out K P H (.int i) Q) : Q (.int i) H := h.flat (by unfold Rep; rfl) rfl
theorem Out.bl {P : Pr} {H : Hp} {i : Bool} {Q : VK} (h : Out K P H (.bl i) Q) : Q (.bl i) H := h.flat (by unfold Rep; rfl) rfl
theorem Out.str {P : Pr} {H : Hp} {i : Str} {Q : VK} (h : Out K P H (.str i) Q) : Q (.str i) H := h.flat (by unfold Rep; rfl) rfl
theorem Out.non {P : Pr} {H : Hp} {Q : VK} (h : Out K P H .non Q) : Q .non H := h.flat (by unfold Rep; rfl) rfl
theorem Out.newL {P : Pr} {H : Hp} {ds : List D} {vs : List V} {Q : VK} (h : Out K P H (.lst ds) Q) (hm : ∀ b, P b → isMut (H b)) (r : Reps K H ds P vs) {p : Addr} (hp : H p = none) : Q (.ref p) (upd H p (.lst vs)) :=
  h _ _ (Same.new hp) (Rep.newL hm r hp) fun _ a e => by cases e; exact hp
theorem Out.newT {P : Pr} {H : Hp} {ds : List D} {vs : List V} {Q : VK} (h : Out K P H (.tup ds) Q) (hm : ∀ b, P b → isMut (H b)) (r : Reps K H ds P vs) {p : Addr} (hp : H p = none) : Q (.ref p) (upd H p (.tup vs)) :=
  h _ _ (Same.new hp) (Rep.newT hm r hp) fun z => by cases z
/-- reading a datum's form -/
theorem RepW.int {H : Hp} {i : Int} {P : Pr} {v : V} (h : RepW K H (.int i) P v) : v = .int i := by unfold RepW Rep at h; exact h
theorem RepW.bl {H : Hp} {i : Bool} {P : Pr} {v : V} (h : RepW K H (.bl i) P v) : v = .bl i := by unfold RepW Rep at h; exact h
theorem RepW.str {H : Hp} {i : Str} {P : Pr} {v : V} (h : RepW K H (.str i) P v) : v = .str i := by unfold RepW Rep at h; exact h
theorem RepW.non {H : Hp} {P : Pr} {v : V} (h : RepW K H .non P v) : v = .non := by unfold RepW Rep at h; exact h
theorem RepW.tup {H : Hp} {ds : List D} {P : Pr} {v : V} (h : RepW K H (.tup ds) P v) : ∃ a vs, v = .ref a ∧ H a = some (.tup vs) ∧ Reps K H ds P vs := by unfold RepW Rep at h; exact h
theorem RepW.lst {H : Hp} {ds : List D} {P : Pr} {v : V} (h : RepW K H (.lst ds) P v) : ∃ a vs, v = .ref a ∧ H a = some (.lst vs) ∧ Reps K H ds P vs := h
theorem RepW.arg {H : Hp} {ds : List Int} {P : Pr} {v : V} (h : RepW K H (.arg ds) P v) : ∃ a, v = .ref a ∧ SqL K H a (ds.map V.int) := h
theorem Rep.tup_of {H : Hp} {ds : List D} {P : Pr} {a : Addr} {vs : List V} (h : H a = some (.tup vs)) (r : Reps K H ds P vs) : Rep K H (.tup ds) P (.ref a) := by unfold Rep; exact ⟨a, vs, rfl, h, r⟩
/-- a list or a tuple, for reading -/
def seqOf : D → Option (List D)
  | .lst ds => some ds
  | .tup ds => some ds
  | .arg ns => some (ns.map D.int)
  | _ => none
theorem reps_ints {H : Hp} {P : Pr} : ∀ ns : List Int, Reps K H (ns.map D.int) P (ns.map V.int)
  | [] => Reps.nil
  | n :: ns => Reps.cons (by unfold Rep; rfl) (reps_ints ns)
theorem RepW.seq {H : Hp} {d : D} {ds : List D} {P : Pr} {v : V} (h : RepW K H d P v) (e : seqOf d = some ds) : ∃ a vs, v = .ref a ∧ (SqL K H a vs ∨ SqT K H a vs) ∧ Reps K H ds P vs := by
  cases d <;> simp only [seqOf, Option.some.injEq, reduceCtorEq] at e
  · subst e; obtain ⟨a, vs, rfl, h1, h2⟩ := h.tup; exact ⟨a, vs, rfl, .inr (SqT.of h1), h2⟩
  · subst e; obtain ⟨a, vs, rfl, h1, h2⟩ := h.lst; exact ⟨a, vs, rfl, .inl (SqL.of h1), h2⟩
  · subst e; obtain ⟨a, rfl, h1⟩ := h.arg; exact ⟨a, _, rfl, .inl h1, reps_ints _⟩
end

/-- sizes that the machine bears -/
def szOk (n : Nat) : Bool := decide (n ≤ sizeLine)
def addD : D → D → R D
  | .int i, .int j => .ok (.int (i + j))
  | .str x, .str y => if szOk (x.length + y.length) = true then .ok (.str (x ++ y)) else .stk
  | .tup x, .tup y => if szOk (x.length + y.length) = true then .ok (.tup (x ++ y)) else .stk
  | .lst x, .lst y => if szOk (x.length + y.length) = true then .ok (.lst (x ++ y)) else .stk
  | _, _ => .stk
def subD : D → D → R D
  | .int i, .int j => .ok (.int (i - j))
  | _, _ => .stk
/-- either factor is small, or both are of at most 2 ^ 26 bits -/
def mulOk (i j : Int) : Bool := decide (i.natAbs < 2 ^ 64) || decide (j.natAbs < 2 ^ 64) || decide (i.natAbs.log2 < 2 ^ 26 - 8 ∧ j.natAbs.log2 < 2 ^ 26 - 8)
/-- a text as many times as told -/
def repS (k : Int) (x : Str) : Str := if k < 1 then Str.empty else if (k == 1 || x.length == 0) = true then x else ⟨(List.replicate k.toNat x.cps).foldl (· ++ ·) #[]⟩
def mulD : D → D → R D
  | .int i, .int j => if mulOk i j = true then .ok (.int (i * j)) else .stk
  | .lst x, .int k => if k < 2 ^ 20 ∧ -(2 ^ 20) < k ∧ szOk (x.length * k.toNat) = true then .ok (.lst (List.replicate k.toNat x).flatten) else .stk
  | .str x, .int k => if k < 2 ^ 20 ∧ -(2 ^ 20) < k ∧ szOk (x.length * k.toNat) = true then .ok (.str (repS k x)) else .stk
  | .tup x, .int k => if x.isEmpty = false ∧ -(2 ^ 20) < k ∧ k ≤ 1000 ∧ x.length ≤ 1000 then .ok (.tup (List.replicate k.toNat x).flatten) else .stk
  | _, _ => .stk
def smallPos (j : Int) : Bool := decide (0 < j ∧ j < 1073741824)
def fdivD : D → D → R D
  | .int i, .int j => if smallPos j = true then .ok (.int (i / j)) else .stk
  | _, _ => .stk
def modD : D → D → R D
  | .int i, .int j => if 0 < j then .ok (.int (i % j)) else .stk
  | _, _ => .stk
theorem mulOk_ok {i j : Int} (h : mulOk i j = true) : IntMulOk i j := by
  unfold mulOk at h
  simp only [Bool.or_eq_true, decide_eq_true_eq] at h
  rcases h with (h | h) | ⟨h1, h2⟩
  · exact IntMulOk.of_left (intBits_le_64 (by omega) (by omega))
  · exact IntMulOk.of_right (intBits_le_64 (by omega) (by omega))
  · have b : ∀ x : Int, Builtin.Int.intBits x ≤ x.natAbs.log2 + 1 := fun x => by
      unfold Builtin.Int.intBits
      split <;> omega
    have h3 := b i
    have h4 := b j
    have e : bitsLine = 134217728 := by decide
    unfold IntMulOk
    intro z
    rw [Bool.and_eq_true] at z
    have z2 := z.2
    unfold Builtin.Int.intTooBig at z2
    have z3 := of_decide_eq_true z2
    rw [e] at z3
    omega
section
variable {X : Cx}
theorem od_int {f : Value → Value → Sem Value} {g : D → D → R D} {C : Int → Int → Prop} {h : Int → Int → Int} (ho : OpR X f (rI C fun i j => .int (h i j))) (hg : ∀ x y z, g x y = .ok z → ∃ i j, x = .int i ∧ y = .int j ∧ z = .int (h i j) ∧ C i j) : OpR X f (rD X.K g) := by
  intro pins s σ H x y v u Q I rx ry ⟨P, dx, dy, dz, hm, r1, r2, e, out⟩
  obtain ⟨i, j, rfl, rfl, rfl, c⟩ := hg dx dy dz e
  obtain rfl := r1.int
  obtain rfl := r2.int
  exact ho pins s σ H _ _ v u Q I rx ry ⟨i, j, rfl, rfl, c, out.int⟩
theorem od_sub : OpR X (binaryOp .Sub) (rD X.K subD) := od_int (C := fun _ _ => True) (h := fun i j => i - j) (fun pins s σ H x y v u Q I rx ry ⟨i, j, e1, e2, _, q⟩ => op_sub pins s σ H x y v u Q I rx ry ⟨i, j, e1, e2, q⟩) fun x y z e => by
  cases x <;> cases y <;> simp only [subD, R.ok.injEq, reduceCtorEq] at e
  exact ⟨_, _, rfl, rfl, e.symm, trivial⟩
theorem od_fdiv : OpR X (binaryOp .FloorDiv) (rD X.K fdivD) := od_int op_fdiv fun x y z e => by
  cases x <;> cases y <;> simp only [fdivD, R.ok.injEq, reduceCtorEq] at e
  split at e
  · rename_i c; cases e; exact ⟨_, _, rfl, rfl, rfl, by unfold smallPos at c; have c := of_decide_eq_true c; exact c⟩
  · cases e
theorem od_mod : OpR X (binaryOp .Mod) (rD X.K modD) := od_int op_mod fun x y z e => by
  cases x <;> cases y <;> simp only [modD, R.ok.injEq, reduceCtorEq] at e
  split at e
  · rename_i c; cases e; exact ⟨_, _, rfl, rfl, rfl, c⟩
  · cases e
theorem od_add : OpR X (binaryOp .Add) (rD X.K addD) := by
  intro pins s σ H x y v u Q I rx ry ⟨P, dx, dy, dz, hm, r1, r2, e, out⟩
  cases dx <;> cases dy <;> simp only [addD, R.ok.injEq, reduceCtorEq] at e
  · subst e
    obtain rfl := r1.int
    obtain rfl := r2.int
    exact op_add pins s σ H _ _ v u Q I rx ry ⟨_, _, rfl, rfl, out.int⟩
  · split at e
    · rename_i c; cases e
      obtain rfl := r1.str
      obtain rfl := r2.str
      exact op_add_str pins s σ H _ _ v u Q I rx ry ⟨_, _, rfl, rfl, of_decide_eq_true c, out.str⟩
    · cases e
  · split at e
    · rename_i c; cases e
      obtain ⟨a, vs, rfl, h1, h2⟩ := r1.tup
      obtain ⟨b, ws, rfl, h3, h4⟩ := r2.tup
      refine op_catA pins s σ H _ _ v u Q I rx ry ⟨a, b, vs, ws, rfl, rfl, SqT.of h1, SqT.of h3, by rw [h2.length, h4.length]; exact of_decide_eq_true c, fun z => ?_, fun _ z => ?_, fun _ _ p hp => out.newT hm (h2.append h4) hp⟩
      · subst z
        have z := h2.length
        have z := List.length_eq_zero_iff.mp (show _ = 0 from z.symm)
        subst z
        rw [List.nil_append] at out
        exact out.flat (Rep.tup_of h3 h4) rfl
      · subst z
        have z := h4.length
        have z := List.length_eq_zero_iff.mp (show _ = 0 from z.symm)
        subst z
        rw [List.append_nil] at out
        exact out.flat (Rep.tup_of h1 h2) rfl
    · cases e
  · split at e
    · rename_i c; cases e
      obtain ⟨a, vs, rfl, h1, h2⟩ := r1.lst
      obtain ⟨b, ws, rfl, h3, h4⟩ := r2.lst
      exact op_cat pins s σ H _ _ v u Q I rx ry ⟨a, b, vs, ws, rfl, rfl, h1, h3, by rw [h2.length, h4.length]; exact of_decide_eq_true c, fun p hp => out.newL hm (h2.append h4) hp⟩
    · cases e
end
end Y

set_option Elab.async false
set_option linter.all false
set_option maxRecDepth 100000
namespace Y
open PySem PySem.Spec PyProof.Rows L2

section
open PySem.AutoSeq1 (wpAny_loadPart')
theorem tuple_mulS (l : Addr) (items : Array Value) (n : Nat) (dd : Option Addr) (sl : Array (Option Value)) (x : Int) (u : Tok) (c0 : (decide (x < -(2 ^ 63)) || decide (x ≥ 2 ^ 63)) = false) (c1 : (items.isEmpty || x == 1) = true) :
    Meets (Builtin.«tuple.__mul__» ⟨[.ref l, .int x u], []⟩) (fun _ R s => s.heap.get? l = some { cls := .type "tuple", dict := dd, data := .seq items n, slots := sl } ∧
      R (.ok (.ret (Value.ref l))) s) :=
  .of_wp fun prog w A R s h => by
    obtain ⟨hp, g, d, tk, os⟩ := s
    obtain ⟨hl, h⟩ := h
    have f1 := AutoSeq1.idx_int
    wp_walk using wpAny_loadPart' hl
    repeat (first
      | (refine wpAny_ite_false (decide_eq_false (by rw [c0]; exact Bool.false_ne_true)) ?_; wp_walk using wpAny_loadPart' hl)
      | (refine wpAny_ite_true (decide_eq_true c1) ?_; wp_walk using wpAny_loadPart' hl))
    exact ⟨_, rfl, h⟩
theorem tuple_mulE (l : Addr) (items : Array Value) (n : Nat) (dd : Option Addr) (sl : Array (Option Value)) (x : Int) (u : Tok) (c0 : (decide (x < -(2 ^ 63)) || decide (x ≥ 2 ^ 63)) = false) (c1 : (items.isEmpty || x == 1) = false) (c2 : (decide (x ≤ 0) || items.isEmpty) = true) :
    Meets (Builtin.«tuple.__mul__» ⟨[.ref l, .int x u], []⟩) (fun _ R s => s.heap.get? l = some { cls := .type "tuple", dict := dd, data := .seq items n, slots := sl } ∧
      R (.ok (.ret (Value.ref s.heap.objs.size))) { s with heap := s.heap.push { cls := Value.type "tuple", data := Data.seq #[] }, toks := s.toks }) :=
  .of_wp fun prog w A R s h => by
    obtain ⟨hp, g, d, tk, os⟩ := s
    obtain ⟨hl, h⟩ := h
    have f1 := AutoSeq1.idx_int
    wp_walk using wpAny_loadPart' hl
    repeat (first
      | (refine wpAny_ite_false (decide_eq_false (by rw [c0]; exact Bool.false_ne_true)) ?_; wp_walk using wpAny_loadPart' hl)
      | (refine wpAny_ite_false (decide_eq_false (by rw [c1]; exact Bool.false_ne_true)) ?_; wp_walk using wpAny_loadPart' hl)
      | (refine wpAny_ite_true (decide_eq_true c2) ?_; wp_walk using wpAny_loadPart' hl))
    exact ⟨_, rfl, h⟩
end
/-- a tuple times an int: once is the tuple itself -/
theorem op_repT1 {X : Cx} : OpR X (binaryOp .Mult) (fun x y H Q => ∃ l xs, x = .ref l ∧ y = .int 1 ∧ SqT X.K H l xs ∧ Q (.ref l) H) := by
  intro pins s σ H x y v u Q I rx ry h
  obtain ⟨l, xs, rfl, rfl, hT, q⟩ := h
  cases rx
  obtain ⟨t, rfl⟩ := ry
  obtain ⟨its, r, ⟨⟨cls, dd, data, sl⟩, ho, hc, n, hd⟩, hs⟩ := I.tuple hT
  simp only at hc hd
  subst hc hd
  have c0 : (decide ((1 : Int) < -(2 ^ 63)) || decide ((1 : Int) ≥ 2 ^ 63)) = false := by decide
  refine wpAny_binaryOp_repeat_ref (T := "tuple") (U := "int") (by decide) ⟨_, ho, rfl⟩ (fun s' => typeIs_int s' 1 t) noFill_tuple_mul F.fills_int_mul F.slot_int_rmul repeat_tuple F.slot_int_index.lookup
    (call_meets F.slot_int_rmul (typeIs_int s 1 t) F.entry_int_rmul (F.args_int_rmul_2 _ _) (int_rmul_tuple 1 t l its.toArray n dd sl)
      ⟨ho, rfl, ⟨_, ho, rfl⟩, call_meets F.slot_tuple_mul ⟨_, ho, rfl⟩ F.entry_tuple_mul (F.args_tuple_mul_2 _ _) (tuple_mulS l its.toArray n dd sl 1 t c0 (by simp)) ⟨ho, ?_⟩⟩)
  exact ⟨.ref l, H, I, rfl, q⟩
/-- no time or fewer: an empty tuple -/
theorem op_repT0 {X : Cx} : OpR X (binaryOp .Mult) (fun x y H Q => ∃ l k xs, x = .ref l ∧ y = .int k ∧ SqT X.K H l xs ∧ xs ≠ [] ∧ k ≤ 0 ∧ -(2 ^ 20) < k ∧ ∀ p, H p = none → Q (.ref p) (upd H p (.tup []))) := by
  intro pins s σ H x y v u Q I rx ry h
  obtain ⟨l, k, xs, rfl, rfl, hT, hne, h1, h2, q⟩ := h
  cases rx
  obtain ⟨t, rfl⟩ := ry
  obtain ⟨its, r, ⟨⟨cls, dd, data, sl⟩, ho, hc, n, hd⟩, hs⟩ := I.tuple hT
  simp only at hc hd
  subst hc hd
  have hi : its.toArray.isEmpty = false := by
    cases its with
    | nil => exact absurd (List.eq_nil_of_length_eq_zero r.length) hne
    | cons a b => rfl
  have c0 : (decide (k < -(2 ^ 63)) || decide (k ≥ 2 ^ 63)) = false := by
    rw [decide_eq_false (by omega), decide_eq_false (by omega)] <;> rfl
  have c1 : (its.toArray.isEmpty || k == 1) = false := by
    rw [hi, Bool.false_or]
    exact beq_eq_false_iff_ne.mpr (by omega)
  have c2 : (decide (k ≤ 0) || its.toArray.isEmpty) = true := by
    rw [decide_eq_true h1, Bool.true_or]
  refine wpAny_binaryOp_repeat_ref (T := "tuple") (U := "int") (by decide) ⟨_, ho, rfl⟩ (fun s' => typeIs_int s' k t) noFill_tuple_mul F.fills_int_mul F.slot_int_rmul repeat_tuple F.slot_int_index.lookup
    (call_meets F.slot_int_rmul (typeIs_int s k t) F.entry_int_rmul (F.args_int_rmul_2 _ _) (int_rmul_tuple k t l its.toArray n dd sl)
      ⟨ho, rfl, ⟨_, ho, rfl⟩, call_meets F.slot_tuple_mul ⟨_, ho, rfl⟩ F.entry_tuple_mul (F.args_tuple_mul_2 _ _) (tuple_mulE l its.toArray n dd sl k t c0 c1 c2) ⟨ho, ?_⟩⟩)
  refine ⟨.ref s.heap.objs.size, _, I.laid (t' := s.toks) (o := .tup []) (fun b ob q => Heap.get?_push_of_some _ q) (Nat.le_refl _) ?_, rfl, q _ (I.hok.fresh (Nat.le_refl _))⟩
  exact ⟨Nat.zero_le _, [], .nil, IsTup.new _ _⟩
theorem rep_all {K : PySem.W.Frag} {H : Hp} {P : Pr} {ds : List D} {vs : List V} (h : Reps K H ds P vs) : ∀ k : Nat, Reps K H (List.replicate k ds).flatten P (List.replicate k vs).flatten
  | 0 => Reps.nil
  | k + 1 => by rw [List.replicate_succ, List.replicate_succ, List.flatten_cons, List.flatten_cons]; exact h.append (rep_all h k)
noncomputable instance : DecidableEq (List D) := fun _ _ => Classical.propDecidable _
noncomputable instance : DecidableEq D := fun _ _ => Classical.propDecidable _
section
variable {X : Cx}
theorem repS_len (k : Int) (x : Str) : (⟨(List.replicate k.toNat x.cps).foldl (· ++ ·) #[]⟩ : Str).length = x.length * k.toNat := by
  show Array.size _ = _
  have h : ∀ (m : Nat) (a : Array Nat), ((List.replicate m x.cps).foldl (· ++ ·) a).size = a.size + x.cps.size * m := by
    intro m
    induction m with
    | zero => intro a; simp
    | succ m ih => intro a; rw [List.replicate_succ, List.foldl_cons, ih, Array.size_append, Nat.mul_succ]; omega
  rw [h, Array.size_empty, Nat.zero_add]
  rfl
/-- a text times an int -/
theorem op_repS : OpR X (binaryOp .Mult) (fun x y H Q => ∃ i k, x = .str i ∧ y = .int k ∧ -(2 ^ 20) < k ∧ k < 2 ^ 20 ∧ i.length * k.toNat ≤ sizeLine ∧ Q (.str (repS k i)) H) := by
  intro pins s σ H x y v u Q I rx ry h
  obtain ⟨i, k, rfl, rfl, h1, h2, hz, q⟩ := h
  obtain ⟨t, rfl⟩ := rx
  obtain ⟨t', rfl⟩ := ry
  have hs : sizeLine ≤ 2 ^ 40 := by decide
  refine PySem.P.mul_str ?_ (fun c _ => ?_) (fun _ _ => decide_eq_false (by omega)) ?_
  · rw [decide_eq_false (by omega), decide_eq_false (by omega)]; rfl
  · have e : ((i.length * k.toNat : Nat) : Int) = (i.length : Int) * k := by rw [Int.natCast_mul, Int.toNat_of_nonneg (by omega)]
    have := (Int.le_ediv_iff_mul_le (a := (i.length : Int)) (b := 2 ^ 63 - 1) (c := k) (by omega)).mpr (by rw [← e]; omega)
    omega
  · unfold repS at q
    by_cases c1 : k < 1
    · rw [if_pos c1] at q ⊢
      exact ⟨by decide, ⟨.str _, H, I.tok _, ⟨_, rfl⟩, q⟩⟩
    · rw [if_neg c1] at q ⊢
      by_cases c2 : (k == 1 || i.length == 0) = true
      · rw [if_pos c2] at q ⊢
        exact ⟨.str _, H, I, ⟨_, rfl⟩, q⟩
      · rw [if_neg c2] at q ⊢
        exact ⟨by rw [repS_len]; exact hz, ⟨.str _, H, I.tok _, ⟨_, rfl⟩, q⟩⟩
theorem od_mul : OpR X (binaryOp .Mult) (rD X.K mulD) := by
  intro pins s σ H x y v u Q I rx ry ⟨P, dx, dy, dz, hm, r1, r2, e, out⟩
  cases dx <;> cases dy <;> simp only [mulD, R.ok.injEq, reduceCtorEq] at e
  case int.int =>
    split at e
    · rename_i c; cases e
      obtain rfl := r1.int
      obtain rfl := r2.int
      obtain ⟨t, rfl⟩ := rx
      obtain ⟨t', rfl⟩ := ry
      exact mul_int ⟨.int _, H, I.tok _, ⟨_, rfl⟩, out.int⟩ (mulOk_ok c)
    · cases e
  case str.int =>
    split at e
    · rename_i c; cases e
      obtain rfl := r1.str
      obtain rfl := r2.int
      exact op_repS pins s σ H _ _ v u Q I rx ry ⟨_, _, rfl, rfl, by omega, by omega, of_decide_eq_true c.2.2, out.str⟩
    · cases e
  case tup.int =>
    split at e
    · rename_i c; cases e
      obtain ⟨a, vs, rfl, h1, h2⟩ := r1.tup
      obtain rfl := r2.int
      rename_i ds k
      have hne : vs ≠ [] := fun z => by
        have z2 := h2.length
        rw [z] at z2
        have z3 := List.length_eq_zero_iff.mp z2.symm
        rw [z3] at c
        exact absurd c.1 (by decide)
      by_cases c1 : k = 1
      · subst c1
        have e1 : (List.replicate (1 : Int).toNat ds).flatten = ds := by
          show ds ++ [] = ds
          exact List.append_nil _
        rw [e1] at out
        exact op_repT1 pins s σ H _ _ v u Q I rx ry ⟨a, vs, rfl, rfl, SqT.of h1, out.flat (Rep.tup_of h1 h2) rfl⟩
      · by_cases c2 : k ≤ 0
        · have e1 : (List.replicate k.toNat ds).flatten = [] := by
            have : k.toNat = 0 := by omega
            rw [this]; rfl
          rw [e1] at out
          exact op_repT0 pins s σ H _ _ v u Q I rx ry ⟨a, _, vs, rfl, rfl, SqT.of h1, hne, c2, c.2.1, fun p hp => out.newT hm Reps.nil hp⟩
        · exact op_repT pins s σ H _ _ v u Q I rx ry ⟨a, _, vs, rfl, rfl, SqT.of h1, hne, by omega, c.2.2.1, by rw [h2.length]; exact c.2.2.2, fun p hp => out.newT hm (rep_all h2 _) hp⟩
    · cases e
  case lst.int =>
    split at e
    · rename_i c
      have c : _ ∧ _ ∧ _ := c
      cases e
      obtain ⟨a, vs, rfl, h1, h2⟩ := r1.lst
      obtain rfl := r2.int
      exact op_rep pins s σ H _ _ v u Q I rx ry ⟨a, _, vs, rfl, rfl, h1, by omega, by omega, by rw [h2.length]; exact of_decide_eq_true c.2.2, fun p hp => out.newL hm (rep_all h2 _) hp⟩
    · cases e
end

mutual
def toPy : D → PyData
  | .non => .none
  | .bl b => .bool b
  | .int i => .int i
  | .str x => .str x
  | .tup ds => .tuple (toPys ds)
  | .lst ds => .list (toPys ds)
  | .arg ns => .list (ns.map .int)
  | .dik _ _ => .dict []
  | .dit _ _ => .dict []
def toPys : List D → List PyData
  | [] => []
  | d :: ds => toPy d :: toPys ds
end
def dOk (d : D) : Bool := SeqAt.shaped (toPy d)
def eqP (x y : D) : Bool := PyData.eqv (toPy x) (toPy y)
theorem dp_ints {K : PySem.W.Frag} {H : Hp} : ∀ ns : List Int, DpAll K H (ns.map V.int) (ns.map PyData.int)
  | [] => .nil
  | n :: ns => .cons (.int n) (dp_ints ns)
mutual
theorem Rep.dp {K : PySem.W.Frag} {H : Hp} : ∀ (d : D) {P : Pr} {v : V}, (toPy d).canLay0 = true → Rep K H d P v → Dp K H v (toPy d)
  | .non, _, _, _, h => by unfold Rep at h; subst h; exact .non
  | .bl b, _, _, _, h => by unfold Rep at h; subst h; exact .bl b
  | .int i, _, _, _, h => by unfold Rep at h; subst h; exact .int i
  | .str i, _, _, _, h => by unfold Rep at h; subst h; exact .str i
  | .tup ds, P, v, c, h => by
    unfold Rep at h
    obtain ⟨a, vs, rfl, h1, h2⟩ := h
    unfold toPy at c ⊢
    exact .tup (SqT.of h1) (Reps.dp ds (by simpa [PyData.canLay0] using c) h2)
  | .lst ds, P, v, c, h => by
    unfold Rep at h
    obtain ⟨a, vs, rfl, _, h1, h2⟩ := h
    unfold toPy at c ⊢
    exact .lst (SqL.of h1) (Reps.dp ds (by simpa [PyData.canLay0] using c) h2)
  | .arg ns, P, v, c, h => by
    unfold Rep at h
    unfold toPy
    obtain ⟨a, rfl, h⟩ := h
    rcases h with ⟨_, h⟩ | h
    · exact .lst (.inl h) (dp_ints ns)
    · refine .lst (.inr ?_) (dp_ints ns)
      rcases h with h | h
      · rcases h with e | ⟨o, e⟩ <;> cases e
      · exact h
  | .dik _ _, _, _, c, _ => by simp [toPy, PyData.canLay0] at c
  | .dit _ _, _, _, c, _ => by simp [toPy, PyData.canLay0] at c
theorem Reps.dp {K : PySem.W.Frag} {H : Hp} : ∀ (ds : List D) {P : Pr} {vs : List V}, PyData.canLayAll0 (toPys ds) = true → Reps K H ds P vs → DpAll K H vs (toPys ds)
  | [], _, _, _, h => by rw [h.nil_iff]; exact .nil
  | d :: ds, P, vs, c, h => by
    obtain ⟨v, ws, rfl, h1, h2⟩ := h.cons_iff
    unfold toPys at c ⊢
    have c := Bool.and_eq_true_iff.mp (show (PyData.canLay0 (toPy d) && PyData.canLayAll0 (toPys ds)) = true by simpa [PyData.canLayAll0] using c)
    exact .cons (Rep.dp d c.1 h1) (Reps.dp ds c.2 h2)
end
theorem RepW.dp {K : PySem.W.Frag} {H : Hp} {d : D} {P : Pr} {v : V} (c : dOk d = true) (h : RepW K H d P v) : Dp K H v (toPy d) := by
  have c := SeqAt.canLay_of_shaped c
  cases d with
  | lst ds =>
    obtain ⟨a, vs, rfl, h1, h2⟩ := h
    unfold toPy at c ⊢
    exact .lst (SqL.of h1) (Reps.dp ds (by simpa [PyData.canLay0] using c) h2)
  | arg ns =>
    obtain ⟨a, rfl, h1⟩ := h
    unfold toPy
    exact .lst h1 (dp_ints ns)
  | dik _ _ => simp [toPy, PyData.canLay0] at c
  | dit _ _ => simp [toPy, PyData.canLay0] at c
  | non => exact Rep.dp (P := P) _ c h
  | bl _ => exact Rep.dp (P := P) _ c h
  | int _ => exact Rep.dp (P := P) _ c h
  | str _ => exact Rep.dp (P := P) _ c h
  | tup _ => exact Rep.dp (P := P) _ c h
def eqD (x y : D) : R D := if (dOk x && dOk y) = true then .ok (.bl (eqP x y)) else .stk
def neD (x y : D) : R D := if (dOk x && dOk y) = true then .ok (.bl (!eqP x y)) else .stk
def ltD : D → D → R D
  | .int i, .int j => .ok (.bl (decide (i < j)))
  | .str x, .str y => .ok (.bl (decide (x.cps.toList < y.cps.toList)))
  | _, _ => .stk
def gtD : D → D → R D
  | .int i, .int j => .ok (.bl (decide (j < i)))
  | _, _ => .stk
def geD : D → D → R D
  | .int i, .int j => .ok (.bl (decide (j ≤ i)))
  | _, _ => .stk
def isNon : D → Bool
  | .non => true
  | _ => false
def isD : D → D → R D
  | x, .non => .ok (.bl (isNon x))
  | .bl a, .bl b => .ok (.bl (decide (a = b)))
  | _, _ => .stk
def flatD : D → Bool
  | .non => true
  | .bl _ => true
  | .int _ => true
  | .str _ => true
  | _ => false
/-- in a text of one sign, a list of data, a tuple of flat data -/
def inB : D → D → Option Bool
  | .str a, .str b => if a.length = 1 then some (decide (a.cps.getD 0 0 ∈ b.cps.toList)) else none
  | x, .lst ds => if (dOk x && dOk (.lst ds)) = true then some (ds.any fun z => eqP z x) else none
  | x, .tup ds => if (flatD x && ds.all flatD) = true then some (ds.any fun z => eqP z x) else none
  | _, _ => none
def inD (x y : D) : R D := match inB x y with | some b => .ok (.bl b) | none => .stk
def ninD (x y : D) : R D := match inB x y with | some b => .ok (.bl (!b)) | none => .stk
section
variable {K : PySem.W.Frag} {H : Hp} {P : Pr}
theorem RepW.isNon {d : D} {v : V} (h : RepW K H d P v) : decide (v = .non) = isNon d := by
  cases d with
  | non => rw [h.non]; rfl
  | bl _ => rw [h.bl]; rfl
  | int _ => rw [h.int]; rfl
  | str _ => rw [h.str]; rfl
  | tup _ => obtain ⟨a, vs, rfl, _⟩ := h.tup; rfl
  | lst _ => obtain ⟨a, vs, rfl, _⟩ := h.lst; rfl
  | arg _ => obtain ⟨a, rfl, _⟩ := h.arg; rfl
  | dik _ _ => obtain ⟨a, vs, rfl, _⟩ := h; rfl
  | dit _ _ => obtain ⟨a, vs, rfl, _⟩ := h; rfl
theorem flat_rep {d : D} {v : V} (f : flatD d = true) (h : Rep K H d P v) : flatV v = true := by
  cases d <;> unfold Rep at h <;> first | (subst h; rfl) | (simp [flatD] at f)
theorem flat_eq {d e : D} {v w : V} (f : flatD d = true) (g : flatD e = true) (h : Rep K H d P v) (h2 : Rep K H e P w) : eqV v w = eqP d e := by
  cases d <;> unfold Rep at h <;> first | (simp [flatD] at f; done) | skip
  all_goals (cases e <;> unfold Rep at h2 <;> first | (simp [flatD] at g; done) | skip)
  all_goals (subst h; subst h2; simp [eqV, eqP, toPy, PyData.eqv])
theorem flats_rep : ∀ {ds : List D} {vs : List V}, ds.all flatD = true → Reps K H ds P vs → vs.all flatV = true
  | [], _, _, h => by rw [h.nil_iff]; rfl
  | d :: ds, vs, f, h => by
    obtain ⟨v, ws, rfl, h1, h2⟩ := h.cons_iff
    rw [List.all_cons, Bool.and_eq_true] at f ⊢
    exact ⟨flat_rep f.1 h1, flats_rep f.2 h2⟩
theorem inV_rep {x : D} {v : V} (g : flatD x = true) (hx : Rep K H x P v) : ∀ {ds : List D} {vs : List V}, ds.all flatD = true → Reps K H ds P vs → inV v vs = ds.any fun z => eqP z x
  | [], _, _, h => by rw [h.nil_iff]; rfl
  | d :: ds, vs, f, h => by
    obtain ⟨w, ws, rfl, h1, h2⟩ := h.cons_iff
    rw [List.all_cons, Bool.and_eq_true] at f
    have ih := inV_rep g hx f.2 h2
    unfold inV at ih ⊢
    rw [List.any_cons, List.any_cons, ih, flat_eq f.1 g h1 hx]
theorem flatW {d : D} {v : V} (f : flatD d = true) (h : RepW K H d P v) : Rep K H d P v := by
  cases d <;> first | exact h | (simp [flatD] at f)
theorem dp_any {x : D} : ∀ ds : List D, ((toPys ds).any fun z => PyData.eqv z (toPy x)) = ds.any fun z => eqP z x
  | [] => rfl
  | d :: ds => by unfold toPys; rw [List.any_cons, List.any_cons, dp_any ds]; rfl
end
section
variable {X : Cx}
theorem od_eq (hu : X.A.units + 64 < cLine) : OpR X (compareOp .Eq) (rD X.K eqD) := by
  intro pins s σ H x y v u Q I rx ry ⟨P, dx, dy, dz, hm, r1, r2, e, out⟩
  unfold eqD at e
  split at e
  · rename_i c; cases e
    rw [Bool.and_eq_true] at c
    exact op_eqD hu pins s σ H x y v u Q I rx ry ⟨_, _, r1.dp c.1, r2.dp c.2, c.1, c.2, out.bl⟩
  · cases e
theorem od_ne (hu : X.A.units + 64 < cLine) : OpR X (compareOp .NotEq) (rD X.K neD) := by
  intro pins s σ H x y v u Q I rx ry ⟨P, dx, dy, dz, hm, r1, r2, e, out⟩
  unfold neD at e
  split at e
  · rename_i c; cases e
    rw [Bool.and_eq_true] at c
    exact op_neD hu pins s σ H x y v u Q I rx ry ⟨_, _, r1.dp c.1, r2.dp c.2, c.1, c.2, out.bl⟩
  · cases e
theorem od_cmp {op : CmpOp} {f : D → D → R D} {p : Int → Int → Bool} (ho : OpR X (compareOp op) (rI0 fun i j => .bl (p i j))) (hf : ∀ x y z, f x y = .ok z → ∃ i j, x = .int i ∧ y = .int j ∧ z = .bl (p i j)) : OpR X (compareOp op) (rD X.K f) := by
  intro pins s σ H x y v u Q I rx ry ⟨P, dx, dy, dz, hm, r1, r2, e, out⟩
  obtain ⟨i, j, rfl, rfl, rfl⟩ := hf _ _ _ e
  obtain rfl := r1.int
  obtain rfl := r2.int
  exact ho pins s σ H _ _ v u Q I rx ry ⟨_, _, rfl, rfl, out.bl⟩
theorem od_gt : OpR X (compareOp .Gt) (rD X.K gtD) := od_cmp op_gt fun x y z e => by
  cases x <;> cases y <;> simp only [gtD, R.ok.injEq, reduceCtorEq] at e
  exact ⟨_, _, rfl, rfl, e.symm⟩
theorem od_ge : OpR X (compareOp .GtE) (rD X.K geD) := od_cmp op_ge fun x y z e => by
  cases x <;> cases y <;> simp only [geD, R.ok.injEq, reduceCtorEq] at e
  exact ⟨_, _, rfl, rfl, e.symm⟩
theorem od_lt : OpR X (compareOp .Lt) (rD X.K ltD) := by
  intro pins s σ H x y v u Q I rx ry ⟨P, dx, dy, dz, hm, r1, r2, e, out⟩
  cases dx <;> cases dy <;> simp only [ltD, R.ok.injEq, reduceCtorEq] at e
  · subst e
    obtain rfl := r1.int
    obtain rfl := r2.int
    exact op_lt pins s σ H _ _ v u Q I rx ry ⟨_, _, rfl, rfl, out.bl⟩
  · subst e
    obtain rfl := r1.str
    obtain rfl := r2.str
    exact op_lt_str pins s σ H _ _ v u Q I rx ry ⟨_, _, rfl, rfl, out.bl⟩
theorem od_is : OpR X (compareOp .Is) (rD X.K isD) := by
  intro pins s σ H x y v u Q I rx ry ⟨P, dx, dy, dz, hm, r1, r2, e, out⟩
  unfold isD at e
  split at e
  · cases e
    obtain rfl := r2.non
    exact op_isN pins s σ H _ _ v u Q I rx ry ⟨rfl, by rw [r1.isNon]; exact out.bl⟩
  · cases e
    obtain rfl := r1.bl
    obtain rfl := r2.bl
    exact op_is_bl pins s σ H _ _ v u Q I rx ry ⟨_, _, rfl, rfl, out.bl⟩
  · cases e
theorem one_sign {a : Str} (h : a.length = 1) : a = ⟨#[a.cps.getD 0 0]⟩ := by
  refine Str.ext' ?_
  have h : a.cps.size = 1 := h
  apply Array.ext
  · simpa using h
  · intro i h1 h2
    have : i = 0 := by simp at h2; omega
    subst this
    simp [Array.getD, h]
theorem od_nin (hu : X.A.units + 65 < cLine) : OpR X (compareOp .NotIn) (rD X.K ninD) := by
  intro pins s σ H x y v u Q I rx ry ⟨P, dx, dy, dz, hm, r1, r2, e, out⟩
  unfold ninD at e
  split at e
  · rename_i b eb
    cases e
    unfold inB at eb
    split at eb
    · split at eb
      · rename_i c; cases eb
        obtain rfl := r1.str
        obtain rfl := r2.str
        refine op_notIn_sign pins s σ H _ _ v u Q I rx ry ⟨_, _, congrArg V.str (one_sign c), rfl, out.bl⟩
      · cases eb
    · split at eb
      · rename_i c; cases eb
        rw [Bool.and_eq_true] at c
        refine op_notInD hu pins s σ H _ _ v u Q I rx ry ⟨_, toPys _, r1.dp c.1, by have q := r2.dp c.2; unfold toPy at q; exact q, c.1, by have q := c.2; unfold dOk toPy at q; exact q, ?_⟩
        rw [dp_any]
        exact out.bl
      · cases eb
    · split at eb
      · rename_i c; cases eb
        rw [Bool.and_eq_true] at c
        obtain ⟨a, vs, rfl, h1, h2⟩ := r2.tup
        refine op_notIn_seq pins s σ H _ _ v u Q I rx ry ⟨a, vs, rfl, .inr (SqT.of h1), flat_rep c.1 (flatW c.1 r1), flats_rep c.2 h2, ?_⟩
        rw [if_pos rfl, inV_rep c.1 (flatW c.1 r1) c.2 h2]
        exact out.bl
      · cases eb
    · cases eb
  · cases e
end
end Y

set_option Elab.async false
set_option linter.all false
set_option maxRecDepth 100000
namespace Y
open PySem PySem.Spec PyProof.Rows L2

section
variable {X : Cx} {P0 : Pr} {O W : List Nat} {E : EK} {a b c : Expr} {ma mb mc : EM} {pos : Pos}
theorem ce_bin {op : Operator} {f : D → D → R D} (ho : OpR X (binaryOp op) (rD X.K f)) (ha : CEx X P0 O W E a ma) (hb : CEx X P0 O W E b mb) : CEx X P0 O W E (.BinOp a op b pos) (cOp f ma mb) := PE.imp (pe_op ho ha hb) tM_op
theorem ce_cmp {op : CmpOp} {f : D → D → R D} (ho : OpR X (compareOp op) (rD X.K f)) (ha : CEx X P0 O W E a ma) (hb : CEx X P0 O W E b mb) (hm : behindInMarks op b = false := by rfl) : CEx X P0 O W E (.Compare a [op] [b] pos) (cOp f ma mb) := PE.imp (pe_cmpR ho ha hb hm) tM_op
/-- a handle's truth -/
def truD : D → R Bool
  | .non => .ok false
  | .bl b => .ok b
  | .int i => .ok (i != 0)
  | .str x => if szOk x.length = true then .ok (x.length != 0) else .stk
  | .tup ds => .ok (!ds.isEmpty)
  | .lst ds => .ok (!ds.isEmpty)
  | .arg ns => .ok (!ns.isEmpty)
  | .dik _ _ => .stk
  | .dit _ _ => .stk
theorem truD_ok {K : PySem.W.Frag} {H : Hp} {P : Pr} {d : D} {v : V} {k : Bool} (h : truD d = .ok k) (r : RepW K H d P v) : TruV K v H k := by
  cases d <;> simp only [truD, R.ok.injEq, reduceCtorEq] at h
  · rw [r.non]; exact h.symm
  · rw [r.bl]; exact h.symm
  · rw [r.int]; exact h.symm
  · split at h
    · rename_i c; cases h
      rw [r.str]
      exact ⟨of_decide_eq_true c, by
        show (_ != _) = (_ != _)
        simp only [bne, Nat.beq_eq_true_eq]
        congr 1
        exact Bool.eq_iff_iff.mpr (by simp)⟩
    · cases h
  · obtain ⟨a, vs, rfl, h1, h2⟩ := r.tup
    refine .inr (.inl ⟨vs, SqT.of h1, ?_⟩)
    rw [← h]
    rename_i ds
    have := h2.length
    cases vs <;> cases ds <;> simp at this ⊢
  · obtain ⟨a, vs, rfl, h1, h2⟩ := r.lst
    refine .inl ⟨vs, SqL.of h1, ?_⟩
    rw [← h]
    rename_i ds
    have := h2.length
    cases vs <;> cases ds <;> simp at this ⊢
  · obtain ⟨a, rfl, h1⟩ := r.arg
    refine .inl ⟨_, h1, ?_⟩
    rw [← h]
    rename_i ns
    cases ns <;> rfl
abbrev CT (X : Cx) (P0 : Pr) (O W : List Nat) (E : EK) (e : Expr) (m : BM) : Prop := PT X e (tMt X.K P0 O W E m)
def cTru (m : EM) : BM := fun ρ => do
  let (h, ρ1) ← m ρ
  let d ← (h.d ρ1).nox
  let b ← (truD d).nox
  pure (b, ρ1)
theorem ct_val (ha : CEx X P0 O W E a ma) (he : ∀ whole, isTrue a X.env whole = (do let v ← whole; standAt a.pos; holding [v] (truthy v)) := by intro _; rfl) : CT X P0 O W E a (cTru ma) := PT.imp (pt_truth ha he) fun σ H Q ⟨ρ, S, h⟩ =>
  ⟨ρ, S, h.of_bind.mono fun ⟨h1, ρ1⟩ q v H1 S1 k1 r1 => by
    obtain ⟨d, e1, q⟩ := q.of_nox
    obtain ⟨k, e2, q⟩ := q.of_nox
    exact ⟨k, truD_ok e2 (r1.d S1 e1), q H1 S1 k1⟩⟩
/-- a comparison as a test -/
def cBl (m : EM) : BM := fun ρ => do
  let (h, ρ1) ← m ρ
  let d ← h.v.nox
  match d with
  | .bl k => pure (k, ρ1)
  | _ => .stk
theorem tM_bl {m : EM} (σ : St) (H : Hp) (Q : Bool → Hp → Prop) (h : tMt X.K P0 O W E (cBl m) σ H Q) : tTest (tM X.K P0 O W E m) σ H Q := by
  obtain ⟨ρ, S, h⟩ := h
  refine ⟨ρ, S, h.of_bind.mono fun ⟨h1, ρ1⟩ q v H1 S1 k1 r1 => ?_⟩
  obtain ⟨d, e1, q⟩ := q.of_nox
  have r := r1.v e1
  cases d <;> first | (exact q.elim) | skip
  unfold Rep at r
  exact ⟨_, r, q H1 S1 k1⟩
theorem tTest_imp {t t' : TE} (i : ∀ σ H Q, t' σ H Q → t σ H Q) {σ : St} {H : Hp} {Q : Bool → Hp → Prop} (h : tTest t' σ H Q) : tTest t σ H Q := i σ H _ h
theorem ct_cmp {op : CmpOp} {f : D → D → R D} (ho : OpR X (compareOp op) (rD X.K f)) (ha : CEx X P0 O W E a ma) (hb : CEx X P0 O W E b mb) (hm : behindInMarks op b = false := by rfl) : CT X P0 O W E (.Compare a [op] [b] pos) (cBl (cOp f ma mb)) := PT.imp (pt_cmpR ho ha hb hm) fun σ H Q h => tTest_imp tM_op (tM_bl σ H Q h)
def cNotT (m : BM) : BM := fun ρ => do
  let (b, ρ1) ← m ρ
  pure (!b, ρ1)
theorem ct_not {m : BM} (h : CT X P0 O W E a m) : CT X P0 O W E (.UnaryOp .Not a pos) (cNotT m) := PT.imp (pt_not h) fun σ H Q ⟨ρ, S, h⟩ => ⟨ρ, S, h.of_bind.mono fun ⟨b, ρ1⟩ q => q⟩
abbrev CW (X : Cx) (P0 : Pr) (O W : List Nat) (E : EK) (e : Expr) (m : BM) : Prop := PW X e (tMt X.K P0 O W E m)
def cAndT (a b : BM) : BM := fun ρ => do
  let (k, ρ1) ← a ρ
  if k = true then b ρ1 else pure (false, ρ1)
def cOrT (a b : BM) : BM := fun ρ => do
  let (k, ρ1) ← a ρ
  if k = true then pure (true, ρ1) else b ρ1
theorem cw_and1 {m : BM} (h : CT X P0 O W E a m) : CW X P0 O W E (.BoolOp .And [a] pos) m := pw_and1 h
theorem cw_or1 {m : BM} (h : CT X P0 O W E a m) : CW X P0 O W E (.BoolOp .Or [a] pos) m := pw_or1 h
theorem cw_and {rest : List Expr} {m n : BM} (h : CT X P0 O W E a m) (h2 : CW X P0 O W E (.BoolOp .And (b :: rest) pos) n) : CW X P0 O W E (.BoolOp .And (a :: b :: rest) pos) (cAndT m n) := PW.imp (pw_and h h2) fun σ H Q ⟨ρ, S, h⟩ =>
  ⟨ρ, S, h.of_bind.mono fun ⟨k, ρ1⟩ q H1 S1 k1 => by
    cases k with
    | true => exact ⟨ρ1, S1, (q.keep k1).mono fun ⟨k2, ρ2⟩ q2 H2 S2 k3 => q2 H2 S2 (k1.trans k3)⟩
    | false => exact q H1 S1 k1⟩
theorem cw_or {rest : List Expr} {m n : BM} (h : CT X P0 O W E a m) (h2 : CW X P0 O W E (.BoolOp .Or (b :: rest) pos) n) : CW X P0 O W E (.BoolOp .Or (a :: b :: rest) pos) (cOrT m n) := PW.imp (pw_or h h2) fun σ H Q ⟨ρ, S, h⟩ =>
  ⟨ρ, S, h.of_bind.mono fun ⟨k, ρ1⟩ q H1 S1 k1 => by
    cases k with
    | false => exact ⟨ρ1, S1, (q.keep k1).mono fun ⟨k2, ρ2⟩ q2 H2 S2 k3 => q2 H2 S2 (k1.trans k3)⟩
    | true => exact q H1 S1 k1⟩
theorem ct_w {m : BM} (h : CW X P0 O W E a m) : CT X P0 O W E a m := h.pt
theorem HdR.then {K : PySem.W.Frag} {ρ : Env} {σ : St} {H H1 H2 : Hp} {hd : Hd} {v : V} (k : Keep W σ H H1) (r : HdR K P0 O H1 σ H2 hd v) : HdR K P0 O H σ H2 hd v := r.back k.some
def cAnd (a b : EM) : EM := fun ρ => do
  let (h, ρ1) ← a ρ
  let d ← (h.d ρ1).nox
  let k ← (truD d).nox
  if k = true then b ρ1 else pure (h, ρ1)
def cNot (m : EM) : EM := fun ρ => do
  let (h, ρ1) ← m ρ
  let d ← (h.d ρ1).nox
  let k ← (truD d).nox
  pure (.fr (.bl (!k)), ρ1)
theorem ce_one {op : BoolOp} (h : CEx X P0 O W E a ma) : CEx X P0 O W E (.BoolOp op [a] pos) ma := pe_one h
theorem ce_and {rest : List Expr} (h : CEx X P0 O W E a ma) (h2 : CEx X P0 O W E (.BoolOp .And (b :: rest) pos) mb) : CEx X P0 O W E (.BoolOp .And (a :: b :: rest) pos) (cAnd ma mb) := PE.imp (pe_andT h h2) fun σ H Q ⟨ρ, S, h⟩ =>
  ⟨ρ, S, h.of_bind.mono fun ⟨h1, ρ1⟩ q v H1 S1 k1 r1 => by
    obtain ⟨d, e1, q⟩ := q.of_nox
    obtain ⟨k, e2, q⟩ := q.of_nox
    refine ⟨k, truD_ok e2 (r1.d S1 e1), ?_⟩
    cases k with
    | true => exact ⟨ρ1, S1, (q.keep k1).mono fun ⟨h2, ρ2⟩ q2 w H2 S2 k2 r2 => q2 w H2 S2 (k1.trans k2) (r2.back k1.some)⟩
    | false => exact q v H1 S1 k1 r1⟩
theorem ce_not (h : CEx X P0 O W E a ma) : CEx X P0 O W E (.UnaryOp .Not a pos) (cNot ma) := PE.imp (pe_notT h) fun σ H Q ⟨ρ, S, h⟩ =>
  ⟨ρ, S, h.of_bind.mono fun ⟨h1, ρ1⟩ q v H1 S1 k1 r1 => by
    obtain ⟨d, e1, q⟩ := q.of_nox
    obtain ⟨k, e2, q⟩ := q.of_nox
    exact ⟨k, truD_ok e2 (r1.d S1 e1), (out_of S1 k1 q).bl⟩⟩
def cNeg (m : EM) : EM := fun ρ => do
  let (h, ρ1) ← m ρ
  let d ← h.v.nox
  match d with
  | .int i => pure (.fr (.int (-i)), ρ1)
  | _ => .stk
theorem ce_neg (h : CEx X P0 O W E a ma) : CEx X P0 O W E (.UnaryOp .USub a pos) (cNeg ma) := PE.imp (pe_un un_neg h) fun σ H Q ⟨ρ, S, h⟩ =>
  ⟨ρ, S, h.of_bind.mono fun ⟨h1, ρ1⟩ q v H1 S1 k1 r1 => by
    obtain ⟨d, e1, q⟩ := q.of_nox
    have r := r1.v e1
    cases d <;> first | (exact q.elim) | skip
    unfold Rep at r
    exact ⟨_, r, (out_of S1 k1 q).int⟩⟩
end
end Y

set_option Elab.async false
set_option linter.all false
set_option maxRecDepth 100000
namespace Y
open PySem PySem.Spec PyProof.Rows L2

def cNil : AM := fun ρ => .ok ([], ρ)
def cCons (a : EM) (as : AM) : AM := fun ρ => do
  let (h, ρ1) ← a ρ
  let (hs, ρ2) ← as ρ1
  pure (h :: hs, ρ2)
def vsOf : List Hd → R (List D)
  | [] => .ok []
  | h :: hs => do
    let d ← h.v.nox
    let ds ← vsOf hs
    pure (d :: ds)
def dsOf : List Hd → Env → R (List D)
  | [], _ => .ok []
  | h :: hs, ρ => do
    let d ← (h.d ρ).nox
    let ds ← dsOf hs ρ
    pure (d :: ds)
def RepWs (K : PySem.W.Frag) (H : Hp) : List D → Pr → List V → Prop
  | [], _, vs => vs = []
  | d :: ds, P, vs => ∃ v ws, vs = v :: ws ∧ RepW K H d P v ∧ RepWs K H ds P ws
theorem R.ok_of {α β : Type} {r : R α} {f : α → R β} {b : β} (h : (r >>= f) = .ok b) : ∃ a, r = .ok a ∧ f a = .ok b := by
  cases r with
  | ok a => exact ⟨a, rfl, h⟩
  | er c ds => cases h
  | stk => cases h
theorem R.nox_of {α : Type} {r : R α} {a : α} (h : r.nox = .ok a) : r = .ok a := by cases r <;> first | exact h | cases h
theorem RepWs.get1 {K : PySem.W.Frag} {H : Hp} {d : D} {P : Pr} {vs : List V} (h : RepWs K H [d] P vs) : ∃ v, vs = [v] ∧ RepW K H d P v := by
  obtain ⟨v, ws, rfl, h1, h2⟩ := h
  have h2 : ws = [] := h2
  subst h2
  exact ⟨v, rfl, h1⟩
theorem RepWs.get2 {K : PySem.W.Frag} {H : Hp} {d e : D} {P : Pr} {vs : List V} (h : RepWs K H [d, e] P vs) : ∃ v w, vs = [v, w] ∧ RepW K H d P v ∧ RepW K H e P w := by
  obtain ⟨v, ws, rfl, h1, h2⟩ := h
  obtain ⟨w, rfl, h3⟩ := RepWs.get1 h2
  exact ⟨v, w, rfl, h1, h3⟩
section
variable {K : PySem.W.Frag} {P0 : Pr} {O W : List Nat} {ρ : Env} {σ : St} {Hs H : Hp}
theorem HdRs.vs : ∀ {hs : List Hd} {vs : List V} {ds : List D}, HdRs K P0 O Hs σ H hs vs → vsOf hs = .ok ds → Reps K H ds (FA P0 O σ) vs
  | [], _, _, r, e => by cases e; have r : _ = [] := r; subst r; exact Reps.nil
  | h :: hs, _, _, ⟨v, ws, e, r1, r2⟩, q => by
    obtain ⟨d, e1, q⟩ := R.ok_of q
    obtain ⟨ds, e2, q⟩ := R.ok_of q
    cases q
    subst e
    exact Reps.cons (r1.v (R.nox_of e1)) (HdRs.vs r2 e2)
theorem HdRs.ds (S : Sim K P0 O W ρ σ H) : ∀ {hs : List Hd} {vs : List V} {ds : List D}, HdRs K P0 O Hs σ H hs vs → dsOf hs ρ = .ok ds → RepWs K H ds (FA P0 O σ) vs
  | [], _, _, r, e => by cases e; exact r
  | h :: hs, _, _, ⟨v, ws, e, r1, r2⟩, q => by
    obtain ⟨d, e1, q⟩ := R.ok_of q
    obtain ⟨ds, e2, q⟩ := R.ok_of q
    cases q
    subst e
    exact ⟨v, ws, rfl, r1.d S (R.nox_of e1), HdRs.ds S r2 e2⟩
end
section
variable {X : Cx} {P0 : Pr} {O W : List Nat} {E : EK} {a b c e : Expr} {es : List Expr} {ma mb mc : EM} {ms : AM} {pos : Pos}
abbrev CA (X : Cx) (P0 : Pr) (O W : List Nat) (E : EK) (es : List Expr) (m : AM) : Prop := PA X es (tMs X.K P0 O W E m)
theorem ca_nil : CA X P0 O W E [] cNil := PA.imp pa_nil fun σ H Q ⟨ρ, S, h⟩ => h [] H S .refl rfl
theorem ca_cons (h : CEx X P0 O W E e ma) (hs : CA X P0 O W E es ms) (hst : starEach (e :: es) X.env = (false, eval e X.env) :: starEach es X.env := by rfl) : CA X P0 O W E (e :: es) (cCons ma ms) := PA.imp (pa_cons h hs hst) fun σ H Q ⟨ρ, S, h⟩ =>
  ⟨ρ, S, h.of_bind.mono fun ⟨h1, ρ1⟩ q v H1 S1 k1 r1 => ⟨ρ1, S1, (q.keep k1).of_bind.mono fun ⟨hs, ρ2⟩ q2 vs H2 S2 k2 r2 => q2 _ H2 S2 (k1.trans k2) ⟨v, vs, rfl, r1.keep S1 k2, HdRs.back k1.some r2⟩⟩⟩
def cTup (m : AM) : EM := fun ρ => do
  let (hs, ρ1) ← m ρ
  let ds ← (vsOf hs).nox
  if szOk ds.length = true then pure (.fr (.tup ds), ρ1) else .stk
def cLst (m : AM) : EM := fun ρ => do
  let (hs, ρ1) ← m ρ
  let ds ← (vsOf hs).nox
  if szOk ds.length = true then pure (.fr (.lst ds), ρ1) else .stk
theorem ce_tup {x1} (h : CA X P0 O W E es ms) : CEx X P0 O W E (.Tuple es x1 pos) (cTup ms) := PE.imp (pe_tup h) fun σ H Q ⟨ρ, S, h⟩ =>
  ⟨ρ, S, h.of_bind.mono fun ⟨hs, ρ1⟩ q vs H1 S1 k1 r1 => by
    obtain ⟨ds, e1, q⟩ := q.of_nox
    have rr := HdRs.vs r1 e1
    by_cases c : szOk ds.length = true
    · rw [if_pos c] at q
      exact ⟨by rw [rr.length]; exact of_decide_eq_true c, fun p hp => (out_of S1 k1 q).newT S1.dom rr hp⟩
    · rw [if_neg c] at q
      exact q.elim⟩
theorem ce_lst (h : CA X P0 O W E es ms) : CEx X P0 O W E (.List es pos) (cLst ms) := PE.imp (pe_lst h) fun σ H Q ⟨ρ, S, h⟩ =>
  ⟨ρ, S, h.of_bind.mono fun ⟨hs, ρ1⟩ q vs H1 S1 k1 r1 => by
    obtain ⟨ds, e1, q⟩ := q.of_nox
    have rr := HdRs.vs r1 e1
    by_cases c : szOk ds.length = true
    · rw [if_pos c] at q
      exact ⟨by rw [rr.length]; exact of_decide_eq_true c, fun p hp => (out_of S1 k1 q).newL S1.dom rr hp⟩
    · rw [if_neg c] at q
      exact q.elim⟩

def cCall (f : List D → R D) (m : AM) : EM := fun ρ => do
  let (hs, ρ1) ← m ρ
  let ds ← (dsOf hs ρ1).nox
  let z ← (f ds).nox
  pure (.fr z, ρ1)
def rDs (K : PySem.W.Frag) (f : List D → R D) : List V → Hp → VK → Prop := fun xs H Q => ∃ (P : Pr) (ds : List D) (dz : D), (∀ b, P b → isMut (H b)) ∧ RepWs K H ds P xs ∧ f ds = .ok dz ∧ Out K P H dz Q
theorem tM_call {f : List D → R D} (σ : St) (H : Hp) (Q : VK) (h : tM X.K P0 O W E (cCall f ms) σ H Q) : tCB (rDs X.K f) (tMs X.K P0 O W E ms) σ H Q := by
  obtain ⟨ρ, S, h⟩ := h
  refine ⟨ρ, S, h.of_bind.mono fun ⟨hs, ρ1⟩ q vs H1 S1 k1 r1 => ?_⟩
  obtain ⟨ds, e1, q⟩ := q.of_nox
  obtain ⟨z, e2, q⟩ := q.of_nox
  exact ⟨FA P0 O σ, ds, z, S1.dom, HdRs.ds S1 r1 e1, e2, out_of S1 k1 q⟩
theorem ce_callB {f : List D → R D} {id : String} {x : Str} {p : Pos} (hc : CallR X (.builtin id) (rDs X.K f)) (hm : X.mg x = none) (hv : bootBuiltins x = some (.builtin id)) (ha : CA X P0 O W E (e :: es) ms) (hg : Gl X x := by rfl) (hn : x ≠ "__name__" := by decide) (hdb : (x == ("__debug__" : Str)) = false := by decide)
    (he : starEach (e :: es) X.env = (false, eval e X.env) :: starEach es X.env := by rfl) (hpl : (backTo pos (starEach es X.env)).any (·.1) = false := by rfl) : CEx X P0 O W E (.Call (.Name x p) (e :: es) [] pos) (cCall f ms) := PE.imp (pe_callB hc hg hm hv ha hn hdb he hpl) tM_call
theorem ce_callT {f : List D → R D} {T : String} {x : Str} {p : Pos} (hc : CallR X (.type T) (rDs X.K f)) (hm : X.mg x = none) (hv : bootBuiltins x = some (.type T)) (ha : CA X P0 O W E (e :: es) ms) (hg : Gl X x := by rfl) (hn : x ≠ "__name__" := by decide) (hdb : (x == ("__debug__" : Str)) = false := by decide)
    (he : starEach (e :: es) X.env = (false, eval e X.env) :: starEach es X.env := by rfl) (hpl : (backTo pos (starEach es X.env)).any (·.1) = false := by rfl) : CEx X P0 O W E (.Call (.Name x p) (e :: es) [] pos) (cCall f ms) := PE.imp (pe_callTy hc hg hm hv ha hn hdb he hpl) tM_call
def lenD : List D → R D
  | [.str x] => if szOk x.length = true then .ok (.int x.length) else .stk
  | [.tup ds] => .ok (.int ds.length)
  | [.lst ds] => .ok (.int ds.length)
  | [.arg ns] => .ok (.int ns.length)
  | _ => .stk
def max2D : List D → R D
  | [.int i, .int j] => .ok (.int (max i j))
  | _ => .stk
def min2D : List D → R D
  | [.int i, .int j] => .ok (.int (min i j))
  | _ => .stk
/-- the ints of a list -/
def intsOf : List D → Option (List Int)
  | [] => some []
  | .int i :: ds => (intsOf ds).map (i :: ·)
  | _ => none
def blsOf : List D → Option (List Bool)
  | [] => some []
  | .bl i :: ds => (blsOf ds).map (i :: ·)
  | _ => none
def strsOf : List D → Option (List Str)
  | [] => some []
  | .str i :: ds => (strsOf ds).map (i :: ·)
  | _ => none
def allD : List D → R D
  | [.lst ds] => match blsOf ds with
    | some bs => .ok (.bl (bs.all id))
    | none => .stk
  | _ => .stk
def anyD : List D → R D
  | [.lst ds] => match blsOf ds with
    | some bs => .ok (.bl (bs.any id))
    | none => .stk
  | _ => .stk
/-- tuple(x), list(x) -/
def tupleD : List D → R D
  | [.lst ds] => .ok (.tup ds)
  | [.tup ds] => .ok (.tup ds)
  | _ => .stk
def intOfD : List D → R D
  | [.int i] => .ok (.int i)
  | [.bl k] => .ok (.int (if k then 1 else 0))
  | [.str x] => if x.length = 1 ∧ 48 ≤ x.cps.getD 0 0 ∧ x.cps.getD 0 0 < 58 then .ok (.int ((x.cps.getD 0 0 : Nat) - 48)) else .stk
  | _ => .stk
theorem ints_rep {K : PySem.W.Frag} {H : Hp} {P : Pr} : ∀ {ds : List D} {ns : List Int} {vs : List V}, intsOf ds = some ns → Reps K H ds P vs → vs = ns.map V.int
  | [], ns, vs, e, h => by simp [intsOf] at e; subst e; exact h.nil_iff
  | d :: ds, ns, vs, e, h => by
    cases d <;> simp [intsOf] at e
    obtain ⟨ms, e1, rfl⟩ := e
    obtain ⟨v, ws, rfl, h1, h2⟩ := h.cons_iff
    unfold Rep at h1
    rw [h1, ints_rep e1 h2]
    rfl
theorem bls_rep {K : PySem.W.Frag} {H : Hp} {P : Pr} : ∀ {ds : List D} {ns : List Bool} {vs : List V}, blsOf ds = some ns → Reps K H ds P vs → vs = ns.map V.bl
  | [], ns, vs, e, h => by simp [blsOf] at e; subst e; exact h.nil_iff
  | d :: ds, ns, vs, e, h => by
    cases d <;> simp [blsOf] at e
    obtain ⟨ms, e1, rfl⟩ := e
    obtain ⟨v, ws, rfl, h1, h2⟩ := h.cons_iff
    unfold Rep at h1
    rw [h1, bls_rep e1 h2]
    rfl
theorem strs_rep {K : PySem.W.Frag} {H : Hp} {P : Pr} : ∀ {ds : List D} {ns : List Str} {vs : List V}, strsOf ds = some ns → Reps K H ds P vs → vs = ns.map V.str
  | [], ns, vs, e, h => by simp [strsOf] at e; subst e; exact h.nil_iff
  | d :: ds, ns, vs, e, h => by
    cases d <;> simp [strsOf] at e
    obtain ⟨ms, e1, rfl⟩ := e
    obtain ⟨v, ws, rfl, h1, h2⟩ := h.cons_iff
    unfold Rep at h1
    rw [h1, strs_rep e1 h2]
    rfl
theorem int2_of {f : Int → Int → D} {g : List D → R D} {ds : List D} {z : D} (hg : ∀ ds, g ds = match ds with | [.int i, .int j] => .ok (f i j) | _ => .stk) (h : g ds = .ok z) : ∃ i j, ds = [.int i, .int j] ∧ z = f i j := by
  rw [hg] at h
  split at h
  · cases h; exact ⟨_, _, rfl, rfl⟩
  · cases h
theorem cd_len : CallR X (.builtin "len") (rDs X.K lenD) := by
  intro pins s σ H xs us Q I r ⟨P, ds, dz, hm, rs, e, out⟩
  unfold lenD at e
  split at e
  · split at e
    · rename_i c; cases e
      obtain ⟨v, rfl, r1⟩ := rs.get1
      obtain rfl := r1.str
      exact call_len pins s σ H _ us Q I r ⟨_, _, rfl, ⟨of_decide_eq_true c, rfl⟩, out.int⟩
    · cases e
  · cases e
    obtain ⟨v, rfl, r1⟩ := rs.get1
    obtain ⟨a, vs, rfl, h1, h2⟩ := r1.tup
    rw [← h2.length] at out
    exact call_len pins s σ H _ us Q I r ⟨_, _, rfl, .inr ⟨vs, SqT.of h1, rfl⟩, out.int⟩
  · cases e
    obtain ⟨v, rfl, r1⟩ := rs.get1
    obtain ⟨a, vs, rfl, h1, h2⟩ := r1.lst
    rw [← h2.length] at out
    exact call_len pins s σ H _ us Q I r ⟨_, _, rfl, .inl ⟨vs, SqL.of h1, rfl⟩, out.int⟩
  · cases e
    obtain ⟨v, rfl, r1⟩ := rs.get1
    obtain ⟨a, rfl, h1⟩ := r1.arg
    refine call_len pins s σ H _ us Q I r ⟨_, _, rfl, .inl ⟨_, h1, rfl⟩, ?_⟩
    rw [List.length_map]
    exact out.int
  · cases e
theorem cd_max (hc : X.calm = true) : CallR X (.builtin "max") (rDs X.K max2D) := by
  intro pins s σ H xs us Q I r ⟨P, ds, dz, hm, rs, e, out⟩
  obtain ⟨i, j, rfl, rfl⟩ := int2_of (f := fun i j => .int (max i j)) (fun ds => by unfold max2D; rfl) e
  obtain ⟨v, w, rfl, r1, r2⟩ := rs.get2
  obtain rfl := r1.int
  obtain rfl := r2.int
  refine call_max2 hc pins s σ H _ us Q I r ⟨i, j, rfl, ?_⟩
  rw [show (if j > i then j else i) = max i j by omega]
  exact out.int
theorem cd_min (hc : X.calm = true) : CallR X (.builtin "min") (rDs X.K min2D) := by
  intro pins s σ H xs us Q I r ⟨P, ds, dz, hm, rs, e, out⟩
  obtain ⟨i, j, rfl, rfl⟩ := int2_of (f := fun i j => .int (min i j)) (fun ds => by unfold min2D; rfl) e
  obtain ⟨v, w, rfl, r1, r2⟩ := rs.get2
  obtain rfl := r1.int
  obtain rfl := r2.int
  refine call_min2 hc pins s σ H _ us Q I r ⟨i, j, rfl, ?_⟩
  rw [show (if j < i then j else i) = min i j by omega]
  exact out.int
theorem cd_all (hc : X.calm = true) : CallR X (.builtin "all") (rDs X.K allD) := by
  intro pins s σ H xs us Q I r ⟨P, ds, dz, hm, rs, e, out⟩
  unfold allD at e
  split at e
  · split at e
    · rename_i ns c; cases e
      obtain ⟨v, rfl, r1⟩ := rs.get1
      obtain ⟨a, vs, rfl, h1, h2⟩ := r1.lst
      obtain rfl := bls_rep c h2
      exact cr_all hc pins s σ H _ us Q I r ⟨a, ns, rfl, SqL.of h1, out.bl⟩
    · cases e
  · cases e
theorem cd_any (hc : X.calm = true) : CallR X (.builtin "any") (rDs X.K anyD) := by
  intro pins s σ H xs us Q I r ⟨P, ds, dz, hm, rs, e, out⟩
  unfold anyD at e
  split at e
  · split at e
    · rename_i ns c; cases e
      obtain ⟨v, rfl, r1⟩ := rs.get1
      obtain ⟨a, vs, rfl, h1, h2⟩ := r1.lst
      obtain rfl := bls_rep c h2
      exact cr_any hc pins s σ H _ us Q I r ⟨a, ns, rfl, SqL.of h1, out.bl⟩
    · cases e
  · cases e
theorem cd_tuple : CallR X (.type "tuple") (rDs X.K tupleD) := by
  intro pins s σ H xs us Q I r ⟨P, ds, dz, hm, rs, e, out⟩
  unfold tupleD at e
  split at e
  · cases e
    obtain ⟨v, rfl, r1⟩ := rs.get1
    obtain ⟨a, vs, rfl, h1, h2⟩ := r1.lst
    exact call_tuple_of pins s σ H _ us Q I r ⟨a, vs, rfl, .inl ⟨SqL.of h1, fun l hl => out.newT hm h2 hl⟩⟩
  · cases e
    obtain ⟨v, rfl, r1⟩ := rs.get1
    obtain ⟨a, vs, rfl, h1, h2⟩ := r1.tup
    exact call_tuple_of pins s σ H _ us Q I r ⟨a, vs, rfl, .inr ⟨SqT.of h1, out.flat (Rep.tup_of h1 h2) rfl⟩⟩
  · cases e
theorem digit_text : ∀ c : Nat, 48 ≤ c → c < 58 → PySem.intText? ⟨#[c]⟩ = some ((c : Int) - 48) := by
  intro c h1 h2
  have : c = 48 ∨ c = 49 ∨ c = 50 ∨ c = 51 ∨ c = 52 ∨ c = 53 ∨ c = 54 ∨ c = 55 ∨ c = 56 ∨ c = 57 := by omega
  rcases this with rfl | rfl | rfl | rfl | rfl | rfl | rfl | rfl | rfl | rfl <;> decide +kernel
theorem cd_int : CallR X (.type "int") (rDs X.K intOfD) := by
  intro pins s σ H xs us Q I r ⟨P, ds, dz, hm, rs, e, out⟩
  unfold intOfD at e
  split at e
  · cases e
    obtain ⟨v, rfl, r1⟩ := rs.get1
    obtain rfl := r1.int
    exact call_int1 pins s σ H _ us Q I r (.inl ⟨_, rfl, out.int⟩)
  · cases e
    obtain ⟨v, rfl, r1⟩ := rs.get1
    obtain rfl := r1.bl
    exact call_int1 pins s σ H _ us Q I r (.inr ⟨_, rfl, out.int⟩)
  · split at e
    · rename_i x c; cases e
      obtain ⟨v, rfl, r1⟩ := rs.get1
      obtain rfl := r1.str
      refine call_int_str pins s σ H _ us Q I r ⟨x, _, rfl, ?_, by rw [c.1]; decide, out.int⟩
      have q := digit_text _ c.2.1 c.2.2
      rw [one_sign c.1]
      exact q
    · cases e
  · cases e
end
end Y

set_option Elab.async false
set_option linter.all false
set_option maxRecDepth 100000
namespace Y
open PySem PySem.Spec PyProof.Rows L2

def ixD : D → D → R D
  | .str x, .int i => match atI x.cps.toList i with
    | some c => if szOk x.length = true then .ok (.str ⟨#[c]⟩) else .stk
    | none => .stk
  | .tup ds, .int i => match atI ds i with | some d => .ok d | none => .stk
  | .lst ds, .int i => match atI ds i with | some d => .ok d | none => .stk
  | .arg ns, .int i => match atI ns i with | some n => .ok (.int n) | none => .stk
  | _, _ => .stk
def cIx (a b : EM) : EM := fun ρ => do
  let (h1, ρ1) ← a ρ
  let (h2, ρ2) ← b ρ1
  let x ← (h1.d ρ2).nox
  let y ← (h2.d ρ2).nox
  let z ← (ixD x y).nox
  pure (.vl z, ρ2)
theorem Reps.atI {K : PySem.W.Frag} {H : Hp} {P : Pr} {ds : List D} {vs : List V} {i : Int} {d : D} (h : Reps K H ds P vs) (e : L2.atI ds i = some d) : ∃ v, L2.atI vs i = some v ∧ Rep K H d P v := by
  unfold L2.atI at e ⊢
  rw [h.length]
  cases q : ixN ds.length i with
  | none => rw [q] at e; cases e
  | some j => rw [q] at e; exact h.get e
theorem ints_atI {ns : List Int} {i n : Int} (e : atI ns i = some n) : atI (ns.map V.int) i = some (.int n) := by
  unfold atI at e ⊢
  rw [List.length_map]
  cases q : ixN ns.length i with
  | none => rw [q] at e; cases e
  | some j =>
    rw [q] at e
    show (ns.map V.int)[j]? = _
    rw [List.getElem?_map, show ns[j]? = some n from e]
    rfl
/-- the items of ds[lo:hi] -/
def cutD (ds : List D) (lo hi : Option Int) : List D := (ds.drop (HT.sIx ds.length 0 lo)).take (HT.sIx ds.length ds.length hi - HT.sIx ds.length 0 lo)
theorem Reps.drop {K : PySem.W.Frag} {H : Hp} {P : Pr} : ∀ (n : Nat) {ds : List D} {vs : List V}, Reps K H ds P vs → Reps K H (ds.drop n) P (vs.drop n)
  | 0, _, _, h => h
  | n + 1, [], _, h => by rw [h.nil_iff]; exact Reps.nil
  | n + 1, d :: ds, _, h => by
    obtain ⟨v, ws, rfl, _, h2⟩ := h.cons_iff
    exact Reps.drop n h2
theorem Reps.take {K : PySem.W.Frag} {H : Hp} {P : Pr} : ∀ (n : Nat) {ds : List D} {vs : List V}, Reps K H ds P vs → Reps K H (ds.take n) P (vs.take n)
  | 0, _, _, h => Reps.nil
  | n + 1, [], _, h => by rw [h.nil_iff]; exact Reps.nil
  | n + 1, d :: ds, _, h => by
    obtain ⟨v, ws, rfl, h1, h2⟩ := h.cons_iff
    exact Reps.cons h1 (Reps.take n h2)
theorem Reps.cut {K : PySem.W.Frag} {H : Hp} {P : Pr} {ds : List D} {vs : List V} (h : Reps K H ds P vs) (lo hi : Option Int) : Reps K H (cutD ds lo hi) P (cutV vs lo hi) := by
  unfold cutD cutV
  rw [h.length]
  exact (h.drop _).take _
def sliceD : D → Option Int → Option Int → R D
  | .str x, lo, hi => if szOk x.length = true then .ok (.str (cutS x lo hi)) else .stk
  | .tup ds, lo, hi => .ok (.tup (cutD ds lo hi))
  | .lst ds, lo, hi => .ok (.lst (cutD ds lo hi))
  | _, _, _ => .stk
abbrev OM := Env → R (Option Int × Env)
def cNoPart : OM := fun ρ => .ok (none, ρ)
def cPart (m : EM) : OM := fun ρ => do
  let (h, ρ1) ← m ρ
  let d ← h.v.nox
  match d with
  | .int i => pure (some i, ρ1)
  | _ => .stk
def cSlice (a : EM) (lo hi : OM) : EM := fun ρ => do
  let (h, ρ1) ← a ρ
  let (l, ρ2) ← lo ρ1
  let (u, ρ3) ← hi ρ2
  let d ← (h.d ρ3).nox
  let z ← (sliceD d l u).nox
  pure (.fr z, ρ3)
def tMo (K : PySem.W.Frag) (P0 : Pr) (O W : List Nat) (E : EK) (m : OM) : TO := fun σ H Q => ∃ ρ, Sim K P0 O W ρ σ H ∧ Res E W σ H (m ρ) fun a => ∀ H', Sim K P0 O W a.2 σ H' → Keep W σ H H' → Q a.1 H'
theorem PO.imp {X : Cx} {e : Option Expr} {t t' : TO} (h : PO X e t) (i : ∀ σ H Q, t' σ H Q → t σ H Q) : PO X e t' := by
  cases h with
  | mk h => exact ⟨fun pins s σ H Q I q => h pins s σ H Q I (i σ H Q q)⟩
section
variable {X : Cx} {P0 : Pr} {O W : List Nat} {E : EK} {a b c e : Expr} {es : List Expr} {ma mb mc : EM} {ms : AM} {pos : Pos}
abbrev CO (X : Cx) (P0 : Pr) (O W : List Nat) (E : EK) (e : Option Expr) (m : OM) : Prop := PO X e (tMo X.K P0 O W E m)
theorem co_none : CO X P0 O W E none cNoPart := PO.imp po_none fun σ H Q ⟨ρ, S, h⟩ => h H S .refl
theorem co_some (h : CEx X P0 O W E e ma) : CO X P0 O W E (some e) (cPart ma) := PO.imp (po_some h) fun σ H Q ⟨ρ, S, h⟩ =>
  ⟨ρ, S, h.of_bind.mono fun ⟨h1, ρ1⟩ q v H1 S1 k1 r1 => by
    obtain ⟨d, e1, q⟩ := q.of_nox
    have r := r1.v e1
    cases d <;> first | (exact q.elim) | skip
    unfold Rep at r
    exact ⟨_, r, q H1 S1 k1⟩⟩
theorem ce_ix (ha : CEx X P0 O W E a ma) (hb : CEx X P0 O W E b mb) (hs : PlainIx b := by intro _ _; rfl) : CEx X P0 O W E (.Subscript a b pos) (cIx ma mb) := PE.imp (pe_ix ix_seq ha hb hs) fun σ H Q ⟨ρ, S, h⟩ => by
  refine ⟨ρ, S, h.of_bind.mono fun ⟨h1, ρ1⟩ q x H1 S1 k1 r1 => ⟨ρ1, S1, (q.keep k1).of_bind.mono fun ⟨h2, ρ2⟩ q2 y H2 S2 k2 r2 => ?_⟩⟩
  obtain ⟨dx, e1, q3⟩ := q2.of_nox
  obtain ⟨dy, e2, q4⟩ := q3.of_nox
  obtain ⟨dz, e3, q5⟩ := q4.of_nox
  have rx := (r1.keep S1 k2).d S2 e1
  have ry := r2.d S2 e2
  have fin : ∀ v, Rep X.K H2 dz (FA P0 O σ) v → Q v H2 := fun v r => q5 v H2 S2 (k1.trans k2) r
  unfold ixD at e3
  split at e3
  · split at e3
    · split at e3
      · rename_i c' hc z; cases e3
        obtain rfl := rx.str
        obtain rfl := ry.int
        exact .inr (.inr ⟨_, _, _, rfl, rfl, of_decide_eq_true z, hc, fin _ (by unfold Rep; rfl)⟩)
      · cases e3
    · cases e3
  · split at e3
    · rename_i d hd; cases e3
      obtain ⟨p, vs, rfl, t1, t2⟩ := rx.tup
      obtain rfl := ry.int
      obtain ⟨v, e4, r4⟩ := t2.atI hd
      exact .inr (.inl ⟨p, vs, _, v, rfl, rfl, SqT.of t1, e4, fin v r4⟩)
    · cases e3
  · split at e3
    · rename_i d hd; cases e3
      obtain ⟨p, vs, rfl, t1, t2⟩ := rx.lst
      obtain rfl := ry.int
      obtain ⟨v, e4, r4⟩ := t2.atI hd
      exact .inl ⟨p, vs, _, v, rfl, rfl, SqL.of t1, e4, fin v r4⟩
    · cases e3
  · split at e3
    · rename_i d hd; cases e3
      obtain ⟨p, rfl, t1⟩ := rx.arg
      obtain rfl := ry.int
      exact .inl ⟨p, _, _, _, rfl, rfl, t1, ints_atI hd, fin _ (by unfold Rep; rfl)⟩
    · cases e3
  · cases e3
theorem ce_slice {lo hi : Option Expr} {ml mh : OM} {p2 : Pos} (ha : CEx X P0 O W E a ma) (hl : CO X P0 O W E lo ml) (hh : CO X P0 O W E hi mh) : CEx X P0 O W E (.Subscript a (.Slice lo hi none p2) pos) (cSlice ma ml mh) := PE.imp (pe_slice (sl_list.or (sl_tupA.or sl_str)) ha hl hh) fun σ H Q ⟨ρ, S, h⟩ => by
  refine ⟨ρ, S, h.of_bind.mono fun ⟨h1, ρ1⟩ q x H1 S1 k1 r1 => ⟨ρ1, S1, (q.keep k1).of_bind.mono fun ⟨l, ρ2⟩ q2 H2 S2 k2 => ⟨ρ2, S2, (q2.keep k2).of_bind.mono fun ⟨u, ρ3⟩ q3 H3 S3 k3 => ?_⟩⟩⟩
  obtain ⟨dx, e1, q4⟩ := q3.of_nox
  obtain ⟨dz, e3, q5⟩ := q4.of_nox
  have rx := (r1.keep S1 (k2.trans k3)).d S3 e1
  have out := out_of S3 ((k1.trans k2).trans k3) q5
  unfold sliceD at e3
  split at e3
  · split at e3
    · rename_i z; cases e3
      obtain rfl := rx.str
      exact .inr (.inr ⟨_, rfl, of_decide_eq_true z, out.str⟩)
    · cases e3
  · cases e3
    obtain ⟨p, vs, rfl, t1, t2⟩ := rx.tup
    have t3 := t2.cut l u
    refine .inr (.inl ⟨p, vs, rfl, SqT.of t1, fun z => ?_, fun _ p hp => out.newT S3.dom t3 hp⟩)
    have e4 : cutV vs l u = vs := by
      unfold cutV
      rw [z.1, z.2, List.drop_zero, Nat.sub_zero, List.take_length]
    rw [e4] at t3
    exact out.flat (Rep.tup_of t1 t3) rfl
  · cases e3
    obtain ⟨p, vs, rfl, t1, t2⟩ := rx.lst
    exact .inl ⟨p, vs, rfl, SqL.of t1, fun p hp => out.newL S3.dom (t2.cut l u) hp⟩
  · cases e3
end

/-- behind a statement or an expression: U: own slots that keep their objects -/
structure Tr (O U : List Nat) (σ : St) (H : Hp) (σ' : St) (H' : Hp) : Prop where
  keep : ∀ b o, H b = some o → ¬ OA O σ b → H' b = some o
  some : ∀ b, H b ≠ none → H' b ≠ none
  own : ∀ b, OA O σ' b → OA O σ b ∨ H b = none
  unch : ∀ i ∈ U, σ'[i]? = σ[i]?
theorem Tr.of {O W U : List Nat} {σ : St} {H H' : Hp} (hs : ∀ i ∈ W, i ∈ O) (k : Keep W σ H H') : Tr O U σ H σ H' := ⟨fun b o e n => k.keep b o e fun ⟨i, hi, z⟩ => n ⟨i, hs i hi, z⟩, k.some, fun _ z => .inl z, fun _ _ => rfl⟩
theorem Tr.refl {O U : List Nat} {σ : St} {H : Hp} : Tr O U σ H σ H := ⟨fun _ _ e _ => e, fun _ e => e, fun _ z => .inl z, fun _ _ => rfl⟩
theorem Tr.trans {O U : List Nat} {σ σ1 σ2 : St} {H H1 H2 : Hp} (a : Tr O U σ H σ1 H1) (b : Tr O U σ1 H1 σ2 H2) : Tr O U σ H σ2 H2 where
  keep := fun c o e n => b.keep c o (a.keep c o e n) fun z => by
    rcases a.own c z with z | z
    · exact n z
    · rw [e] at z; cases z
  some := fun c e => b.some c (a.some c e)
  own := fun c z => by
    rcases b.own c z with z | z
    · exact a.own c z
    · exact .inr (Classical.byContradiction fun q => a.some c q z)
  unch := fun i hi => (b.unch i hi).trans (a.unch i hi)
theorem Tr.less {O U U' : List Nat} {σ σ1 : St} {H H1 : Hp} (a : Tr O U σ H σ1 H1) (h : ∀ i ∈ U', i ∈ U) : Tr O U' σ H σ1 H1 := ⟨a.keep, a.some, a.own, fun i hi => a.unch i (h i hi)⟩
section
variable {K : PySem.W.Frag} {P0 : Pr} {O W U : List Nat} {ρ ρ' : Env} {σ σ' : St} {H H' : Hp}
end
end Y

set_option Elab.async false
set_option linter.all false
set_option maxRecDepth 100000
namespace Y
open PySem PySem.Spec PyProof.Rows L2

/-- v is the datum d that the handle tells, and stays so -/
def Hold (K : PySem.W.Frag) (O : List Nat) (h : Hd) (d : D) (v : V) (P0 : Pr) (ρ : Env) (σ : St) (H : Hp) : Prop := match h with
  | .ow i => i ∈ O ∧ ρ[i]? = some (some d) ∧ σ[i]? = some (some v)
  | _ => Rep K H d (FA P0 O σ) v
def Hd.ws : Hd → List Nat
  | .ow i => [i]
  | _ => []
section
variable {K : PySem.W.Frag} {P0 P1 : Pr} {O W : List Nat} {ρ ρ' : Env} {σ σ' : St} {H H' Hs : Hp} {h : Hd} {d : D} {v : V}
theorem Hold.rep (S : Sim K P0 O W ρ σ H) (o : Hold K O h d v P0 ρ σ H) : RepW K H d (FA P0 O σ) v := by
  cases h with
  | fr d' => exact Rep.weak S.dom o
  | vl d' => exact Rep.weak S.dom o
  | ow i =>
    obtain ⟨w, h1, h2⟩ := S.own i d o.2.1 o.1
    rw [o.2.2] at h1; cases h1
    exact h2.weak
theorem HdR.hold (r : HdR K P0 O Hs σ H h v) (e : h.d ρ = .ok d) : Hold K O h d v P0 ρ σ H := by
  cases h with
  | fr d' => cases e; exact r.1
  | vl d' => cases e; exact r
  | ow i => exact ⟨r.1, look_some e, r.2⟩
theorem Hold.keep (S : Sim K P0 O W ρ σ H) (o : Hold K O h d v P0 ρ σ H) (k : ∀ b o, H b = some o → ¬ FA P0 O σ b → H' b = some o) (w : ∀ b, FA P0 O σ' b → FA P0 O σ b ∨ H b = none)
    (hw : ∀ w ∈ h.ws, σ'[w]? = σ[w]? ∧ ρ'[w]? = ρ[w]?) : Hold K O h d v P0 ρ' σ' H' := by
  cases h with
  | fr d' => exact Rep.mono d S.dom k w o
  | vl d' => exact Rep.mono d S.dom k w o
  | ow i =>
    obtain ⟨h1, h2⟩ := hw i (by simp [Hd.ws])
    exact ⟨o.1, h2.trans o.2.1, h1.trans o.2.2⟩
theorem Hold.grow (S : Sim K P0 O W ρ σ H) (o : Hold K O h d v P0 ρ σ H) (w : ∀ b, P1 b → P0 b ∨ H b = none) (k : Same H H') : Hold K O h d v P1 ρ σ H' := by
  have q : ∀ b, FA P1 O σ b → FA P0 O σ b ∨ H b = none := fun b z => by
    rcases z with z | z
    · rcases w b z with z | z
      · exact .inl (.inl z)
      · exact .inr z
    · exact .inl (.inr z)
  cases h with
  | fr d' => exact Rep.mono d S.dom (fun b o e _ => k b o e) q o
  | vl d' => exact Rep.mono d S.dom (fun b o e _ => k b o e) q o
  | ow i => exact o
end
theorem Hold.mem {K : PySem.W.Frag} {P0 : Pr} {O : List Nat} {ρ : Env} {σ : St} {H : Hp} {h : Hd} {d : D} {v : V} (o : Hold K O h d v P0 ρ σ H) : ∀ w ∈ h.ws, w ∈ O := by
  cases h with
  | fr _ => exact fun w z => nomatch z
  | vl _ => exact fun w z => nomatch z
  | ow i =>
    intro w z
    have z : w = i := by simpa [Hd.ws] using z
    rw [z]; exact o.1
/-- an iterator gives ds; ws: own slots that it reads from; Ok: what must stay -/
structure Src (K : PySem.W.Frag) (O W : List Nat) (ds : List D) (ws : List Nat) (J : It) (Ok : Pr → Env → St → Hp → Prop) : Prop where
  go : ∀ P0 i ρ σ H, Sim K P0 O W ρ σ H → Ok P0 ρ σ H → i < ds.length → J.go i H
  stop : ∀ P0 ρ σ H, Sim K P0 O W ρ σ H → Ok P0 ρ σ H → J.stop ds.length H
  yld : ∀ P0 (i : Nat) ρ σ H x H' d, Sim K P0 O W ρ σ H → Ok P0 ρ σ H → ds[i]? = some d → J.yld i H x H' → Same H H' ∧ Rep K H' d (FA P0 O σ) x
  keep : ∀ P0 ρ σ H ρ' σ' H', Sim K P0 O W ρ σ H → (∀ b o, H b = some o → ¬ FA P0 O σ b → H' b = some o) → (∀ b, FA P0 O σ' b → FA P0 O σ b ∨ H b = none) → (∀ w ∈ ws, σ'[w]? = σ[w]? ∧ ρ'[w]? = ρ[w]?) → Ok P0 ρ σ H → Ok P0 ρ' σ' H'
  mem : ∀ P0 ρ σ H, Ok P0 ρ σ H → ∀ w ∈ ws, w ∈ O
  grow : ∀ P0 P1 ρ σ H H', Sim K P0 O W ρ σ H → (∀ b, P1 b → P0 b ∨ H b = none) → Same H H' → Ok P0 ρ σ H → Ok P1 ρ σ H'
abbrev IM := Env → R ((List D × List Nat) × Env)
def tMi (K : PySem.W.Frag) (P0 : Pr) (O W : List Nat) (E : EK) (m : IM) : TI := fun σ H R => ∃ ρ, Sim K P0 O W ρ σ H ∧
  Res E W σ H (m ρ) fun a => ∀ J H' Ok, Sim K P0 O W a.2 σ H' → Keep W σ H H' → Src K O W a.1.1 a.1.2 J Ok → Ok P0 a.2 σ H' → a.1.1.length ≤ sizeLine → R J H'
theorem PI.imp {X : Cx} {tg e : Expr} {t t' : TI} (h : PI X tg e t) (i : ∀ σ H R, t' σ H R → t σ H R) : PI X tg e t' := ⟨fun pins s σ H R I q => h.run pins s σ H R I (i σ H R q)⟩
theorem PI.or {X : Cx} {tg e : Expr} {t t' : TI} (h : PI X tg e t) (h' : PI X tg e t') : PI X tg e fun σ H R => t σ H R ∨ t' σ H R :=
  ⟨fun pins s σ H R I q => q.elim (h.run pins s σ H R I) (h'.run pins s σ H R I)⟩
section
variable {K : PySem.W.Frag} {O W : List Nat} {h h2 : Hd}
/-- over a list that a handle tells -/
theorem src_list {a : Addr} {ds : List D} : Src K O W ds h.ws (Itl K a) (Hold K O h (.lst ds) (.ref a)) where
  go := fun P0 i ρ σ H S ok hi => by
    obtain ⟨p, vs, e, t1, t2⟩ := (ok.rep S).lst
    cases e
    exact walk_list.goes i H (by rw [t2.length]; exact hi) (SqL.of t1)
  stop := fun P0 ρ σ H S ok => by
    obtain ⟨p, vs, e, t1, t2⟩ := (ok.rep S).lst
    cases e
    rw [← t2.length]
    exact walk_list.stops H (SqL.of t1)
  yld := fun P0 i ρ σ H x H' d S ok hd y => by
    obtain ⟨p, vs, e, t1, t2⟩ := (ok.rep S).lst
    cases e
    obtain ⟨v, e1, r⟩ := t2.get hd
    obtain ⟨e2, e3⟩ := walk_list.yields i H x H' (by rw [t2.length]; exact (List.getElem?_eq_some_iff.mp hd).1) (SqL.of t1) y
    subst e2
    rw [e1] at e3; cases e3
    exact ⟨fun _ _ z => z, r⟩
  keep := fun P0 ρ σ H ρ' σ' H' S k w hw ok => ok.keep S k w hw
  mem := fun P0 ρ σ H ok => ok.mem
  grow := fun P0 P1 ρ σ H H' S w k ok => ok.grow S w k
theorem src_tup {a : Addr} {ds : List D} : Src K O W ds h.ws (Itt K a) (Hold K O h (.tup ds) (.ref a)) where
  go := fun P0 i ρ σ H S ok hi => by
    obtain ⟨p, vs, e, t1, t2⟩ := (ok.rep S).tup
    cases e
    exact walk_tup.goes i H (by rw [t2.length]; exact hi) (SqT.of t1)
  stop := fun P0 ρ σ H S ok => by
    obtain ⟨p, vs, e, t1, t2⟩ := (ok.rep S).tup
    cases e
    rw [← t2.length]
    exact walk_tup.stops H (SqT.of t1)
  yld := fun P0 i ρ σ H x H' d S ok hd y => by
    obtain ⟨p, vs, e, t1, t2⟩ := (ok.rep S).tup
    cases e
    obtain ⟨v, e1, r⟩ := t2.get hd
    obtain ⟨e2, e3⟩ := walk_tup.yields i H x H' (by rw [t2.length]; exact (List.getElem?_eq_some_iff.mp hd).1) (SqT.of t1) y
    subst e2
    rw [e1] at e3; cases e3
    exact ⟨fun _ _ z => z, r⟩
  keep := fun P0 ρ σ H ρ' σ' H' S k w hw ok => ok.keep S k w hw
  mem := fun P0 ρ σ H ok => ok.mem
  grow := fun P0 P1 ρ σ H H' S w k ok => ok.grow S w k
theorem src_arg {a : Addr} {ns : List Int} : Src K O W (ns.map D.int) h.ws (Itl K a) (Hold K O h (.arg ns) (.ref a)) where
  go := fun P0 i ρ σ H S ok hi => by
    obtain ⟨p, e, t1⟩ := (ok.rep S).arg
    cases e
    exact walk_list.goes i H (by simpa using hi) t1
  stop := fun P0 ρ σ H S ok => by
    obtain ⟨p, e, t1⟩ := (ok.rep S).arg
    cases e
    have := walk_list.stops H t1
    simpa using this
  yld := fun P0 i ρ σ H x H' d S ok hd y => by
    obtain ⟨p, e, t1⟩ := (ok.rep S).arg
    cases e
    obtain ⟨e2, e3⟩ := walk_list.yields i H x H' (by have := (List.getElem?_eq_some_iff.mp hd).1; simpa using this) t1 y
    subst e2
    rw [List.getElem?_map] at e3 hd
    cases q : ns[i]? with
    | none => rw [q] at hd; cases hd
    | some n => rw [q] at hd e3; cases hd; cases e3; exact ⟨fun _ _ z => z, by unfold Rep; rfl⟩
  keep := fun P0 ρ σ H ρ' σ' H' S k w hw ok => ok.keep S k w hw
  mem := fun P0 ρ σ H ok => ok.mem
  grow := fun P0 P1 ρ σ H H' S w k ok => ok.grow S w k
theorem src_range {lo : Int} {n : Nat} : Src K O W ((List.range n).map fun i => D.int (lo + (i : Nat))) [] (Itr lo n) (fun _ _ _ _ => True) where
  go := fun P0 i ρ σ H S ok hi => by simpa [Itr] using hi
  stop := fun P0 ρ σ H S ok => by simp [Itr]
  yld := fun P0 i ρ σ H x H' d S ok hd y => by
    obtain ⟨e1, e2⟩ := y
    subst e1
    rw [List.getElem?_map] at hd
    cases q : (List.range n)[i]? with
    | none => rw [q] at hd; cases hd
    | some j =>
      rw [q] at hd; cases hd
      have : j = i := by
        obtain ⟨h1, h2⟩ := List.getElem?_eq_some_iff.mp q
        simpa using h2.symm
      subst this
      exact ⟨fun _ _ z => z, by unfold Rep; exact e2⟩
  keep := fun _ _ _ _ _ _ _ _ _ _ _ _ => trivial
  mem := fun _ _ _ _ _ w z => nomatch z
  grow := fun _ _ _ _ _ _ _ _ _ _ => trivial
theorem src_str {z : Str} : Src K O W (z.cps.toList.map fun c => D.str ⟨#[c]⟩) [] (Its z) (fun _ _ _ _ => True) where
  go := fun P0 i ρ σ H S ok hi => by simpa [Its] using hi
  stop := fun P0 ρ σ H S ok => by simp [Its]
  yld := fun P0 i ρ σ H x H' d S ok hd y => by
    obtain ⟨e1, c, e2, e3⟩ := y
    subst e1
    rw [List.getElem?_map, Array.getElem?_toList, e2] at hd
    cases hd
    exact ⟨fun _ _ z => z, by unfold Rep; exact e3⟩
  keep := fun _ _ _ _ _ _ _ _ _ _ _ _ => trivial
  mem := fun _ _ _ _ _ w z => nomatch z
  grow := fun _ _ _ _ _ _ _ _ _ _ => trivial
theorem Src.anyw {ds : List D} {J : It} {Ok : Pr → Env → St → Hp → Prop} (q : Src K O W ds [] J Ok) : Src K O W ds h.ws J (fun P0 ρ σ H => Ok P0 ρ σ H ∧ ∀ w ∈ h.ws, w ∈ O) where
  go := fun P0 i ρ σ H S ok => q.go P0 i ρ σ H S ok.1
  stop := fun P0 ρ σ H S ok => q.stop P0 ρ σ H S ok.1
  yld := fun P0 i ρ σ H x H' d S ok => q.yld P0 i ρ σ H x H' d S ok.1
  keep := fun P0 ρ σ H ρ' σ' H' S k w _ ok => ⟨q.keep P0 ρ σ H ρ' σ' H' S k w (fun _ z => nomatch z) ok.1, ok.2⟩
  mem := fun P0 ρ σ H ok => ok.2
  grow := fun P0 P1 ρ σ H H' S w k ok => ⟨q.grow P0 P1 ρ σ H H' S w k ok.1, ok.2⟩
end
def pairsD : List D → List D → List D
  | x :: xs, y :: ys => .tup [x, y] :: pairsD xs ys
  | _, _ => []
theorem pairsD_len : ∀ xs ys : List D, (pairsD xs ys).length = min xs.length ys.length
  | [], _ => by simp [pairsD]
  | _ :: _, [] => by simp [pairsD]
  | x :: xs, y :: ys => by simp [pairsD, pairsD_len xs ys]
theorem pairsD_get : ∀ {xs ys : List D} {i : Nat} {d : D}, (pairsD xs ys)[i]? = some d → ∃ x y, xs[i]? = some x ∧ ys[i]? = some y ∧ d = .tup [x, y]
  | [], _, _, _, h => by simp [pairsD] at h
  | _ :: _, [], _, _, h => by simp [pairsD] at h
  | x :: xs, y :: ys, 0, d, h => by simp [pairsD] at h; exact ⟨x, y, rfl, rfl, h.symm⟩
  | x :: xs, y :: ys, i + 1, d, h => by simpa using pairsD_get (i := i) (by simpa [pairsD] using h)
/-- a new pair at T -/
theorem pair_rep {K : PySem.W.Frag} {H : Hp} {P : Pr} {x y : D} {v w : V} {T : Addr} (hm : ∀ b, P b → isMut (H b)) (hT : H T = none) (h1 : Rep K H x P v) (h2 : Rep K H y P w) : Same H (upd H T (.tup [v, w])) ∧ Rep K (upd H T (.tup [v, w])) (.tup [x, y]) P (.ref T) :=
  ⟨Same.new hT, Rep.newT hm (Reps.cons h1 (Reps.cons h2 Reps.nil)) hT⟩
section
variable {K : PySem.W.Frag} {O W : List Nat} {h h2 : Hd}
end
section
variable {X : Cx} {P0 : Pr} {O W : List Nat} {E : EK} {a b c e tg : Expr} {es : List Expr} {ma mb mc : EM} {ms : AM} {pos : Pos}
abbrev CI (X : Cx) (P0 : Pr) (O W : List Nat) (E : EK) (tg e : Expr) (m : IM) : Prop := PI X tg e (tMi X.K P0 O W E m)
/-- over a list, a tuple, a text, the script -/
def itD : D → R (List D)
  | .lst ds => .ok ds
  | .tup ds => .ok ds
  | .arg ns => .ok (ns.map D.int)
  | .str z => .ok (z.cps.toList.map fun c => D.str ⟨#[c]⟩)
  | _ => .stk
def cIter (m : EM) : IM := fun ρ => do
  let (h, ρ1) ← m ρ
  let d ← (h.d ρ1).nox
  let ds ← (itD d).nox
  if szOk ds.length = true then pure ((ds, h.ws), ρ1) else .stk
theorem ci_any (ha : CEx X P0 O W E a ma) : CI X P0 O W E tg a (cIter ma) := PI.imp (PI.or (pi_list ha) (PI.or (pi_tup ha) (pi_str ha))) fun σ H _ ⟨ρ, S, h⟩ => by
  unfold cIter at h
  cases em : ma ρ with
  | er c ds =>
    rw [em] at h
    exact .inl ⟨ρ, S, by rw [em]; exact h⟩
  | stk => rw [em] at h; exact h.elim
  | ok p =>
    obtain ⟨h1, ρ1⟩ := p
    rw [em] at h
    obtain ⟨d, ed, h⟩ := Res.of_nox (show Res E W σ H ((h1.d ρ1).nox >>= _) _ from h)
    obtain ⟨ds, ei, h⟩ := h.of_nox
    by_cases c : szOk ds.length = true
    · rw [if_pos c] at h
      have hz := of_decide_eq_true c
      cases d <;> simp only [itD, R.ok.injEq, reduceCtorEq] at ei
      · subst ei
        refine .inr (.inr ⟨ρ, S, ?_⟩)
        rw [em]
        intro v H1 S1 k1 r1
        obtain rfl := (r1.d S1 ed).str
        exact ⟨_, rfl, h _ H1 _ S1 k1 src_str.anyw ⟨trivial, (r1.hold ed).mem⟩ hz⟩
      · subst ei
        refine .inr (.inl ⟨ρ, S, ?_⟩)
        rw [em]
        intro v H1 S1 k1 r1
        obtain ⟨p, vs, rfl, t1, t2⟩ := (r1.d S1 ed).tup
        exact ⟨p, rfl, ⟨vs, SqT.of t1⟩, h _ H1 _ S1 k1 src_tup (r1.hold ed) hz⟩
      · subst ei
        refine .inl ⟨ρ, S, ?_⟩
        rw [em]
        intro v H1 S1 k1 r1
        obtain ⟨p, vs, rfl, t1, t2⟩ := (r1.d S1 ed).lst
        exact ⟨p, rfl, ⟨vs, SqL.of t1⟩, h _ H1 _ S1 k1 src_list (r1.hold ed) hz⟩
      · subst ei
        refine .inl ⟨ρ, S, ?_⟩
        rw [em]
        intro v H1 S1 k1 r1
        obtain ⟨p, rfl, t1⟩ := (r1.d S1 ed).arg
        exact ⟨p, rfl, ⟨_, t1⟩, h _ H1 _ S1 k1 src_arg (r1.hold ed) hz⟩
    · rw [if_neg c] at h
      exact h.elim
def rngOk (i : Int) : Bool := decide (-(2 ^ 62) ≤ i ∧ i < 2 ^ 62)
def rng1D : List D → R (List D)
  | [.int j] => if rngOk j = true then .ok ((List.range j.toNat).map fun i => D.int (0 + (i : Nat))) else .stk
  | _ => .stk
def rng2D : List D → R (List D)
  | [.int i, .int j] => if (rngOk i && rngOk j) = true then .ok ((List.range (j - i).toNat).map fun k => D.int (i + (k : Nat))) else .stk
  | _ => .stk
def cRange (f : List D → R (List D)) (m : AM) : IM := fun ρ => do
  let (hs, ρ1) ← m ρ
  let ds ← (vsOf hs).nox
  let xs ← (f ds).nox
  if szOk xs.length = true then pure ((xs, []), ρ1) else .stk
theorem ci_range1 {p : Pos} (hm : X.mg "range" = none) (ha : CA X P0 O W E [a] ms) (hg : Gl X "range" := by rfl) (hs : starEach [a] X.env = [(false, eval a X.env)] := by rfl) : CI X P0 O W E tg (.Call (.Name "range" p) [a] [] pos) (cRange rng1D ms) := PI.imp (pi_range1 hg hm ha hs) fun σ H R ⟨ρ, S, h⟩ => by
  refine ⟨ρ, S, h.of_bind.mono fun ⟨hs, ρ1⟩ q vs H1 S1 k1 r1 => ?_⟩
  obtain ⟨ds, e1, q⟩ := q.of_nox
  obtain ⟨xs, e2, q⟩ := q.of_nox
  have rr := HdRs.vs r1 e1
  by_cases c : szOk xs.length = true
  · rw [if_pos c] at q
    unfold rng1D at e2
    split at e2
    · split at e2
      · rename_i j z; cases e2
        obtain ⟨v, ws, rfl, h1, h2⟩ := rr.cons_iff
        have h2 := h2.nil_iff
        subst h2
        unfold Rep at h1
        subst h1
        unfold rngOk at z
        have z := of_decide_eq_true z
        exact ⟨_, rfl, z.1, z.2, q _ H1 _ S1 k1 src_range trivial (of_decide_eq_true c)⟩
      · cases e2
    · cases e2
  · rw [if_neg c] at q
    exact q.elim
theorem ci_range2 {p : Pos} (hm : X.mg "range" = none) (ha : CA X P0 O W E [a, b] ms) (hg : Gl X "range" := by rfl) (hs : starEach [a, b] X.env = [(false, eval a X.env), (false, eval b X.env)] := by rfl) (hs2 : starEach [b] X.env = [(false, eval b X.env)] := by rfl) : CI X P0 O W E tg (.Call (.Name "range" p) [a, b] [] pos) (cRange rng2D ms) := PI.imp (pi_range2 hg hm ha hs hs2) fun σ H R ⟨ρ, S, h⟩ => by
  refine ⟨ρ, S, h.of_bind.mono fun ⟨hs, ρ1⟩ q vs H1 S1 k1 r1 => ?_⟩
  obtain ⟨ds, e1, q⟩ := q.of_nox
  obtain ⟨xs, e2, q⟩ := q.of_nox
  have rr := HdRs.vs r1 e1
  by_cases c : szOk xs.length = true
  · rw [if_pos c] at q
    unfold rng2D at e2
    split at e2
    · split at e2
      · rename_i i j z; cases e2
        obtain ⟨v, ws, rfl, h1, h2⟩ := rr.cons_iff
        obtain ⟨w, us, rfl, h3, h4⟩ := h2.cons_iff
        have h4 := h4.nil_iff
        subst h4
        unfold Rep at h1 h3
        subst h1
        subst h3
        rw [Bool.and_eq_true] at z
        unfold rngOk at z
        have z1 := of_decide_eq_true z.1
        have z2 := of_decide_eq_true z.2
        exact ⟨_, _, rfl, ⟨z1.1, z1.2, z2.1, z2.2⟩, q _ H1 _ S1 k1 src_range trivial (of_decide_eq_true c)⟩
      · cases e2
    · cases e2
  · rw [if_neg c] at q
    exact q.elim
end
end Y

set_option Elab.async false
set_option linter.all false
set_option maxRecDepth 100000
namespace Y
open PySem PySem.Spec PyProof.Rows L2

theorem OA_of {O : List Nat} {σ σ' : St} (h : ∀ i ∈ O, σ'[i]? = σ[i]?) (b : Addr) : OA O σ' b ↔ OA O σ b := by
  constructor
  · rintro ⟨i, hi, e⟩; exact ⟨i, hi, (h i hi).symm.trans e⟩
  · rintro ⟨i, hi, e⟩; exact ⟨i, hi, (h i hi).trans e⟩
section
variable {K : PySem.W.Frag} {P0 P1 : Pr} {O W : List Nat} {ρ ρ' : Env} {σ σ' : St} {H H' : Hp} {d : D} {v : V}
theorem FA_of (h : ∀ i ∈ O, σ'[i]? = σ[i]?) (b : Addr) : FA P0 O σ' b ↔ FA P0 O σ b := or_congr Iff.rfl (OA_of h b)
/-- other slots, less known -/
theorem Sim.move (S : Sim K P0 O W ρ σ H) (hl : ρ'.length ≤ σ'.length) (ho : ∀ i ∈ O, σ'[i]? = σ[i]?) (hρ : ∀ i ∈ O, ∀ d, ρ'[i]? = some (some d) → ρ[i]? = some (some d))
    (hv : ∀ (i : Nat) d, ρ'[i]? = some (some d) → i ∉ O → ∃ v, σ'[i]? = some (some v) ∧ Rep K H d (FA P0 O σ) v) : Sim K P0 O W ρ' σ' H where
  sub := S.sub
  len := hl
  dom := fun b z => S.dom b ((FA_of ho b).mp z)
  val := fun i d e n => by
    obtain ⟨v, h1, h2⟩ := hv i d e n
    exact ⟨v, h1, h2.less S.dom fun b z => (FA_of ho b).mp z⟩
  own := fun i d e n => by
    obtain ⟨v, h1, h2⟩ := S.own i d (hρ i n d e) n
    refine ⟨v, (ho i n).trans h1, ?_⟩
    have fa : ∀ b, FA P0 O σ' b → FA P0 O σ b := fun b z => (FA_of ho b).mp z
    cases d with
    | lst ds => obtain ⟨a, vs, rfl, ht, hr⟩ := h2; exact ⟨a, vs, rfl, ht, hr.less S.dom fa⟩
    | dik ks ds => obtain ⟨a, vs, rfl, hl, ht, hr⟩ := h2; exact ⟨a, vs, rfl, hl, ht, hr.less S.dom fa⟩
    | dit ks ds => obtain ⟨a, vs, rfl, hl, ht, hr⟩ := h2; exact ⟨a, vs, rfl, hl, ht, hr.less S.dom fa⟩
    | non => exact h2
    | bl _ => exact h2
    | int _ => exact h2
    | str _ => exact h2
    | tup _ => exact h2
    | arg _ => exact h2
  sep := fun i j a hi hj e1 e2 => S.sep i j a hi hj ((ho i hi).symm.trans e1) ((ho j hj).symm.trans e2)
  sep0 := fun a z => S.sep0 a ((OA_of ho a).mp z)
theorem Sim.set (S : Sim K P0 O W ρ σ H) {i : Nat} (hi : i ∉ O) (r : Rep K H d (FA P0 O σ) v) : Sim K P0 O W (ρ.set i (some d)) (σ.set i (some v)) H := by
  refine S.move (by simpa using S.len) (fun j hj => ?_) (fun j hj d' e => ?_) fun j d' e n => ?_
  · exact List.getElem?_set_ne (fun (e : i = j) => hi (by rw [e]; exact hj))
  · rwa [List.getElem?_set_ne (fun (e : i = j) => hi (by rw [e]; exact hj))] at e
  · by_cases hj : i = j
    · subst hj
      have h1 : i < ρ.length := by
        have := (List.getElem?_eq_some_iff.mp e).1
        simpa using this
      rw [List.getElem?_set_self h1] at e
      cases e
      exact ⟨v, List.getElem?_set_self (Nat.lt_of_lt_of_le h1 S.len), r⟩
    · rw [List.getElem?_set_ne hj] at e ⊢
      exact S.val j d' e n
/-- forgetting -/
def wipeE (ρ : Env) : List Nat → Env
  | [] => ρ
  | i :: is => (wipeE ρ is).set i none
theorem wipeE_length (ρ : Env) : ∀ is, (wipeE ρ is).length = ρ.length
  | [] => rfl
  | i :: is => by unfold wipeE; rw [List.length_set, wipeE_length ρ is]
theorem wipeE_some : ∀ {is : List Nat} {j : Nat} {d : D}, (wipeE ρ is)[j]? = some (some d) → ρ[j]? = some (some d) ∧ j ∉ is
  | [], j, d, e => ⟨e, by simp⟩
  | i :: is, j, d, e => by
    unfold wipeE at e
    by_cases hj : i = j
    · subst hj
      by_cases hl : i < (wipeE ρ is).length
      · rw [List.getElem?_set_self hl] at e; cases e
      · rw [List.getElem?_eq_none (by simpa using hl)] at e; cases e
    · rw [List.getElem?_set_ne hj] at e
      obtain ⟨h1, h2⟩ := wipeE_some e
      exact ⟨h1, by simp only [List.mem_cons, not_or]; exact ⟨fun z => hj z.symm, h2⟩⟩
theorem Sim.wipe (S : Sim K P0 O W ρ σ H) (is : List Nat) : Sim K P0 O W (wipeE ρ is) σ H :=
  S.move (by rw [wipeE_length]; exact S.len) (fun _ _ => rfl) (fun i _ d e => (wipeE_some e).1) fun i d e n => S.val i d (wipeE_some e).1 n
theorem wipe_ne {is : List Nat} {j : Nat} (h : j ∉ is) : (L2.wipe σ is)[j]? = σ[j]? := wipe_out h
/-- a comprehension's own names -/
theorem Sim.wipe2 (S : Sim K P0 O W ρ σ H) {is : List Nat} (h : ∀ i ∈ is, i ∉ O) : Sim K P0 O W (wipeE ρ is) (L2.wipe σ is) H := by
  refine S.move (by rw [wipeE_length, L2.wipe_length]; exact S.len) (fun i hi => wipe_ne fun z => h i z hi) (fun i _ d e => (wipeE_some e).1) fun i d e n => ?_
  obtain ⟨e1, e2⟩ := wipeE_some e
  rw [wipe_ne e2]
  exact S.val i d e1 n
/-- back from the block: the wiped slots are not told -/
theorem Sim.out {is : List Nat} (S : Sim K P0 O W ρ (L2.wipe σ is) H) (h : ∀ i ∈ is, i ∉ O) (hρ : ∀ i ∈ is, ∀ d, ρ[i]? ≠ some (some d)) : Sim K P0 O W ρ σ H := by
  refine S.move (by have := S.len; rwa [L2.wipe_length] at this) (fun i hi => (wipe_ne fun z => h i z hi).symm) (fun i _ d e => e) fun i d e n => ?_
  obtain ⟨v, h1, h2⟩ := S.val i d e n
  rw [wipe_ne fun z => hρ i z d e] at h1
  exact ⟨v, h1, h2⟩
/-- one more object is forbidden -/
theorem Sim.more (S : Sim K P0 O W ρ σ H) {q : Addr} {vs : List V} (hq : H q = none) : Sim K (fun b => P0 b ∨ b = q) O W ρ σ (upd H q (.lst vs)) := by
  have S' := S.same (Same.new (o := .lst vs) hq)
  have fa : ∀ b, FA (fun b => P0 b ∨ b = q) O σ b → FA P0 O σ b ∨ H b = none := fun b z => by
    rcases z with (z | z) | z
    · exact .inl (.inl z)
    · rw [z]; exact .inr hq
    · exact .inl (.inr z)
  refine ⟨S.sub, S.len, fun b z => ?_, fun i d e n => ?_, fun i d e n => ?_, S.sep, fun a z => ?_⟩
  · rcases z with (z | z) | z
    · exact S'.dom b (.inl z)
    · rw [z, upd_same]; trivial
    · exact S'.dom b (.inr z)
  · obtain ⟨v, h1, h2⟩ := S.val i d e n
    exact ⟨v, h1, h2.mono d S.dom (fun b o e _ => Same.new hq b o e) fa⟩
  · obtain ⟨v, h1, h2⟩ := S.own i d e n
    refine ⟨v, h1, ?_⟩
    cases d with
    | lst ds => obtain ⟨a, vs, rfl, ht, hr⟩ := h2; exact ⟨a, vs, rfl, Same.new hq _ _ ht, hr.mono ds S.dom (fun b o e _ => Same.new hq b o e) fa⟩
    | dik ks ds => obtain ⟨a, vs, rfl, hl, ht, hr⟩ := h2; exact ⟨a, vs, rfl, hl, Same.new hq _ _ ht, hr.mono ds S.dom (fun b o e _ => Same.new hq b o e) fa⟩
    | dit ks ds => obtain ⟨a, vs, rfl, hl, ht, hr⟩ := h2; exact ⟨a, vs, rfl, hl, Same.new hq _ _ ht, hr.mono ds S.dom (fun b o e _ => Same.new hq b o e) fa⟩
    | non => exact h2
    | bl _ => exact h2
    | int _ => exact h2
    | str _ => exact h2
    | tup _ => exact h2
    | arg _ => exact h2
  · rintro (y | y)
    · exact S.sep0 a z y
    · subst y
      exact (S.dom a (.inr z)).some hq
theorem Sim.lessP (S : Sim K P1 O W ρ σ H) (h : ∀ b, P0 b → P1 b) : Sim K P0 O W ρ σ H := by
  have fa : ∀ b, FA P0 O σ b → FA P1 O σ b := fun b z => z.imp (h b) id
  refine ⟨S.sub, S.len, fun b z => S.dom b (fa b z), fun i d e n => ?_, fun i d e n => ?_, S.sep, fun a z y => S.sep0 a z (h a y)⟩
  · obtain ⟨v, h1, h2⟩ := S.val i d e n
    exact ⟨v, h1, h2.less S.dom fa⟩
  · obtain ⟨v, h1, h2⟩ := S.own i d e n
    refine ⟨v, h1, ?_⟩
    cases d with
    | lst ds => obtain ⟨a, vs, rfl, ht, hr⟩ := h2; exact ⟨a, vs, rfl, ht, hr.less S.dom fa⟩
    | dik ks ds => obtain ⟨a, vs, rfl, hl, ht, hr⟩ := h2; exact ⟨a, vs, rfl, hl, ht, hr.less S.dom fa⟩
    | dit ks ds => obtain ⟨a, vs, rfl, hl, ht, hr⟩ := h2; exact ⟨a, vs, rfl, hl, ht, hr.less S.dom fa⟩
    | non => exact h2
    | bl _ => exact h2
    | int _ => exact h2
    | str _ => exact h2
    | tup _ => exact h2
    | arg _ => exact h2
/-- a forbidden object is written -/
theorem Sim.wr (S : Sim K P0 O W ρ σ H) {q : Addr} {o : HO} (hq : P0 q) (ho : isMut (some o)) : Sim K P0 O W ρ σ (upd H q o) := by
  have k : ∀ b u, H b = some u → ¬ FA P0 O σ b → upd H q o b = some u := fun b u e n => by rw [upd_ne fun (z : b = q) => n (.inl (by rw [z]; exact hq))]; exact e
  have ne : ∀ {i a}, i ∈ O → σ[i]? = some (some (V.ref a)) → a ≠ q := fun {i a} hi e z => S.sep0 a ⟨i, hi, e⟩ (by rw [z]; exact hq)
  refine ⟨S.sub, S.len, fun b z => ?_, fun i d e n => ?_, fun i d e n => ?_, S.sep, S.sep0⟩
  · by_cases hb : b = q
    · rw [hb, upd_same]; exact ho
    · rw [upd_ne hb]; exact S.dom b z
  · obtain ⟨v, h1, h2⟩ := S.val i d e n
    exact ⟨v, h1, h2.of_same S.dom k⟩
  · obtain ⟨v, h1, h2⟩ := S.own i d e n
    refine ⟨v, h1, ?_⟩
    cases d with
    | lst ds => obtain ⟨a, vs, rfl, ht, hr⟩ := h2; exact ⟨a, vs, rfl, by rw [upd_ne (ne n h1)]; exact ht, hr.mono ds S.dom k fun _ z => .inl z⟩
    | dik ks ds => obtain ⟨a, vs, rfl, hl, ht, hr⟩ := h2; exact ⟨a, vs, rfl, hl, by rw [upd_ne (ne n h1)]; exact ht, hr.mono ds S.dom k fun _ z => .inl z⟩
    | dit ks ds => obtain ⟨a, vs, rfl, hl, ht, hr⟩ := h2; exact ⟨a, vs, rfl, hl, by rw [upd_ne (ne n h1)]; exact ht, hr.mono ds S.dom k fun _ z => .inl z⟩
    | non => exact h2
    | bl _ => exact h2
    | int _ => exact h2
    | str _ => exact h2
    | tup _ => exact h2
    | arg _ => exact h2
end

def setAll (ρ : Env) : List Nat → List D → Env
  | i :: is, d :: ds => setAll (ρ.set i (some d)) is ds
  | _, _ => ρ
abbrev GM := D → Env → R Env
def tmName (i : Nat) : GM := fun d ρ => .ok (ρ.set i (some d))
def tmTup (is : List Nat) : GM := fun d ρ => match d with
  | .tup ds => if ds.length = is.length then .ok (setAll ρ is ds) else .stk
  | _ => .stk
def tG (K : PySem.W.Frag) (P0 : Pr) (O W : List Nat) (tm : GM) (is : List Nat) : TG := fun v σ H Q => ∃ ρ d ρ', Sim K P0 O W ρ σ H ∧ Rep K H d (FA P0 O σ) v ∧ tm d ρ = .ok ρ' ∧
  ∀ σ', Sim K P0 O W ρ' σ' H → σ'.length = σ.length → (∀ j, j ∉ is → σ'[j]? = σ[j]?) → Q σ' H
theorem PG.imp {X : Cx} {e : Expr} {t t' : TG} (h : PG X e t) (i : ∀ v σ H Q, t' v σ H Q → t v σ H Q) : PG X e t' := by
  cases h with
  | mk h => exact ⟨fun pins s σ H v u Q I r q => h pins s σ H v u Q I r (i v σ H Q q)⟩
section
variable {X : Cx} {P0 : Pr} {O W : List Nat} {pos : Pos}
abbrev CG (X : Cx) (P0 : Pr) (O W : List Nat) (tg : Expr) (tm : GM) (is : List Nat) : Prop := PG X tg (tG X.K P0 O W tm is)
theorem cg_name (i : Nat) {x : Str} (hN : X.N.Nodup) (ho : i ∉ O := by decide) (hi : X.N[i]? = some x := by rfl) (hx : Loc X.env.scope x := by first | exact Or.inl rfl | exact Or.inr rfl) (hf : X.fn x = true ∨ X.env.scope.names.lookup x = some .local := by first | exact .inl rfl | exact .inr rfl) : CG X P0 O W (.Name x pos) (tmName i) [i] :=
  PG.imp (pg_name hN hi hx hf) fun v σ H Q ⟨ρ, d, ρ', S, r, e, q⟩ => by
    cases e
    exact q _ (S.set ho r) (by simp) fun j hj => List.getElem?_set_ne fun z => hj (by simp [z])
def gNames : List Nat → TGs
  | [] => gNil
  | i :: is => gCons (gName i) (gNames is)
theorem names_ok {K : PySem.W.Frag} {H : Hp} {Q : St → Hp → Prop} : ∀ {is : List Nat} {ds : List D} {vs : List V} {ρ : Env} {σ : St}, (∀ i ∈ is, i ∉ O) → ds.length = is.length → Sim K P0 O W ρ σ H → Reps K H ds (FA P0 O σ) vs →
    (∀ σ', Sim K P0 O W (setAll ρ is ds) σ' H → σ'.length = σ.length → (∀ j, j ∉ is → σ'[j]? = σ[j]?) → Q σ' H) → gNames is vs σ H Q
  | [], [], vs, ρ, σ, _, _, S, r, q => ⟨r.nil_iff, q σ S rfl fun _ _ => rfl⟩
  | [], _ :: _, _, _, _, _, hl, _, _, _ => by simp at hl
  | _ :: _, [], _, _, _, _, hl, _, _, _ => by simp at hl
  | i :: is, d :: ds, vs, ρ, σ, ho, hl, S, r, q => by
    obtain ⟨v, ws, rfl, r1, r2⟩ := r.cons_iff
    have hi : i ∉ O := ho i (by simp)
    have S1 := S.set hi r1
    have fa : ∀ j ∈ O, (σ.set i (some v))[j]? = σ[j]? := fun j hj => List.getElem?_set_ne fun (z : i = j) => hi (by rw [z]; exact hj)
    refine ⟨v, ws, rfl, names_ok (fun j hj => ho j (by simp [hj])) (by simpa using hl) S1 (r2.less S.dom fun b z => (FA_of fa b).mp z) fun σ' S' h1 h2 => ?_⟩
    exact q σ' S' (by rw [h1]; simp) fun j hj => by
      rw [h2 j fun z => hj (by simp [z])]
      exact List.getElem?_set_ne fun z => hj (by simp [z])
theorem cg_tup {es : List Expr} {k : Nat} (is : List Nat) (hc : X.calm = true) (h : PGs X es (gNames is)) (ho : ∀ i ∈ is, i ∉ O := by decide) (hst : (assignEach es X.env).findIdx? (·.1) = none := by rfl) (hn : (assignEach es X.env).length = is.length := by rfl) : CG X P0 O W (.Tuple es k pos) (tmTup is) is :=
  PG.imp (pg_tup hc h hn hst) fun v σ H Q ⟨ρ, d, ρ', S, r, e, q⟩ => by
    unfold tmTup at e
    split at e
    · split at e
      · rename_i hl; cases e
        unfold Rep at r
        obtain ⟨a, vs, rfl, h1, h2⟩ := r
        exact ⟨a, vs, rfl, SqT.of h1, by rw [h2.length, hl], names_ok ho hl S h2 q⟩
      · cases e
    · cases e
theorem cgs_nil : PGs X [] (gNames []) := pgs_nil
theorem cgs_cons {es : List Expr} {is : List Nat} (i : Nat) {x : Str} {p : Pos} (hN : X.N.Nodup) (h2 : PGs X es (gNames is)) (hi : X.N[i]? = some x := by rfl) (hx : Loc X.env.scope x := by first | exact Or.inl rfl | exact Or.inr rfl) (hf : X.fn x = true ∨ X.env.scope.names.lookup x = some .local := by first | exact .inl rfl | exact .inr rfl) :
    PGs X (.Name x p :: es) (gNames (i :: is)) := pgs_cons (pg_name hN hi hx hf) h2
end

open Classical in
/-- the slots that are read from stay -/
noncomputable def chk (ws : List Nat) (ρ ρ' : Env) : R Unit := if ∀ w ∈ ws, ρ'[w]? = ρ[w]? then .ok () else .stk
@[simp] theorem chk_nil {ρ ρ' : Env} : chk [] ρ ρ' = .ok () := by unfold chk; rw [if_pos]; intro w hw; cases hw
theorem chk_ok {ws : List Nat} {ρ ρ' : Env} (h : chk ws ρ ρ' = .ok ()) : ∀ w ∈ ws, ρ'[w]? = ρ[w]? := by
  unfold chk at h
  split at h
  · assumption
  · cases h
noncomputable def cCompL (tm : GM) (t : BM) (e : EM) (vs ws : List Nat) : List D → Env → R (List D × Env)
  | [], ρ => .ok ([], ρ)
  | x :: xs, ρ => do
    let ρ1 ← tm x ρ
    let (k, ρ2) ← t ρ1
    if k = true then do
      let (h, ρ3) ← e ρ2
      let d ← h.v
      let _ ← chk ws ρ (wipeE ρ3 vs)
      let (ys, ρ5) ← cCompL tm t e vs ws xs (wipeE ρ3 vs)
      pure (d :: ys, ρ5)
    else do
      let _ ← chk ws ρ (wipeE ρ2 vs)
      cCompL tm t e vs ws xs (wipeE ρ2 vs)
noncomputable def cComp (im : IM) (tm : GM) (t : BM) (e : EM) (vs : List Nat) : EM := fun ρ => do
  let ((ds, ws), ρ1) ← im ρ
  let (ys, ρ2) ← (cCompL tm t e vs ws ds (wipeE ρ1 vs)).nox
  pure (.fr (.lst ys), ρ2)
def cYes : BM := fun ρ => .ok (true, ρ)
abbrev E00 : EK := fun _ _ _ => False
/-- one turn -/
inductive CStep (tm : GM) (t : BM) (e : EM) (vs ws : List Nat) (x : D) (xs : List D) (ρ : Env) (ys : List D) (ρf : Env) : Prop where
  | yes (ρ1 ρ2 ρ3 : Env) (h : Hd) (d : D) (ys' : List D) (e1 : tm x ρ = .ok ρ1) (e2 : t ρ1 = .ok (true, ρ2)) (e3 : e ρ2 = .ok (h, ρ3)) (e4 : h.v = .ok d) (e5 : chk ws ρ (wipeE ρ3 vs) = .ok ()) (e6 : cCompL tm t e vs ws xs (wipeE ρ3 vs) = .ok (ys', ρf)) (e7 : ys = d :: ys')
  | no (ρ1 ρ2 : Env) (e1 : tm x ρ = .ok ρ1) (e2 : t ρ1 = .ok (false, ρ2)) (e5 : chk ws ρ (wipeE ρ2 vs) = .ok ()) (e6 : cCompL tm t e vs ws xs (wipeE ρ2 vs) = .ok (ys, ρf))
theorem cComp_step {tm : GM} {t : BM} {e : EM} {vs ws : List Nat} {x : D} {xs : List D} {ρ : Env} {ys : List D} {ρf : Env} (h : cCompL tm t e vs ws (x :: xs) ρ = .ok (ys, ρf)) : CStep tm t e vs ws x xs ρ ys ρf := by
  unfold cCompL at h
  obtain ⟨ρ1, e1, h⟩ := R.ok_of h
  obtain ⟨⟨k, ρ2⟩, e2, h⟩ := R.ok_of h
  cases k with
  | true =>
    have h : (e ρ2 >>= _) = R.ok (ys, ρf) := h
    obtain ⟨⟨hd, ρ3⟩, e3, h⟩ := R.ok_of h
    obtain ⟨d, e4, h⟩ := R.ok_of h
    obtain ⟨_, e5, h⟩ := R.ok_of h
    obtain ⟨⟨ys', ρ5⟩, e6, h⟩ := R.ok_of h
    cases h
    exact .yes ρ1 ρ2 ρ3 hd d ys' e1 e2 e3 e4 e5 e6 rfl
  | false =>
    have h : (chk ws ρ (wipeE ρ2 vs) >>= _) = R.ok (ys, ρf) := h
    obtain ⟨_, e5, h⟩ := R.ok_of h
    exact .no ρ1 ρ2 e1 e2 e5 h
end Y

set_option Elab.async false
set_option linter.all false
set_option maxRecDepth 100000
namespace Y
open PySem PySem.Spec PyProof.Rows L2

theorem wipe_same {σ σ' : St} {vs : List Nat} (hl : σ'.length = σ.length) (h : ∀ j, j ∉ vs → σ'[j]? = σ[j]?) : L2.wipe σ' vs = L2.wipe σ vs := by
  apply List.ext_getElem?
  intro j
  by_cases hj : j ∈ vs
  · have q : ∀ (τ : St), (L2.wipe τ vs)[j]? = if j < τ.length then some none else none := fun τ => by
      have hlen := L2.wipe_length τ vs
      cases e : (L2.wipe τ vs)[j]? with
      | none =>
        rw [List.getElem?_eq_none_iff] at e
        rw [if_neg (by omega)]
      | some o =>
        have := (List.getElem?_eq_some_iff.mp e).1
        rw [if_pos (by omega)]
        cases o with
        | none => rfl
        | some v => exact absurd hj (wipe_some e).2
    rw [q, q, hl]
  · rw [wipe_ne hj, wipe_ne hj, h j hj]
theorem wipe_idem {σ : St} {vs : List Nat} : L2.wipe (L2.wipe σ vs) vs = L2.wipe σ vs := wipe_same (L2.wipe_length σ vs) fun j hj => wipe_ne hj
theorem wipeE_none {ρ : Env} {vs : List Nat} : ∀ i ∈ vs, ∀ d, (wipeE ρ vs)[i]? ≠ some (some d) := fun i hi d e => (wipeE_some e).2 hi
section
variable {X : Cx} {P0 : Pr} {O W : List Nat} {E : EK} {a b c e tg : Expr} {es : List Expr} {ma mb mc : EM} {ms : AM} {pos : Pos}
theorem PE.ex {e : Expr} {m : EM} (h : ∀ P0, CEx X P0 O W E e m) : PE X e (fun σ H Q => ∃ P0, tM X.K P0 O W E m σ H Q) := ⟨fun pins s σ H Q I ⟨P0, q⟩ => (h P0).run pins s σ H Q I q⟩
theorem PT.ex {e : Expr} {m : BM} (h : ∀ P0, CT X P0 O W E e m) : PT X e (fun σ H Q => ∃ P0, tMt X.K P0 O W E m σ H Q) := ⟨fun pins s σ H Q I ⟨P0, q⟩ => (h P0).run pins s σ H Q I q⟩
theorem PG.ex {e : Expr} {m : GM} {is : List Nat} (h : ∀ P0, CG X P0 O W e m is) : PG X e (fun v σ H Q => ∃ P0, tG X.K P0 O W m is v σ H Q) := by
  refine ⟨fun pins s σ H v u Q I r ⟨P0, q⟩ => ?_⟩
  cases h P0 with
  | mk h => exact h pins s σ H v u Q I r q
/-- the tests of a comprehension -/
abbrev CTs (X : Cx) (O W : List Nat) (E : EK) (ifs : List Expr) (m : BM) : Prop := PTs X ifs (fun σ H Q => ∃ P0, tMt X.K P0 O W E m σ H Q)
theorem cts_nil : CTs X O W E [] cYes := by
  cases (pts_nil (X := X)) with
  | mk h => exact ⟨fun pins s σ H Q I ⟨P0, ρ, S, q⟩ => h pins s σ H Q I (q H S .refl)⟩
theorem cts_one {m : BM} (h : ∀ P0, CT X P0 O W E c m) : CTs X O W E [c] m := pts_one (PT.ex h)
theorem comp_core {K : PySem.W.Frag} {im : IM} {tm : GM} {t : BM} {me : EM} {is vs : List Nat} (hv : ∀ i ∈ is, i ∈ vs) (ho : ∀ i ∈ vs, i ∉ O) (σ : St) (H : Hp) (Q : VK) (h : tM K P0 O W E (cComp im tm t me vs) σ H Q) :
    tLc (tMi K P0 O W E im) (fun v σ H Q => ∃ P0, tG K P0 O W tm is v σ H Q) (fun σ H Q => ∃ P0, tMt K P0 O W E00 t σ H Q) (fun σ H Q => ∃ P0, tM K P0 O W E00 me σ H Q) vs σ H Q := by
  obtain ⟨ρ, S, h⟩ := h
  refine ⟨ρ, S, h.of_bind.mono fun ⟨⟨ds, ws⟩, ρ1⟩ q J H1 Ok S1 k1 src ok hz Dn hD => ?_⟩
  obtain ⟨⟨ys, ρf⟩, er, q⟩ := q.of_nox
  have src : Src K O W ds ws J Ok := src
  have hz : ds.length ≤ sizeLine := hz
  generalize hP : (fun b => P0 b ∨ b = Dn : Pr) = P1
  have pD : P1 Dn := by subst hP; exact .inr rfl
  have pI : ∀ b, P0 b → P1 b := by subst hP; exact fun b z => .inl z
  have pO : ∀ b, P1 b → P0 b ∨ b = Dn := by subst hP; exact fun b z => z
  have S2 : Sim K P1 O W ρ1 σ (upd H1 Dn (.lst [])) := by subst hP; exact S1.more hD
  have ok2 : Ok P1 ρ1 σ (upd H1 Dn (.lst [])) := src.grow P0 _ ρ1 σ H1 _ S1 (fun b z => (pO b z).elim .inl fun z => .inr (by rw [z]; exact hD)) (Same.new hD) ok
  have wO : ∀ w ∈ ws, w ∉ vs := fun w hw z => ho w z (src.mem _ _ _ _ ok w hw)
  have sO : ∀ i ∈ O, (L2.wipe σ vs)[i]? = σ[i]? := fun i hi => wipe_ne fun y => ho i y hi
  have S3 : Sim K P1 O W (wipeE ρ1 vs) (L2.wipe σ vs) (upd H1 Dn (.lst [])) := S2.wipe2 ho
  have nD : ¬ OA O (L2.wipe σ vs) Dn := fun z => (S1.dom Dn (.inr ((OA_of sO Dn).mp z))).some hD
  have ok3 : Ok P1 (wipeE ρ1 vs) (L2.wipe σ vs) (upd H1 Dn (.lst [])) := src.keep P1 ρ1 σ _ _ _ _ S2 (fun _ _ e _ => e) (fun b z => .inl ((FA_of sO b).mp z)) (fun w hw => ⟨wipe_ne (wO w hw), by
    cases e : (wipeE ρ1 vs)[w]? with
    | none =>
      have : ρ1.length ≤ w := by rw [← wipeE_length ρ1 vs]; exact List.getElem?_eq_none_iff.mp e
      rw [List.getElem?_eq_none this]
    | some o =>
      have q2 : ∀ (is : List Nat), w ∉ is → (wipeE ρ1 is)[w]? = ρ1[w]? := fun is => by
        induction is with
        | nil => intro _; rfl
        | cons i is ih =>
          intro hn
          simp only [List.mem_cons, not_or] at hn
          unfold wipeE
          rw [List.getElem?_set_ne fun z => hn.1 z.symm]
          exact ih hn.2
      rw [← e, q2 vs (wO w hw)]⟩) ok2
  -- the invariant
  let I : Nat → Hp → Prop := fun i Hx => i ≤ ds.length ∧ ∃ (ρx : Env) (acc : List V) (yd rest : List D), Sim K P1 O W ρx (L2.wipe σ vs) Hx ∧ Ok P1 ρx (L2.wipe σ vs) Hx ∧ Hx Dn = some (.lst acc) ∧ Reps K Hx yd (FA P1 O (L2.wipe σ vs)) acc ∧ acc.length ≤ i ∧
    cCompL tm t me vs ws (ds.drop i) ρx = .ok (rest, ρf) ∧ ys = yd ++ rest ∧ (∀ b o, H1 b = some o → ¬ OA W σ b → Hx b = some o) ∧ (∀ b, H1 b ≠ none → Hx b ≠ none) ∧ (∀ j ∈ vs, ∀ d, ρx[j]? ≠ some (some d))
  refine ⟨fun i m Hx => m = ds.length - i ∧ I i Hx, ⟨ds.length, by simp, Nat.zero_le _, wipeE ρ1 vs, [], [], ys, S3, ok3, upd_same, Reps.nil, Nat.le_refl _, er, rfl, fun b o e _ => Same.new hD b o e, fun b e => Same.some (Same.new hD) b e, wipeE_none⟩, ?_⟩
  rintro i m Hx ⟨rfl, hi, ρx, acc, yd, rest, Sx, okx, hDx, hR, hacc, hC, hys, kx, sx, nx⟩
  by_cases hlt : i < ds.length
  · right
    refine ⟨src.go P1 i ρx _ Hx Sx okx hlt, I (i + 1), fun H' p' => ⟨ds.length - (i + 1), by omega, rfl, p'⟩, fun x' H' y => ?_⟩
    obtain ⟨sm, rx⟩ := src.yld P1 i ρx _ Hx x' H' ds[i] Sx okx (List.getElem?_eq_getElem hlt) y
    rw [List.drop_eq_getElem_cons hlt] at hC
    have back : ∀ {σ2 : St}, σ2.length = (L2.wipe σ vs).length → (∀ j, j ∉ is → σ2[j]? = (L2.wipe σ vs)[j]?) → L2.wipe σ2 vs = L2.wipe σ vs ∧ ∀ j ∈ O, σ2[j]? = (L2.wipe σ vs)[j]? := fun {σ2} h1 h2 =>
      ⟨(wipe_same h1 fun j hj => h2 j fun z => hj (hv j z)).trans wipe_idem, fun j hj => h2 j fun z => ho j (hv j z) hj⟩
    -- from the turn's end to the next turn
    have next : ∀ {σ2 : St} {ρ3 : Env} {H4 : Hp} {acc' : List V} {yd' rest' : List D}, σ2.length = (L2.wipe σ vs).length → (∀ j, j ∉ is → σ2[j]? = (L2.wipe σ vs)[j]?) → Sim K P1 O W ρ3 σ2 H4 → Keep W σ2 H' H4 →
        (∀ w ∈ ws, (wipeE ρ3 vs)[w]? = ρx[w]?) → Reps K H4 yd' (FA P1 O σ2) acc' → acc'.length ≤ i + 1 → cCompL tm t me vs ws (ds.drop (i + 1)) (wipeE ρ3 vs) = .ok (rest', ρf) → ys = yd' ++ rest' → I (i + 1) (upd H4 Dn (.lst acc')) := by
      intro σ2 ρ3 H4 acc' yd' rest' h1 h2 S4 k4 hw r' hl' hc' hy'
      obtain ⟨b1, b2⟩ := back h1 h2
      have nD2 : ¬ OA O σ2 Dn := fun z => nD ((OA_of b2 Dn).mp z)
      have S5 := S4.wipe2 (is := vs) ho
      rw [b1] at S5
      have S6 := S5.wr (o := .lst acc') pD trivial
      have kp : ∀ b o, Hx b = some o → ¬ FA P1 O (L2.wipe σ vs) b → upd H4 Dn (.lst acc') b = some o := fun b o e n => by
        rw [upd_ne fun z => n (.inl (by rw [z]; exact pD))]
        exact k4.keep b o (sm b o e) fun z => n (.inr ((OA_of b2 b).mp (S4.oaw z)))
      refine ⟨hlt, wipeE ρ3 vs, acc', yd', rest', S6, src.keep P1 ρx _ Hx _ _ _ Sx kp (fun b z => .inl z) (fun w hw' => ⟨rfl, hw w hw'⟩) okx, upd_same, ?_, hl', hc', hy', fun b o e n => ?_, fun b e => ?_, wipeE_none⟩
      · refine r'.mono yd' S4.dom (fun b o e n => ?_) fun b z => .inl ((FA_of b2 b).mpr z)
        rw [upd_ne fun z => n (.inl (by rw [z]; exact pD))]
        exact e
      · have hb : b ≠ Dn := ne_of_none e hD
        rw [upd_ne hb]
        exact k4.keep b o (sm b o (kx b o e n)) fun z => n ((OA_of (fun i hi => sO i (S1.sub i hi)) b).mp ((OA_of (fun i hi => b2 i (S1.sub i hi)) b).mp z))
      · by_cases hb : b = Dn
        · rw [hb, upd_same]; intro z; cases z
        · rw [upd_ne hb]
          exact k4.some b (Same.some sm b (sx b e))
    cases cComp_step hC with
    | yes ρa ρb ρc hd d ys' e1 e2 e3 e4 e5 e6 e7 =>
      refine ⟨P1, ρx, ds[i], ρa, Sx.same sm, rx, e1, fun σ2 Sa h1 h2 => ⟨(back h1 h2).1, P1, ρa, Sa, ?_⟩⟩
      rw [e2]
      intro H3 Sb k3
      refine (if_pos rfl).mpr ⟨P1, ρb, Sb, ?_⟩
      rw [e3]
      intro y' H4 Sc k4 r4
      have b2 := (back h1 h2).2
      have nD2 : ¬ OA O σ2 Dn := fun z => nD ((OA_of b2 Dn).mp z)
      have k34 : Keep W σ2 H' H4 := k3.trans k4
      refine ⟨acc, k34.keep _ _ (sm _ _ hDx) fun z => nD2 (Sc.oaw z), by omega, ?_⟩
      have r5 : Reps K H4 yd (FA P1 O σ2) acc := hR.mono yd Sx.dom (fun b o e n => k34.keep b o (sm b o e) fun z => n (.inr ((OA_of b2 b).mp (Sc.oaw z)))) fun b z => .inl ((FA_of b2 b).mp z)
      exact next h1 h2 Sc k34 (chk_ok e5) (r5.append (Reps.cons (r4.v e4) Reps.nil)) (by simp; omega) e6 (by rw [hys, e7]; simp)
    | no ρa ρb e1 e2 e5 e6 =>
      refine ⟨P1, ρx, ds[i], ρa, Sx.same sm, rx, e1, fun σ2 Sa h1 h2 => ⟨(back h1 h2).1, P1, ρa, Sa, ?_⟩⟩
      rw [e2]
      intro H3 Sb k3
      refine (if_neg Bool.false_ne_true).mpr ?_
      have b2 := (back h1 h2).2
      have nD2 : ¬ OA O σ2 Dn := fun z => nD ((OA_of b2 Dn).mp z)
      have r5 : Reps K H3 yd (FA P1 O σ2) acc := hR.mono yd Sx.dom (fun b o e n => k3.keep b o (sm b o e) fun z => n (.inr ((OA_of b2 b).mp (Sb.oaw z)))) fun b z => .inl ((FA_of b2 b).mp z)
      have hD3 : H3 Dn = some (.lst acc) := k3.keep _ _ (sm _ _ hDx) fun z => nD2 (Sb.oaw z)
      have fin := next h1 h2 Sb k3 (chk_ok e5) r5 (by omega) e6 hys
      have e : upd H3 Dn (.lst acc) = H3 := by
        funext b
        unfold upd
        split
        · rename_i z; rw [z, hD3]
        · rfl
      rw [e] at fin
      exact fin
  · left
    have ei : i = ds.length := by omega
    subst ei
    refine ⟨src.stop P1 ρx _ Hx Sx okx, ?_⟩
    rw [List.drop_length] at hC
    have hC : (R.ok (([] : List D), ρx)) = R.ok (rest, ρf) := hC
    cases hC
    rw [List.append_nil] at hys
    subst hys
    have kH : Keep W σ H1 Hx := ⟨kx, sx⟩
    refine q (.ref Dn) Hx ((Sx.lessP pI).out ho nx) (k1.trans kH) ⟨?_, fun _ a e => ?_⟩
    · unfold Rep
      refine ⟨Dn, acc, rfl, fun z => (S1.dom Dn z).some hD, hDx, hR.less Sx.dom fun b z => ?_⟩
      rcases z with z | z
      · exact (FA_of sO b).mpr (z.imp (pI b) id)
      · rw [z]; exact .inl pD
    · cases e
      exact Classical.byContradiction fun z => k1.some Dn z hD
theorem ce_comp {elt iter : Expr} {ifs : List Expr} {scope : Scope} {own : List (Str × Nat)} {im : IM} {tm : GM} {t : BM} {me : EM} {is : List Nat} (hc : X.calm = true) (hN : X.N.Nodup) (hi : CI X P0 O W E tg iter im) (ok : BlkOk X.N X.env.scope scope own)
    (hg : ∀ (P0 : Pr) (s : Shared) (H : Hp) (C : Addr) (cl : List (Str × Addr)) (fp : List Addr), CG (X.blk s H scope (compEnvC scope cl C X.env) fp) P0 O W tg tm is)
    (ht : ∀ (s : Shared) (H : Hp) (C : Addr) (cl : List (Str × Addr)) (fp : List Addr), CTs (X.blk s H scope (compEnvC scope cl C X.env) fp) O W E00 ifs t)
    (he : ∀ (P0 : Pr) (s : Shared) (H : Hp) (C : Addr) (cl : List (Str × Addr)) (fp : List Addr), CEx (X.blk s H scope (compEnvC scope cl C X.env) fp) P0 O W E00 elt me)
    (hv : ∀ i ∈ is, i ∈ own.map (·.2) := by decide) (ho : ∀ i ∈ own.map (·.2), i ∉ O := by decide) (hs : ∀ x, foldedSetIterable iter X.env x = pure x := by intro _; rfl) :
    CEx X P0 O W E (.ListComp elt [⟨tg, iter, ifs, 0⟩] scope pos) (cComp im tm t me (own.map (·.2))) :=
  PE.imp (pe_lc hc hN hi ok (fun s H C cl fp => PG.ex fun P0 => hg P0 s H C cl fp) ht (fun s H C cl fp => PE.ex fun P0 => he P0 s H C cl fp) hs) (comp_core hv ho)
end
end Y

set_option Elab.async false
set_option linter.all false
set_option maxRecDepth 100000
namespace Y
open PySem PySem.Spec PyProof.Rows L2

mutual
def D.nl : D → Bool
  | .non => true
  | .bl _ => true
  | .int _ => true
  | .str _ => true
  | .tup ds => nls ds
  | _ => false
def nls : List D → Bool
  | [] => true
  | d :: ds => d.nl && nls ds
end
/-- a list, a dict of such -/
def D.shallow : D → Bool
  | .lst ds => nls ds
  | .dik _ ds => nls ds
  | .dit _ ds => nls ds
  | d => d.nl
section
variable {K : PySem.W.Frag} {H : Hp}
mutual
theorem Rep.nl : ∀ {d : D} {P P' : Pr} {v : V}, d.nl = true → Rep K H d P v → Rep K H d P' v
  | .non, _, _, _, _, h => by unfold Rep at h ⊢; exact h
  | .bl _, _, _, _, _, h => by unfold Rep at h ⊢; exact h
  | .int _, _, _, _, _, h => by unfold Rep at h ⊢; exact h
  | .str _, _, _, _, _, h => by unfold Rep at h ⊢; exact h
  | .tup ds, P, P', v, n, h => by
    unfold Rep at h ⊢
    obtain ⟨a, vs, e, h1, h2⟩ := h
    exact ⟨a, vs, e, h1, Reps.nl (by unfold D.nl at n; exact n) h2⟩
  | .lst _, _, _, _, n, _ => by simp [D.nl] at n
  | .arg _, _, _, _, n, _ => by simp [D.nl] at n
  | .dik _ _, _, _, _, n, _ => by simp [D.nl] at n
  | .dit _ _, _, _, _, n, _ => by simp [D.nl] at n
theorem Reps.nl : ∀ {ds : List D} {P P' : Pr} {vs : List V}, nls ds = true → Reps K H ds P vs → Reps K H ds P' vs
  | [], _, _, _, _, h => by rw [h.nil_iff]; exact Reps.nil
  | d :: ds, P, P', vs, n, h => by
    obtain ⟨v, ws, rfl, h1, h2⟩ := h.cons_iff
    unfold nls at n
    rw [Bool.and_eq_true] at n
    exact Reps.cons (Rep.nl n.1 h1) (Reps.nl n.2 h2)
end
theorem RepO.shallow {d : D} {P P' : Pr} {v : V} (n : d.shallow = true) (h : RepO K H d P v) : RepO K H d P' v := by
  cases d with
  | lst ds => obtain ⟨a, vs, e, h1, h2⟩ := h; exact ⟨a, vs, e, h1, h2.nl n⟩
  | dik ks ds => obtain ⟨a, vs, e, hl, h1, h2⟩ := h; exact ⟨a, vs, e, hl, h1, h2.nl n⟩
  | dit ks ds => obtain ⟨a, vs, e, hl, h1, h2⟩ := h; exact ⟨a, vs, e, hl, h1, h2.nl n⟩
  | non => exact h
  | bl _ => exact h
  | int _ => exact h
  | str _ => exact h
  | tup _ => exact h
  | arg _ => exact h
theorem RepO.mono {H' : Hp} {d : D} {P P' : Pr} {v : V} (hm : ∀ b, P b → isMut (H b)) (k : ∀ b o, H b = some o → ¬ P b → H' b = some o) (hp : ∀ b, P' b → P b ∨ H b = none) (hk : ∀ a o, v = .ref a → H a = some o → H' a = some o) (h : RepO K H d P v) : RepO K H' d P' v := by
  cases d with
  | lst ds => obtain ⟨a, vs, e, h1, h2⟩ := h; exact ⟨a, vs, e, hk a _ e h1, h2.mono ds hm k hp⟩
  | dik ks ds => obtain ⟨a, vs, e, hl, h1, h2⟩ := h; exact ⟨a, vs, e, hl, hk a _ e h1, h2.mono ds hm k hp⟩
  | dit ks ds => obtain ⟨a, vs, e, hl, h1, h2⟩ := h; exact ⟨a, vs, e, hl, hk a _ e h1, h2.mono ds hm k hp⟩
  | non => exact h
  | bl _ => exact h
  | int _ => exact h
  | str _ => exact h
  | tup _ => exact h
  | arg _ => exact h
end
open Classical in
/-- what is known of the slots is what was known; or, of own slots, it holds no lists -/
noncomputable def chkO (O W : List Nat) (ρ ρ' : Env) : R Unit := if ∀ (j : Nat) d, ρ'[j]? = some (some d) → (ρ[j]? = some (some d) ∧ j ∉ W) ∨ (j ∈ O ∧ d.shallow = true) ∨ d.nl = true then .ok () else .stk
theorem chkO_ok {O W : List Nat} {ρ ρ' : Env} (h : chkO O W ρ ρ' = .ok ()) : ∀ (j : Nat) d, ρ'[j]? = some (some d) → (ρ[j]? = some (some d) ∧ j ∉ W) ∨ (j ∈ O ∧ d.shallow = true) ∨ d.nl = true := by
  unfold chkO at h
  split at h
  · assumption
  · cases h
@[simp] theorem chkO_same {O : List Nat} {ρ : Env} : chkO O [] ρ ρ = .ok () := by unfold chkO; rw [if_pos fun j d e => .inl ⟨e, by simp⟩]
/-- what an own slot may take -/
def D.ownable : D → Bool
  | .lst _ => true
  | .non => true
  | .bl _ => true
  | .int _ => true
  | .str _ => true
  | _ => false
section
variable {K : PySem.W.Frag} {P0 P1 : Pr} {O W : List Nat} {ρ ρ' : Env} {σ σ' : St} {H H' : Hp} {d : D} {v : V}
/-- an own slot's object is written -/
theorem Sim.ownW (S : Sim K P0 O W ρ σ H) {i : Nat} {a : Addr} {o : HO} (hi : i ∈ O) (ha : σ[i]? = some (some (.ref a))) (ho : isMut (some o)) (r : RepO K (upd H a o) d (FA P0 O σ) (.ref a)) : Sim K P0 O W (ρ.set i (some d)) σ (upd H a o) := by
  have pa : FA P0 O σ a := .inr ⟨i, hi, ha⟩
  have k : ∀ b u, H b = some u → ¬ FA P0 O σ b → upd H a o b = some u := fun b u e n => by rw [upd_ne fun z => n (by rw [z]; exact pa)]; exact e
  refine ⟨S.sub, by simpa using S.len, fun b z => ?_, fun j d' e n => ?_, fun j d' e n => ?_, S.sep, S.sep0⟩
  · by_cases hb : b = a
    · rw [hb, upd_same]; exact ho
    · rw [upd_ne hb]; exact S.dom b z
  · have hj : i ≠ j := fun (z : i = j) => n (by rw [← z]; exact hi)
    rw [List.getElem?_set_ne hj] at e
    obtain ⟨v, h1, h2⟩ := S.val j d' e n
    exact ⟨v, h1, h2.of_same S.dom k⟩
  · by_cases hj : i = j
    · subst hj
      have h1 : i < ρ.length := by have := (List.getElem?_eq_some_iff.mp e).1; simpa using this
      rw [List.getElem?_set_self h1] at e
      cases e
      exact ⟨_, ha, r⟩
    · rw [List.getElem?_set_ne hj] at e
      obtain ⟨v, h1, h2⟩ := S.own j d' e n
      refine ⟨v, h1, h2.mono S.dom k (fun _ z => .inl z) fun b u e1 e2 => ?_⟩
      subst e1
      rw [upd_ne fun (z : b = a) => hj (S.sep i j a hi n ha (by rw [← z]; exact h1))]
      exact e2
/-- a datum of an own slot, of a new object -/
theorem Rep.own (hm : ∀ b, FA P0 O σ b → isMut (H b)) (hd : d.ownable = true) (r : Rep K H d (FA P0 O σ) v) {P' : Pr} (hp : ∀ b, P' b → FA P0 O σ b ∨ v = .ref b) : RepO K H d P' v := by
  cases d with
  | lst ds =>
    unfold Rep at r
    obtain ⟨a, vs, rfl, h0, h1, h2⟩ := r
    exact ⟨a, vs, rfl, h1, h2.less (mutL hm h1) fun b z => (hp b z).imp id fun z => by cases z; rfl⟩
  | dik _ _ => cases hd
  | dit _ _ => cases hd
  | non => unfold Rep at r; exact r
  | bl _ => unfold Rep at r; exact r
  | int _ => unfold Rep at r; exact r
  | str _ => unfold Rep at r; exact r
  | tup _ => cases hd
  | arg _ => cases hd
/-- an own slot gets a new object v. S0: the state ahead of its making -/
theorem Sim.setO (S0 : Sim K P0 O W ρ σ H) (S : Sim K P0 O W ρ' σ H') (k : Keep W σ H H') (c : ∀ (j : Nat) d, ρ'[j]? = some (some d) → (ρ[j]? = some (some d) ∧ j ∉ W) ∨ (j ∈ O ∧ d.shallow = true) ∨ d.nl = true) {i : Nat} (hi : i ∈ O)
    (new : ∀ a, v = .ref a → H a = none ∧ isMut (H' a)) (r : RepO K H' d (fun b => FA P0 O σ b ∨ v = .ref b) v) : Sim K P0 O W (ρ'.set i (some d)) (σ.set i (some v)) H' := by
  have gs : ∀ {j : Nat} {w : V}, (σ.set i (some v))[j]? = some (some w) → (j = i ∧ w = v) ∨ (j ≠ i ∧ σ[j]? = some (some w)) := fun {j w} e => by
    by_cases hj : i = j
    · subst hj
      have h1 : i < σ.length := by have := (List.getElem?_eq_some_iff.mp e).1; simpa using this
      rw [List.getElem?_set_self h1] at e
      cases e
      exact .inl ⟨rfl, rfl⟩
    · rw [List.getElem?_set_ne hj] at e
      exact .inr ⟨fun z => hj z.symm, e⟩
  have oa : ∀ b, OA O (σ.set i (some v)) b → v = .ref b ∨ OA O σ b := fun b ⟨j, hj, e⟩ => by
    rcases gs e with ⟨_, e2⟩ | ⟨_, e2⟩
    · exact .inl e2.symm
    · exact .inr ⟨j, hj, e2⟩
  have fa0 : ∀ b, FA P0 O (σ.set i (some v)) b → FA P0 O σ b ∨ H b = none := fun b z => by
    rcases z with z | z
    · exact .inl (.inl z)
    · rcases oa b z with z | z
      · exact .inr (new b z).1
      · exact .inl (.inr z)
  have kf : ∀ b o, H b = some o → ¬ FA P0 O σ b → H' b = some o := fun b o e n => k.keep b o e fun z => n (.inr (S.oaw z))
  -- the new object is not what an own slot held
  have apart : ∀ a, v = .ref a → ¬ FA P0 O σ a := fun a e z => (S0.dom a z).some (new a e).1
  refine ⟨S.sub, by simpa using S.len, fun b z => ?_, fun j d' e n => ?_, fun j d' e n => ?_, fun x y a hx hy e1 e2 => ?_, fun a z y => ?_⟩
  · rcases z with z | z
    · exact S.dom b (.inl z)
    · rcases oa b z with z | z
      · exact (new b z).2
      · exact S.dom b (.inr z)
  · have hj : i ≠ j := fun (z : i = j) => n (by rw [← z]; exact hi)
    rw [List.getElem?_set_ne hj] at e ⊢
    rcases c j d' e with ⟨e0, _⟩ | ⟨z, _⟩ | nl
    · obtain ⟨w, h1, h2⟩ := S0.val j d' e0 n
      exact ⟨w, h1, h2.mono d' S0.dom kf fa0⟩
    · exact absurd z n
    · obtain ⟨w, h1, h2⟩ := S.val j d' e n
      exact ⟨w, h1, h2.nl nl⟩
  · by_cases hj : i = j
    · subst hj
      have h1 : i < ρ'.length := by have := (List.getElem?_eq_some_iff.mp e).1; simpa using this
      rw [List.getElem?_set_self h1] at e
      cases e
      refine ⟨v, List.getElem?_set_self (Nat.lt_of_lt_of_le h1 S.len), ?_⟩
      have r' := r
      refine r'.mono (P := fun b => FA P0 O σ b ∨ v = .ref b) (fun b z => z.elim (S.dom b) fun z => (new b z).2) (fun _ _ e _ => e) (fun b z => ?_) fun _ _ _ e => e
      rcases z with z | z
      · exact .inl (.inl (.inl z))
      · exact .inl ((oa b z).elim .inr fun z => .inl (.inr z))
    · rw [List.getElem?_set_ne hj] at e ⊢
      rcases c j d' e with ⟨e0, hw⟩ | ⟨_, sh⟩ | nl
      · obtain ⟨w, h1, h2⟩ := S0.own j d' e0 n
        refine ⟨w, h1, h2.mono S0.dom kf fa0 fun a o e1 e2 => ?_⟩
        subst e1
        refine k.keep a o e2 fun ⟨x, hx, ex⟩ => ?_
        have := S0.sep x j a (S0.sub x hx) n ex h1
        exact hw (this ▸ hx)
      · obtain ⟨w, h1, h2⟩ := S.own j d' e n
        exact ⟨w, h1, h2.shallow sh⟩
      · obtain ⟨w, h1, h2⟩ := S.own j d' e n
        refine ⟨w, h1, ?_⟩
        cases d' <;> first | exact h2 | (simp [D.nl] at nl)
  · rcases gs e1 with ⟨f1, g1⟩ | ⟨f1, g1⟩
    · rcases gs e2 with ⟨f2, g2⟩ | ⟨f2, g2⟩
      · rw [f1, f2]
      · exact absurd (.inr ⟨y, hy, g2⟩) (apart a g1.symm)
    · rcases gs e2 with ⟨f2, g2⟩ | ⟨f2, g2⟩
      · exact absurd (.inr ⟨x, hx, g1⟩) (apart a g2.symm)
      · exact S.sep x y a hx hy g1 g2
  · rcases oa a z with z | z
    · exact apart a z (.inl y)
    · exact S.sep0 a z y
end

inductive Fl where
  | nx | bk | ct | rt (h : Hd)
abbrev SM := Env → R (Fl × Env)
def Fin (K : PySem.W.Frag) (P0 : Pr) (O : List Nat) (Hs : Hp) (D : Ends) (σ : St) (H : Hp) : Fl → Prop
  | .nx => D.nx σ H
  | .bk => D.bk σ H
  | .ct => D.ct σ H
  | .rt h => ∀ v, HdR K P0 O Hs σ H h v → D.rt v H
def tSt (K : PySem.W.Frag) (P0 : Pr) (O W U : List Nat) (E : EK) (m : SM) : TS := fun D σ H => ∃ ρ, Sim K P0 O W ρ σ H ∧
  Res E O σ H (m ρ) fun a => ∀ σ' H', Sim K P0 O W a.2 σ' H' → Tr O U σ H σ' H' → σ'.length = σ.length → Fin K P0 O H D σ' H' a.1
section
variable {E : EK} {O W U : List Nat} {σ σ1 : St} {H H1 : Hp} {α β : Type}
theorem Keep.up (hs : ∀ i ∈ W, i ∈ O) (k : Keep W σ H H1) : Keep O σ H H1 := ⟨fun b o e n => k.keep b o e fun ⟨i, hi, z⟩ => n ⟨i, hs i hi, z⟩, k.some⟩
theorem Res.down (hs : ∀ i ∈ W, i ∈ O) {r : R α} {k : α → Prop} (h : Res E O σ H r k) : Res E W σ H r k := by
  cases r with
  | ok a => exact h
  | er c ds => exact fun H' kp => h H' (kp.up hs)
  | stk => exact h
theorem Keep.afterT {H2 : Hp} (t : Tr O U σ H σ1 H1) (k : Keep O σ1 H1 H2) : Keep O σ H H2 where
  keep := fun b o e n => k.keep b o (t.keep b o e n) fun z => by
    rcases t.own b z with z | z
    · exact n z
    · rw [e] at z; cases z
  some := fun b e => k.some b (t.some b e)
theorem Res.keepT {r : R α} {k : α → Prop} (h : Res E O σ H r k) (t : Tr O U σ H σ1 H1) : Res E O σ1 H1 r k := by
  cases r with
  | ok a => exact h
  | er c ds => exact fun H' kp => h H' (kp.afterT t)
  | stk => exact h
end
section
variable {X : Cx} {P0 : Pr} {O W U : List Nat} {E : EK} {a b c e tg : Expr} {es : List Expr} {ma mb mc : EM} {ms : AM} {pos : Pos} {st : Stmt} {sts : List Stmt} {m n : SM}
abbrev CS (X : Cx) (P0 : Pr) (O W U : List Nat) (E : EK) (st : Stmt) (m : SM) : Prop := PS X st (tSt X.K P0 O W U E m)
abbrev CSs (X : Cx) (P0 : Pr) (O W U : List Nat) (E : EK) (sts : List Stmt) (m : SM) : Prop := PSs X sts (tSt X.K P0 O W U E m)
def sSkip : SM := fun ρ => .ok (.nx, ρ)
def sSeq (m n : SM) : SM := fun ρ => do
  let (f, ρ1) ← m ρ
  match f with
  | .nx => n ρ1
  | f => pure (f, ρ1)
theorem cs_nil : CSs X P0 O W U E [] sSkip := PSs.imp pss_nil fun D σ H ⟨ρ, S, h⟩ => h σ H S .refl rfl
theorem cs_one (h : CS X P0 O W U E st m) : CSs X P0 O W U E [st] m := pss_one h
theorem cs_cons (h : CS X P0 O W U E st m) (h2 : CSs X P0 O W U E sts n) : CSs X P0 O W U E (st :: sts) (sSeq m n) := PSs.imp (pss_cons h h2) fun D σ H ⟨ρ, S, h⟩ =>
  ⟨ρ, S, h.of_bind.mono fun ⟨f, ρ1⟩ q σ1 H1 S1 t1 l1 => by
    cases f with
    | nx =>
      refine ⟨ρ1, S1, (Res.keepT (show Res E O σ H (n ρ1) _ from q) t1).mono fun ⟨f2, ρ2⟩ q2 σ2 H2 S2 t2 l2 => ?_⟩
      have q3 := q2 σ2 H2 S2 (t1.trans t2) (l2.trans l1)
      cases f2 with
      | nx => exact q3
      | bk => exact q3
      | ct => exact q3
      | rt hd => exact fun v r => q3 v (r.back t1.some)
    | bk => exact q σ1 H1 S1 t1 l1
    | ct => exact q σ1 H1 S1 t1 l1
    | rt hd => exact q σ1 H1 S1 t1 l1⟩
def sRet (m : EM) : SM := fun ρ => do
  let (h, ρ1) ← m ρ
  pure (.rt h, ρ1)
theorem cs_ret (h : CEx X P0 O W E e ma) : CS X P0 O W U E (.Return (some e) pos) (sRet ma) := PS.imp (ps_ret h) fun D σ H ⟨ρ, S, h⟩ =>
  ⟨ρ, S, (h.of_bind.down S.sub).mono fun ⟨hd, ρ1⟩ q v H1 S1 k1 r1 => q σ H1 S1 (Tr.of S.sub k1) rfl v r1⟩
def sIf (t : BM) (m n : SM) : SM := fun ρ => do
  let (k, ρ1) ← t ρ
  if k = true then m ρ1 else n ρ1
theorem Fin.back {K : PySem.W.Frag} {Hs Hs' : Hp} {D : Ends} {σ : St} {H : Hp} {f : Fl} (k : ∀ b, Hs b ≠ none → Hs' b ≠ none) (h : Fin K P0 O Hs D σ H f) : Fin K P0 O Hs' D σ H f := by
  cases f with
  | rt hd => exact fun v r => h v (r.back k)
  | nx => exact h
  | bk => exact h
  | ct => exact h
theorem cs_if {t : BM} {xs ys : List Stmt} (hc : CT X P0 O W E c t) (h1 : CSs X P0 O W U E xs m) (h2 : CSs X P0 O W U E ys n) : CS X P0 O W U E (.If c xs ys pos) (sIf t m n) := PS.imp (ps_if hc h1 h2) fun D σ H ⟨ρ, S, h⟩ =>
  ⟨ρ, S, (h.of_bind.down S.sub).mono fun ⟨k, ρ1⟩ q H1 S1 k1 => by
    cases k with
    | true =>
      exact (if_pos rfl).mpr ⟨ρ1, S1, (Res.keepT (show Res E O σ H (m ρ1) _ from q) (Tr.of (U := U) S.sub k1)).mono fun ⟨f2, ρ2⟩ q2 σ2 H2 S2 t2 l2 => (q2 σ2 H2 S2 ((Tr.of S.sub k1).trans t2) l2).back fun b e => k1.some b e⟩
    | false =>
      exact (if_neg Bool.false_ne_true).mpr ⟨ρ1, S1, (Res.keepT (show Res E O σ H (n ρ1) _ from q) (Tr.of (U := U) S.sub k1)).mono fun ⟨f2, ρ2⟩ q2 σ2 H2 S2 t2 l2 => (q2 σ2 H2 S2 ((Tr.of S.sub k1).trans t2) l2).back fun b e => k1.some b e⟩⟩
end
end Y

set_option Elab.async false
set_option linter.all false
set_option maxRecDepth 100000
namespace Y
open PySem PySem.Spec PyProof.Rows L2
section
variable {K : PySem.W.Frag} {X : Cx} {P0 : Pr} {O W U : List Nat} {E : EK} {a b c e tg iter : Expr} {es : List Expr} {ma mb mc : EM} {ms : AM} {pos : Pos} {st : Stmt} {sts : List Stmt} {m n : SM}
def sAsg (m : EM) (tm : GM) : SM := fun ρ => do
  let (h, ρ1) ← m ρ
  let d ← h.v.nox
  let ρ2 ← (tm d ρ1).nox
  pure (.nx, ρ2)
theorem Tr.slots {is : List Nat} {σ σ' : St} {H : Hp} (ho : ∀ i ∈ is, i ∉ O) (hu : ∀ i ∈ U, i ∈ O) (h : ∀ j, j ∉ is → σ'[j]? = σ[j]?) : Tr O U σ H σ' H :=
  ⟨fun _ _ e _ => e, fun _ e => e, fun b z => .inl ((OA_of (fun i hi => h i fun y => ho i y hi) b).mp z), fun i hi => h i fun y => ho i y (hu i hi)⟩
theorem tM_asg {tm : GM} {is : List Nat} (ho : ∀ i ∈ is, i ∉ O) (hu : ∀ i ∈ U, i ∈ O) (D : Ends) (σ : St) (H : Hp) (h : tSt K P0 O W U E (sAsg ma tm) D σ H) : tAsg (tM K P0 O W E ma) (tG K P0 O W tm is) D σ H := by
  obtain ⟨ρ, S, h⟩ := h
  refine ⟨ρ, S, (h.of_bind.down S.sub).mono fun ⟨hd, ρ1⟩ q v H1 S1 k1 r1 => ?_⟩
  obtain ⟨d, e1, q⟩ := q.of_nox
  obtain ⟨ρ2, e2, q⟩ := q.of_nox
  exact ⟨ρ1, d, ρ2, S1, r1.v e1, e2, fun σ' S' l h' => q σ' H1 S' ((Tr.of S.sub k1).trans (Tr.slots ho hu h')) l⟩
theorem cs_asg {tm : GM} {is : List Nat} (h : CEx X P0 O W E e ma) (hg : CG X P0 O W tg tm is) (ho : ∀ i ∈ is, i ∉ O := by decide) (hu : ∀ i ∈ U, i ∈ O := by decide) (hs : swapsWithSole [tg] e pos.line X.env = pure false := by rfl) (hw : swappedStores [tg] e X.env = pure none := by rfl) (h1 : (assignEach [tg] X.env).map (·.2) = [assign tg X.env] := by rfl) : CS X P0 O W U E (.Assign [tg] e pos) (sAsg ma tm) :=
  PS.imp (ps_asg h hg hs hw h1) (tM_asg ho hu)
/-- y = [.. for ..] on one line, y not captured -/
theorem cs_asgLc {i : Nat} {y : Str} {py : Pos} {elt : Expr} {ifs : List Expr} {scope : Scope} {own : List (Str × Nat)} {im : IM} {tm : GM} {t : BM} {me : EM} {is : List Nat} {p2 : Pos} (hc : X.calm = true) (hN : X.N.Nodup) (hy : X.N[i]? = some y) (hyl : X.env.scope.names.lookup y = some .local)
    (hsw : swapsWith (.ListComp elt [⟨tg, iter, ifs, 0⟩] scope pos) (some (.Name y py)) p2.line X.env = pure true) (hi : CI X P0 O W E tg iter im) (ok : BlkOk X.N X.env.scope scope own)
    (hg : ∀ (P0 : Pr) (s : Shared) (H : Hp) (C : Addr) (cl : List (Str × Addr)) (fp : List Addr), CG (X.blk s H scope (compEnvC scope cl C X.env) fp) P0 O W tg tm is)
    (ht : ∀ (s : Shared) (H : Hp) (C : Addr) (cl : List (Str × Addr)) (fp : List Addr), CTs (X.blk s H scope (compEnvC scope cl C X.env) fp) O W E00 ifs t)
    (he : ∀ (P0 : Pr) (s : Shared) (H : Hp) (C : Addr) (cl : List (Str × Addr)) (fp : List Addr), CEx (X.blk s H scope (compEnvC scope cl C X.env) fp) P0 O W E00 elt me)
    (hv : ∀ i ∈ is, i ∈ own.map (·.2) := by decide) (ho : ∀ i ∈ own.map (·.2), i ∉ O := by decide) (hi' : i ∉ O := by decide) (hu : ∀ i ∈ U, i ∈ O := by decide) (hs : ∀ x, foldedSetIterable iter X.env x = pure x := by intro _; rfl) :
    CS X P0 O W U E (.Assign [.Name y py] (.ListComp elt [⟨tg, iter, ifs, 0⟩] scope pos) p2) (sAsg (cComp im tm t me (own.map (·.2))) (tmName i)) :=
  PS.imp (ps_setLc (i := i) hc hN hy hyl hsw hi ok (fun s H C cl fp => PG.ex fun P0 => hg P0 s H C cl fp) ht (fun s H C cl fp => PE.ex fun P0 => he P0 s H C cl fp) hs) fun D σ H h => by
    have q := tM_asg (is := [i]) (by simpa using hi') hu D σ H h
    refine comp_core (im := im) (tm := tm) (t := t) (me := me) hv ho σ H _ ?_
    obtain ⟨ρ, S, q⟩ := q
    refine ⟨ρ, S, q.mono fun a q v H1 S1 k1 r1 => ?_⟩
    obtain ⟨ρ1, d, ρ2, S2, r, e, q⟩ := q v H1 S1 k1 r1
    cases e
    exact q _ (S2.set hi' r) (by simp) fun j hj => List.getElem?_set_ne fun z => hj (by simp [z])
noncomputable def sOwn (O W : List Nat) (m : EM) (i : Nat) : SM := fun ρ => do
  let (h, ρ1) ← m ρ
  match h with
  | .fr d => do
    let _ ← (chkO O W ρ ρ1).nox
    if d.ownable = true then pure (.nx, ρ1.set i (some d)) else .stk
  | _ => .stk
theorem tM_own {i : Nat} (hi : i ∈ O) (hu : i ∉ U) (D : Ends) (σ : St) (H : Hp) (h : tSt K P0 O W U E (sOwn O W ma i) D σ H) : tAsg (tM K P0 O W E ma) (gName i) D σ H := by
  obtain ⟨ρ, S, h⟩ := h
  refine ⟨ρ, S, (h.of_bind.down S.sub).mono fun ⟨hd, ρ1⟩ q v H1 S1 k1 r1 => ?_⟩
  cases hd with
  | vl d => exact q.elim
  | ow j => exact q.elim
  | fr d =>
    obtain ⟨_, e1, q⟩ := Res.of_nox (show Res E O σ H ((chkO O W ρ ρ1).nox >>= _) _ from q)
    have c := chkO_ok e1
    by_cases hd : d.ownable = true
    · rw [if_pos hd] at q
      have new : ∀ a, v = .ref a → H a = none ∧ isMut (H1 a) := fun a e => by
        subst e
        have r := r1.1
        have f := r1.2
        cases d with
        | lst ds =>
          unfold Rep at r
          obtain ⟨b, vs, e, h0, h1, h2⟩ := r
          cases e
          exact ⟨f rfl _ rfl, by rw [h1]; trivial⟩
        | non => unfold Rep at r; cases r
        | bl _ => unfold Rep at r; cases r
        | int _ => unfold Rep at r; cases r
        | str _ => unfold Rep at r; cases r
        | tup _ => cases hd
        | arg _ => cases hd
        | dik _ _ => cases hd
        | dit _ _ => cases hd
      have S2 := S.setO S1 k1 c hi new (r1.1.own S1.dom hd fun b z => z)
      have gs : ∀ {b : Addr}, OA O (σ.set i (some v)) b → OA O σ b ∨ H b = none := fun {b} ⟨j, hj, e⟩ => by
        by_cases hij : i = j
        · subst hij
          have h1 : i < σ.length := by have := (List.getElem?_eq_some_iff.mp e).1; simpa using this
          rw [List.getElem?_set_self h1] at e
          cases e
          exact .inr (new b rfl).1
        · rw [List.getElem?_set_ne hij] at e
          exact .inl ⟨j, hj, e⟩
      exact q _ H1 S2 ⟨fun b o e n => k1.keep b o e fun z => n (S.oaw z), k1.some, fun b z => gs z, fun j hj => List.getElem?_set_ne fun (z : i = j) => hu (by rw [z]; exact hj)⟩ (by simp)
    · rw [if_neg hd] at q
      exact q.elim
theorem cs_own {i : Nat} {x : Str} {p : Pos} (hN : X.N.Nodup) (h : CEx X P0 O W E e ma) (hi : i ∈ O := by decide) (hu : i ∉ U := by decide) (hx : X.N[i]? = some x := by rfl) (hl : Loc X.env.scope x := by first | exact Or.inl rfl | exact Or.inr rfl) (hf : X.fn x = true ∨ X.env.scope.names.lookup x = some .local := by first | exact .inl rfl | exact .inr rfl)
    (hs : swapsWithSole [.Name x p] e pos.line X.env = pure false := by rfl) (hw : swappedStores [.Name x p] e X.env = pure none := by rfl) : CS X P0 O W U E (.Assign [.Name x p] e pos) (sOwn O W ma i) :=
  PS.imp (ps_asg h (pg_name hN hx hl hf) hs hw) (tM_own hi hu)
/-- few arguments, no stars -/
abbrev Few (X : Cx) (cp : Pos) (es : List Expr) : Prop := ((backTo cp (starEach es X.env)).all (fun x => !x.1) && (backToKw cp (keywordEach [] X.env)).all (fun x => x.1.isSome)
      && decide (es.length + ([] : List Keyword).length + (if ([] : List Keyword).isEmpty then 0 else 1) < 30)) = true
theorem Tr.ownW {i : Nat} {l : Addr} {o : HO} {σ : L2.St} {H H1 : Hp} (hs : ∀ i ∈ W, i ∈ O) (k : Keep W σ H H1) (hi : i ∈ O) (ha : σ[i]? = Option.some (Option.some (V.ref l))) : Tr O U σ H σ (upd H1 l o) where
  keep := fun b u e n => by
    rw [upd_ne fun (z : b = l) => n ⟨i, hi, by rw [z]; exact ha⟩]
    exact k.keep b u e fun ⟨j, hj, z⟩ => n ⟨j, hs j hj, z⟩
  some := fun b e => by
    by_cases hb : b = l
    · rw [hb, upd_same]; intro z; cases z
    · rw [upd_ne hb]; exact k.some b e
  own := fun _ z => .inl z
  unch := fun _ _ => rfl
/-- the list of an own slot -/
theorem Sim.lst {ρ : Env} {σ : St} {H : Hp} (S : Sim K P0 O W ρ σ H) {i : Nat} {ds : List D} (hi : i ∈ O) (e : ρ[i]? = some (some (.lst ds))) : ∃ l vs, σ[i]? = some (some (.ref l)) ∧ H l = some (.lst vs) ∧ Reps K H ds (FA P0 O σ) vs := by
  obtain ⟨v, h1, l, vs, rfl, h2, h3⟩ := S.own i _ e hi
  exact ⟨l, vs, h1, h2, h3⟩
/-- .. is given other items -/
theorem Sim.lstW {ρ : Env} {σ : St} {H : Hp} (S : Sim K P0 O W ρ σ H) {i : Nat} {l : Addr} {ds' : List D} {vs' vs : List V} (hi : i ∈ O) (ha : σ[i]? = some (some (.ref l))) (hl : H l = some (.lst vs)) (r : Reps K H ds' (FA P0 O σ) vs') : Sim K P0 O W (ρ.set i (some (.lst ds'))) σ (upd H l (.lst vs')) :=
  S.ownW hi ha trivial ⟨l, vs', rfl, upd_same, r.mono ds' S.dom (fun b o e n => by rw [upd_ne fun z => n (.inr ⟨i, hi, by rw [z]; exact ha⟩)]; exact e) fun b z => .inl z⟩
def lstAt (i : Nat) (ρ : Env) : R (List D) := match ρ[i]? with
  | some (some (.lst ds)) => .ok ds
  | _ => .stk
theorem lstAt_ok {i : Nat} {ρ : Env} {ds : List D} (h : lstAt i ρ = .ok ds) : ρ[i]? = some (some (.lst ds)) := by
  unfold lstAt at h
  split at h
  · rename_i e; cases h; exact e
  · cases h
/-- x.append(e) -/
def sAppend (i : Nat) (m : EM) : SM := fun ρ => do
  let _ ← (lstAt i ρ).nox
  let (h, ρ1) ← m ρ
  let d ← h.v.nox
  let ds ← (lstAt i ρ1).nox
  if szOk (ds.length + 1) = true then pure (.nx, ρ1.set i (some (.lst (ds ++ [d])))) else .stk
theorem tM_append {i : Nat} (hi : i ∈ O) (D : Ends) (σ : St) (H : Hp) (h : tSt K P0 O W U E (sAppend i ma) D σ H) : tDrop (tBM K "list" rAppend (tVar i) (tCons (tM K P0 O W E ma) tNil)) D σ H := by
  obtain ⟨ρ, S, h⟩ := h
  obtain ⟨ds0, e0, h⟩ := h.of_nox
  obtain ⟨l, vs0, h1, h2, _⟩ := S.lst hi (lstAt_ok e0)
  refine ⟨.ref l, h1, .inl ⟨rfl, _, SqL.of h2⟩, ρ, S, (h.of_bind.down S.sub).mono fun ⟨hd, ρ1⟩ q v H1 S1 k1 r1 => ?_⟩
  obtain ⟨d, e1, q⟩ := q.of_nox
  obtain ⟨ds, e2, q⟩ := q.of_nox
  obtain ⟨l', vs, h1', h3, h4⟩ := S1.lst hi (lstAt_ok e2)
  rw [h1] at h1'
  cases h1'
  by_cases c : szOk (ds.length + 1) = true
  · rw [if_pos c] at q
    have c := of_decide_eq_true c
    refine ⟨l, vs, v, rfl, rfl, h3, by rw [h4.length]; omega, ?_⟩
    exact q σ _ (S1.lstW hi h1 h3 (h4.append (Reps.cons (r1.v e1) Reps.nil))) (Tr.ownW S.sub k1 hi h1) rfl
  · rw [if_neg c] at q
    exact q.elim
theorem cs_append {i : Nat} {x : Str} {p ap cp : Pos} (h : CEx X P0 O W E e ma) (hi : i ∈ O := by decide) (hx : X.N[i]? = some x := by rfl) (hv : Vis X.env.scope x := by first | exact Or.inl rfl | exact Or.inr (Or.inl rfl) | exact Or.inr (Or.inr rfl)) (hd : (x == ("__debug__" : Str)) = false := by decide) (hcd : (x == ("__classdict__" : Str)) = false := by decide)
    (he : starEach [e] X.env = (false, eval e X.env) :: starEach [] X.env := by rfl) (hpl : (backTo cp (starEach [] X.env)).any (·.1) = false := by rfl) (hbase : attributeBase (.Name x p) "append" X.env (eval (.Name x p) X.env) = eval (.Name x p) X.env := by rfl) (hline : (ap.endLine == cp.line) = true := by rfl)
    (hfew : Few X cp [e] := by rfl) (hsw : swapsWith (.Call (.Attribute (.Name x p) "append" ap) [e] [] cp) none pos.line X.env = pure false := by rfl) :
    CS X P0 O W U E (.Expr (.Call (.Attribute (.Name x p) "append" ap) [e] [] cp) pos) (sAppend i ma) :=
  PS.imp (ps_expr (pe_bm PySem.F.plainAttrs_list PySem.F.slot_list_append PySem.F.type_list_append mt_append (pe_var (i := i) hx hv hd hcd) (pa_cons h pa_nil he) hbase hfew hline he hpl) hsw) (tM_append hi)
end
end Y

set_option Elab.async false
set_option linter.all false
set_option maxRecDepth 100000
namespace Y
open PySem PySem.Spec PyProof.Rows L2
section
variable {K : PySem.W.Frag} {X : Cx} {P0 : Pr} {O W U : List Nat} {E : EK} {a b c e tg iter : Expr} {es : List Expr} {ma mb mc : EM} {ms : AM} {pos : Pos} {st : Stmt} {sts : List Stmt} {m n : SM}
def sSetIx (i : Nat) (mk mv : EM) : SM := fun ρ => do
  let (h, ρ1) ← mv ρ
  let d ← h.v.nox
  let _ ← (lstAt i ρ1).nox
  let (h2, ρ2) ← mk ρ1
  let k ← h2.v.nox
  match k with
  | .int z => do
    let ds ← (lstAt i ρ2).nox
    match ixN ds.length z with
    | some j => pure (.nx, ρ2.set i (some (.lst (ds.set j d))))
    | none => .stk
  | _ => .stk
theorem Reps.set {H : Hp} {P : Pr} {d : D} {v : V} (r : Rep K H d P v) : ∀ {ds : List D} {vs : List V} (j : Nat), Reps K H ds P vs → Reps K H (ds.set j d) P (vs.set j v)
  | [], _, j, h => by rw [h.nil_iff]; exact Reps.nil
  | x :: xs, _, 0, h => by
    obtain ⟨w, ws, rfl, h1, h2⟩ := h.cons_iff
    exact Reps.cons r h2
  | x :: xs, _, j + 1, h => by
    obtain ⟨w, ws, rfl, h1, h2⟩ := h.cons_iff
    exact Reps.cons h1 (Reps.set r j h2)
theorem cs_setix {i : Nat} {x : Str} {p sp : Pos} {k : Expr} {mk : EM} (h : CEx X P0 O W E e ma) (hk : CEx X P0 O W E k mk) (hi : i ∈ O := by decide) (hx : X.N[i]? = some x := by rfl) (hv : Vis X.env.scope x := by first | exact Or.inl rfl | exact Or.inr (Or.inl rfl) | exact Or.inr (Or.inr rfl)) (hd : (x == ("__debug__" : Str)) = false := by decide) (hcd : (x == ("__classdict__" : Str)) = false := by decide)
    (hs : swapsWithSole [.Subscript (.Name x p) k sp] e pos.line X.env = pure false := by rfl) (hw : swappedStores [.Subscript (.Name x p) k sp] e X.env = pure none := by rfl) (h1 : (assignEach [.Subscript (.Name x p) k sp] X.env).map (·.2) = [assign (.Subscript (.Name x p) k sp) X.env] := by rfl)
    (hb : ∀ v, assign (.Subscript (.Name x p) k sp) X.env v = (do
      let ov ← holding [v] (eval (.Name x p) X.env)
      let iv ← holding [v, ov] (eval k X.env)
      standAt sp
      holding [v, ov, iv] (setItem ov iv v)
      release [v, ov, iv] []) := by intro _; rfl) :
    CS X P0 O W U E (.Assign [.Subscript (.Name x p) k sp] e pos) (sSetIx i mk ma) := PS.imp (ps_asg h (pg_sub (pe_var (i := i) hx hv hd hcd) hk set_list hb) hs hw h1) fun D σ H ⟨ρ, S, h⟩ => by
  refine ⟨ρ, S, (h.of_bind.down S.sub).mono fun ⟨hd, ρ1⟩ q v H1 S1 k1 r1 => ?_⟩
  obtain ⟨d, e1, q1⟩ := q.of_nox
  obtain ⟨ds0, e0, q2⟩ := q1.of_nox
  obtain ⟨l, vs0, h1, h2, _⟩ := S1.lst hi (lstAt_ok e0)
  refine ⟨.ref l, h1, ρ1, S1, ((q2.of_bind.down S1.sub).keep k1).mono fun ⟨hd2, ρ2⟩ q3 w H2 S2 k2 r2 => ?_⟩
  obtain ⟨dk, e2, q4⟩ := q3.of_nox
  have rk := r2.v e2
  cases dk <;> first | (exact q4.elim) | skip
  rename_i z
  unfold Rep at rk
  subst rk
  obtain ⟨ds, e3, q5⟩ := Res.of_nox (show Res E O σ H ((lstAt i ρ2).nox >>= _) _ from q4)
  obtain ⟨l', vs, h1', h3, h4⟩ := S2.lst hi (lstAt_ok e3)
  rw [h1] at h1'
  cases h1'
  cases ej : ixN ds.length z with
  | none => rw [ej] at q5; exact q5.elim
  | some j =>
    rw [ej] at q5
    refine ⟨l, vs, z, j, rfl, rfl, h3, by rw [h4.length]; exact ej, ?_⟩
    exact q5 σ _ (S2.lstW hi h1 h3 (Reps.set (S1.rep k2 (r1.v e1)) j h4)) (Tr.ownW S.sub (k1.trans k2) hi h1) rfl
noncomputable def forL (tm : GM) (body : SM) (vs ws : List Nat) : List D → Env → R (Fl × Env)
  | [], ρ => .ok (.nx, ρ)
  | x :: xs, ρ => do
    let ρ1 ← (tm x ρ).nox
    let (f, ρ2) ← body ρ1
    match f with
    | .bk => pure (.nx, ρ2)
    | .rt h => pure (.rt h, ρ2)
    | _ => do
      let _ ← (chk ws ρ (wipeE ρ2 vs)).nox
      forL tm body vs ws xs (wipeE ρ2 vs)
noncomputable def sFor (U : List Nat) (im : IM) (tm : GM) (body : SM) (vs : List Nat) : SM := fun ρ => do
  let ((ds, ws), ρ1) ← im ρ
  if (ws.all fun w => U.contains w) = true then forL tm body vs ws ds ρ1 else .stk
theorem for_core {im : IM} {tm : GM} {is vs U' : List Nat} (ho : ∀ i ∈ is, i ∉ O) (hu : ∀ i ∈ U', i ∈ O) (hu' : ∀ i ∈ U, i ∈ U') (D : Ends) (σ : L2.St) (H : Hp) (h : tSt X.K P0 O W U E (sFor U' im tm m vs) D σ H) : tFor (tMi X.K P0 O W E im) (tG X.K P0 O W tm is) (tSt X.K P0 O W U' E m) D σ H := by
  obtain ⟨ρ, S, h⟩ := h
  refine ⟨ρ, S, (h.of_bind.down S.sub).mono fun ⟨⟨ds, ws⟩, ρ1⟩ q J H1 Ok S1 k1 src ok hz => ?_⟩
  have src : Src X.K O W ds ws J Ok := src
  have q : Res E O σ H (if (ws.all fun w => U'.contains w) = true then forL tm m vs ws ds ρ1 else .stk) _ := q
  by_cases hw : (ws.all fun w => U'.contains w) = true
  · rw [if_pos hw] at q
    have hw : ∀ w ∈ ws, w ∈ U' := fun w hw' => by simpa using List.all_eq_true.mp hw w hw'
    have t1 : Tr O U σ H σ H1 := Tr.of S.sub k1
    let Post : Fl × Env → Prop := fun a => ∀ σ' H', Sim X.K P0 O W a.2 σ' H' → Tr O U σ H σ' H' → σ'.length = σ.length → Fin X.K P0 O H D σ' H' a.1
    let I : Nat → L2.St → Hp → Prop := fun i σx Hx => i ≤ ds.length ∧ ∃ ρx, Sim X.K P0 O W ρx σx Hx ∧ Ok P0 ρx σx Hx ∧ Tr O U σ H σx Hx ∧ σx.length = σ.length ∧ Res E O σx Hx (forL tm m vs ws (ds.drop i) ρx) Post
    refine ⟨fun i k σx Hx => k = ds.length - i ∧ I i σx Hx, ⟨ds.length, by simp, Nat.zero_le _, ρ1, S1, ok, t1, rfl, Res.keepT (show Res E O σ H (forL tm m vs ws ds ρ1) Post from q) t1⟩, ?_⟩
    rintro i k σx Hx ⟨rfl, hil, ρx, Sx, okx, tx, lx, qx⟩
    by_cases hlt : i < ds.length
    · right
      refine ⟨src.go P0 i ρx σx Hx Sx okx hlt, I (i + 1), fun σ' H' p' => ⟨ds.length - (i + 1), by omega, rfl, p'⟩, fun x' H' y => ?_⟩
      obtain ⟨sm, rx⟩ := src.yld P0 i ρx σx Hx x' H' ds[i] Sx okx (List.getElem?_eq_getElem hlt) y
      rw [List.drop_eq_getElem_cons hlt] at qx
      unfold forL at qx
      obtain ⟨ρa, e1, qx⟩ := qx.of_nox
      refine ⟨ρx, ds[i], ρa, Sx.same sm, rx, e1, fun σ2 S2 l2 ag => ?_⟩
      have t2 : Tr O U' σx Hx σ2 H' := Tr.trans (σ1 := σx) (H1 := H') ⟨fun b o e _ => sm b o e, Same.some sm, fun _ z => .inl z, fun _ _ => rfl⟩ (Tr.slots ho hu ag)
      refine ⟨ρa, S2, (Res.keepT qx.of_bind t2).mono fun ⟨f, ρ2⟩ q3 σ3 H3 S3 t3 l3 => ?_⟩
      have t4 : Tr O U' σx Hx σ3 H3 := t2.trans t3
      have t5 : Tr O U σ H σ3 H3 := tx.trans (t4.less hu')
      have l5 : σ3.length = σ.length := l3.trans (l2.trans lx)
      have next : Res E O σx Hx (do let _ ← (chk ws ρx (wipeE ρ2 vs)).nox; forL tm m vs ws (ds.drop (i + 1)) (wipeE ρ2 vs)) Post → I (i + 1) σ3 H3 := fun q4 => by
        obtain ⟨_, e4, q5⟩ := Res.of_nox (show Res E O σx Hx ((chk ws ρx (wipeE ρ2 vs)).nox >>= fun _ => forL tm m vs ws (ds.drop (i + 1)) (wipeE ρ2 vs)) Post from q4)
        refine ⟨hlt, wipeE ρ2 vs, S3.wipe vs, ?_, t5, l5, Res.keepT q5 t4⟩
        refine src.keep P0 ρx σx Hx _ σ3 H3 Sx (fun b o e n => t4.keep b o e fun z => n (.inr z)) (fun b z => ?_) (fun w hw' => ⟨t4.unch w (hw w hw'), chk_ok e4 w hw'⟩) okx
        rcases z with z | z
        · exact .inl (.inl z)
        · exact (t4.own b z).imp .inr id
      cases f with
      | nx => exact next q3
      | ct => exact next q3
      | bk => exact q3 σ3 H3 S3 t5 l5
      | rt hd =>
        intro v r
        exact q3 σ3 H3 S3 t5 l5 v (r.back fun b e => Same.some sm b (tx.some b e))
    · left
      have ei : i = ds.length := by omega
      subst ei
      rw [List.drop_length] at qx
      exact ⟨src.stop P0 ρx σx Hx Sx okx, qx σx Hx Sx tx lx⟩
  · rw [if_neg hw] at q
    exact q.elim
theorem cs_for {im : IM} {tm : GM} {is vs U' : List Nat} {xs : List Stmt} (hp : PassesOwn (model X.prog X.w) X.A X.env X.xe) (hc : X.calm = true) (hi : CI X P0 O W E tg iter im) (hg : CG X P0 O W tg tm is) (hb : CSs X P0 O W U' E xs m) (ho : ∀ i ∈ is, i ∉ O := by decide) (hu : ∀ i ∈ U', i ∈ O := by decide) (hu' : ∀ i ∈ U, i ∈ U' := by decide)
    (hs : ∀ x, foldedSetIterable iter X.env x = pure x := by intro _; rfl) : CS X P0 O W U E (.For tg iter xs [] pos) (sFor U' im tm m vs) := PS.imp (ps_for hp hc hi hg hb hs) (for_core ho hu hu')
end
end Y

set_option Elab.async false
set_option linter.all false
set_option maxRecDepth 100000
namespace Y
open PySem PySem.Spec PyProof.Rows L2

theorem passN {X : Cx} : Passes (L2N.CX X.prog X.w) X E0 := fun _ _ _ _ _ _ _ q => by
  rcases q with ⟨_, _, _, _, _, _, _, _, _, _, _, _, f⟩
  exact False.elim f
theorem okN {P : Program} {w : World} {K : PySem.W.Frag} {mg : Str → Option Value} {base : Heap} {x qual : Str} {st : Stmt} {f : Addr} {fd : FuncData} {N ps : List Str} {k : Nat} {sp : Sp} (F : Fun K x qual st f fd) (S : FnScope N ps (defScope st)) (hlen : ∀ vs H Q E, sp vs H Q E → vs.length = ps.length)
    (hb : ∀ (cdv : Value) (A : Around) (outer : List PySem.Env) (s : Shared) (H : Hp) (vs : List V) (Q : VK) (E : XK), Room k (A.deeper (envOfC qual (defScope st) s.heap.objs.size f cdv)) → sp vs H Q E →
      ∃ t, PSs (cxOf (L2N.CX P w) P w K mg base N qual (defScope st) f cdv A outer s H E) (defBody st) t ∧ t { nx := fun _ H' => Q .non H', rt := Q } (L2.start N vs) H) : FnOk P w K mg base (L2N.CX P w) (k + 1) f fd ps sp := by
  rcases F.ex with ⟨_, _, _, _, _, _, cd, _, _, rfl, look, code⟩
  exact fn_of look code S hlen fun A outer s H vs Q E => hb cd A outer s H vs Q E

/-- an exception of the program's own, made with a text -/
def exE (mg : Str → Option Value) (E : XK) : EK := fun c ds H => ds = [] ∧ ∃ C, mg c = some (.ref C) ∧ E (.ref C) none H
abbrev Fn := List D → R (Hd × Env)
/-- O: the parameters whose lists it may change -/
def spD (K : PySem.W.Frag) (mg : Str → Option Value) (np : Nat) (O : List Nat) (g : Fn) : Sp := fun vs H Q E => vs.length = np ∧ ∃ ds P0, Sim K P0 O [] (ds.map some) (vs.map some) H ∧ ds.length = np ∧
  Res (exE mg E) O (vs.map some) H (g ds) fun a => ∀ v H', Keep O (vs.map some) H H' → Sim K P0 O [] a.2 (vs.map some) H' → HdR K P0 O H (vs.map some) H' a.1 v → Q v H'
structure Glo (P : Program) (w : World) (K : PySem.W.Frag) (mg : Str → Option Value) (base : Heap) (name : Str) (k np : Nat) (O : List Nat) (g : Fn) : Prop where
  ex : ∃ f fd ps, mg name = some (.ref f) ∧ PySem.W.keepIn K (.ref f) = true ∧ Binds K fd ps [] ∧ ps.length = np ∧ FnOk P w K mg base (L2N.CX P w) k f fd ps (spD K mg np O g)
/-- exceptions of callees reach what is wanted here -/
structure Out2 (X : Cx) (E : EK) (XE : XK) : Prop where
  pass : Passes (L2N.CX X.prog X.w) X XE
  ex : ∀ c ds H, E c ds H → exE X.mg XE c ds H
theorem Out2.blk {X : Cx} : Out2 X E00 E0 := ⟨passN, fun _ _ _ h => h.elim⟩
def pureF (g : List D → R Hd) : Fn := fun ds => do
  let h ← g ds
  pure (h, [])
section
variable {K : PySem.W.Frag} {P0 : Pr} {O W : List Nat} {ρ : Env} {σ : St} {H H' : Hp}
theorem FA_nil {τ : St} (b : Addr) : FA P0 [] τ b ↔ P0 b := ⟨fun z => z.elim id (fun ⟨_, h, _⟩ => (nomatch h)), .inl⟩
theorem Keep.nil {τ : St} (k : Keep [] τ H H') : Same H H' := fun b o e => k.keep b o e fun ⟨_, h, _⟩ => nomatch h
/-- the callee's state where no parameter is its own -/
theorem sim_args {ds : List D} {vs : List V} (hm : ∀ b, P0 b → isMut (H b)) (r : Reps K H ds P0 vs) : Sim K P0 [] [] (ds.map some) (vs.map some) H where
  sub := fun _ h => nomatch h
  len := by rw [List.length_map, List.length_map, r.length]; exact Nat.le_refl _
  dom := fun b z => hm b ((FA_nil b).mp z)
  val := fun i d e _ => by
    rw [List.getElem?_map] at e
    cases q : ds[i]? with
    | none => rw [q] at e; cases e
    | some d' =>
      rw [q] at e; cases e
      obtain ⟨v, e1, r1⟩ := r.get q
      exact ⟨v, by rw [List.getElem?_map, e1]; rfl, r1.less hm fun b z => (FA_nil b).mp z⟩
  own := fun i d e h => nomatch h
  sep := fun _ _ _ h => nomatch h
  sep0 := fun a ⟨_, h, _⟩ => nomatch h
end
section
variable {X : Cx} {P0 : Pr} {O W U : List Nat} {E : EK} {XE : XK} {a b c e : Expr} {es : List Expr} {ma mb mc : EM} {ms : AM} {pos : Pos} {k np : Nat} {name : Str}
/-- f(..), no argument's list is changed -/
def cCallF (g : List D → R Hd) (m : AM) : EM := fun ρ => do
  let (hs, ρ1) ← m ρ
  let ds ← (vsOf hs).nox
  let h ← g ds
  match h with
  | .ow _ => .stk
  | h => pure (h, ρ1)
theorem tM_callF {g : List D → R Hd} (hE : ∀ c ds H, E c ds H → exE X.mg XE c ds H) (σ : St) (H : Hp) (Q : VK) (len : ∀ σ H Q, tMs X.K P0 O W E ms σ H Q → True) (h : tM X.K P0 O W E (cCallF g ms) σ H Q) (hl : ∀ ρ hs ρ1, ms ρ = .ok (hs, ρ1) → hs.length = np) :
    tCall (spD X.K X.mg np [] (pureF g)) [] XE (tMs X.K P0 O W E ms) σ H Q := by
  obtain ⟨ρ, S, h⟩ := h
  refine ⟨ρ, S, ?_⟩
  cases em : ms ρ with
  | stk => unfold cCallF at h; rw [em] at h; exact h.elim
  | er c ds => unfold cCallF at h; rw [em] at h; exact h
  | ok p =>
    obtain ⟨hs, ρ1⟩ := p
    unfold cCallF at h
    rw [em] at h
    intro vs H1 S1 k1 r1
    obtain ⟨ds, e1, q⟩ := Res.of_nox (show Res E W σ H ((vsOf hs).nox >>= _) _ from h)
    have rr := HdRs.vs r1 e1
    have lv : vs.length = np := by
      have : ∀ {hs : List Hd} {vs : List V}, HdRs X.K P0 O H σ H1 hs vs → vs.length = hs.length := fun {hs} => by
        induction hs with
        | nil => intro vs r; have r : vs = [] := r; rw [r]; rfl
        | cons h hs ih => intro vs ⟨v, ws, e, _, r2⟩; rw [e, List.length_cons, List.length_cons, ih r2]
      rw [this r1]
      exact hl ρ hs ρ1 em
    rw [List.append_nil]
    refine ⟨lv, ds, FA P0 O σ, sim_args S1.dom rr, by rw [← rr.length]; exact lv, ?_⟩
    have q := q.keep k1
    unfold pureF
    cases eg : g ds with
    | stk => rw [eg] at q; exact q.elim
    | er c xs =>
      rw [eg] at q
      exact fun H' kp => hE c xs H' (q H' (Keep.same kp.nil))
    | ok hd =>
      rw [eg] at q
      intro v H2 k2 _ r2
      have sm := Keep.nil k2
      cases hd with
      | ow j => exact q.elim
      | fr d => exact q v H2 (S1.same sm) (k1.trans (Keep.same sm)) ⟨r2.1.less (fun b z => (S1.same sm).dom b ((FA_nil b).mp z)) fun b z => .inl z, fun m a e => Classical.byContradiction fun z => k1.some a z (r2.2 m a e)⟩
      | vl d => exact q v H2 (S1.same sm) (k1.trans (Keep.same sm)) (Rep.less (fun b z => (S1.same sm).dom b ((FA_nil b).mp z)) r2 fun b z => .inl z)
/-- the number of arguments -/
def ALen (m : AM) (n : Nat) : Prop := ∀ ρ hs ρ1, m ρ = .ok (hs, ρ1) → hs.length = n
theorem alen_nil : ALen cNil 0 := fun ρ hs ρ1 h => by cases h; rfl
theorem alen_cons {n : Nat} (h : ALen ms n) : ALen (cCons ma ms) (n + 1) := fun ρ hs ρ1 e => by
  obtain ⟨⟨h1, ρa⟩, e1, e⟩ := R.ok_of e
  obtain ⟨⟨h2, ρb⟩, e2, e⟩ := R.ok_of e
  cases e
  rw [List.length_cons, h _ _ _ e2]
theorem ce_call {g : List D → R Hd} {p : Pos} (G : Glo X.prog X.w X.K X.mg X.base name k np [] (pureF g)) (o : Out2 X E XE) (hr : Room k X.A) (ha : CA X P0 O W E (e :: es) ms) (hl : ALen ms np) (hg : Gl X name := by rfl) (hdb : (name == ("__debug__" : Str)) = false := by decide)
    (he : starEach (e :: es) X.env = (false, eval e X.env) :: starEach es X.env := by rfl) (hpl : (backTo pos (starEach es X.env)).any (·.1) = false := by rfl) : CEx X P0 O W E (.Call (.Name name p) (e :: es) [] pos) (cCallF g ms) := by
  obtain ⟨f, fd, ps, hm, hk, hb, _, F⟩ := G.ex
  exact PE.imp (pe_call F hr hg hm hk hb .nil o.pass ha hdb he hpl) fun σ H Q h => tM_callF o.ex σ H Q (fun _ _ _ _ => trivial) h hl
end
end Y

set_option Elab.async false
set_option linter.all false
set_option maxRecDepth 100000
namespace Y
open PySem PySem.Spec PyProof.Rows L2

def retH (np : Nat) : Fl → Env → R Hd
  | .nx, _ => .ok (.fr .non)
  | .rt (.ow i), ρ => if np ≤ i then (do
      let d ← (look i ρ).nox
      pure (.fr d)) else .stk
  | .rt h, _ => .ok h
  | _, _ => .stk
def outs (O : List Nat) (np : Nat) (ρ : Env) : Env := (List.range np).map fun i => if O.contains i = true then ρ.getD i none else none
def fnD (np n : Nat) (O : List Nat) (m : SM) : Fn := fun ds => do
  let (f, ρ) ← m (ds.map some ++ List.replicate (n - np) none)
  let h ← (retH np f ρ).nox
  pure (h, outs O np ρ)
section
variable {K : PySem.W.Frag} {mg : Str → Option Value} {P0 : Pr} {O Oc W U : List Nat} {ρ : Env} {σ : St} {H H' : Hp} {d : D} {v : V} {np n : Nat}
theorem RepO.less {P P' : Pr} (hm : ∀ b, P b → isMut (H b)) (h : RepO K H d P v) (hp : ∀ b, P' b → P b) : RepO K H d P' v := h.mono hm (fun _ _ e _ => e) (fun b z => .inl (hp b z)) fun _ _ _ e => e
/-- an own slot's object, told on -/
theorem RepO.rep {P P' : Pr} (hm : ∀ b, P b → isMut (H b)) (h : RepO K H d P v) (hp : ∀ b, P' b → P b) (ha : ∀ a, v = .ref a → ¬ P' a ∧ P a) : Rep K H d P' v := by
  cases d with
  | lst ds =>
    obtain ⟨a, vs, rfl, h1, h2⟩ := h
    unfold Rep
    exact ⟨a, vs, rfl, (ha a rfl).1, h1, h2.less hm fun b z => z.elim (hp b) fun z => by rw [z]; exact (ha a rfl).2⟩
  | dik ks ds =>
    obtain ⟨a, vs, rfl, hl, h1, h2⟩ := h
    unfold Rep
    exact ⟨a, vs, rfl, (ha a rfl).1, hl, .inl h1, h2.less hm fun b z => z.elim (hp b) fun z => by rw [z]; exact (ha a rfl).2⟩
  | dit ks ds =>
    obtain ⟨a, vs, rfl, hl, h1, h2⟩ := h
    unfold Rep
    exact ⟨a, vs, rfl, (ha a rfl).1, hl, .inl h1, h2.less hm fun b z => z.elim (hp b) fun z => by rw [z]; exact (ha a rfl).2⟩
  | non => unfold Rep; exact h
  | bl _ => unfold Rep; exact h
  | int _ => unfold Rep; exact h
  | str _ => unfold Rep; exact h
  | tup _ => exact False.elim h
  | arg _ => exact False.elim h
theorem start_get {N : List Str} {vs : List V} {i : Nat} {v : V} (h : (L2.start N vs)[i]? = some (some v)) : vs[i]? = some v := by
  unfold L2.start at h
  by_cases hi : i < vs.length
  · rw [List.getElem?_append_left (by simpa using hi), List.getElem?_map] at h
    cases e : vs[i]? with
    | none => rw [e] at h; cases h
    | some a => rw [e] at h; cases h; rfl
  · rw [List.getElem?_append_right (by simpa using hi), List.getElem?_replicate] at h
    split at h <;> cases h
theorem start_of {N : List Str} {vs : List V} {i : Nat} {v : V} (h : vs[i]? = some v) : (L2.start N vs)[i]? = some (some v) := by
  unfold L2.start
  have hi : i < vs.length := (List.getElem?_eq_some_iff.mp h).1
  rw [List.getElem?_append_left (by simpa using hi), List.getElem?_map, h]
  rfl
theorem env_get {ds : List D} {k i : Nat} {d : D} (h : (ds.map some ++ List.replicate k none)[i]? = some (some d)) : ds[i]? = some d := by
  by_cases hi : i < ds.length
  · rw [List.getElem?_append_left (by simpa using hi), List.getElem?_map] at h
    cases e : ds[i]? with
    | none => rw [e] at h; cases h
    | some a => rw [e] at h; cases h; rfl
  · rw [List.getElem?_append_right (by simpa using hi), List.getElem?_replicate] at h
    split at h <;> cases h
theorem map_get {α : Type} {ds : List α} {i : Nat} {d : α} : (ds.map some)[i]? = some (some d) ↔ ds[i]? = some d := by
  rw [List.getElem?_map]
  cases ds[i]? <;> simp
theorem OA_start {N : List Str} {vs : List V} (hO : ∀ i, i ∈ O ↔ i ∈ Oc ∧ i < np) (hl : vs.length = np) (b : Addr) : OA Oc (L2.start N vs) b ↔ OA O (vs.map some) b := by
  constructor
  · rintro ⟨i, hi, e⟩
    have e := start_get e
    exact ⟨i, (hO i).mpr ⟨hi, by rw [← hl]; exact (List.getElem?_eq_some_iff.mp e).1⟩, map_get.mpr e⟩
  · rintro ⟨i, hi, e⟩
    exact ⟨i, ((hO i).mp hi).1, start_of (map_get.mp e)⟩
theorem sim_start {N : List Str} {ds : List D} {vs : List V} (S : Sim K P0 O [] (ds.map some) (vs.map some) H) (hO : ∀ i, i ∈ O ↔ i ∈ Oc ∧ i < np) (hW : ∀ i ∈ W, i ∈ Oc) (hl : vs.length = np) (hd : ds.length = np) (hn : N.length = n) : Sim K P0 Oc W (ds.map some ++ List.replicate (n - np) none) (L2.start N vs) H := by
  have fa : ∀ b, FA P0 Oc (L2.start N vs) b → FA P0 O (vs.map some) b := fun b z => z.imp id (OA_start hO hl b).mp
  refine ⟨hW, by unfold L2.start; simp; omega, fun b z => S.dom b (fa b z), fun i d e n => ?_, fun i d e n => ?_, fun i j a hi hj e1 e2 => ?_, fun a z => S.sep0 a ((OA_start hO hl a).mp z)⟩
  · obtain ⟨v, h1, h2⟩ := S.val i d (map_get.mpr (env_get e)) fun z => n ((hO i).mp z).1
    exact ⟨v, start_of (map_get.mp h1), h2.less S.dom fa⟩
  · have e := env_get e
    have hi : i < np := by rw [← hd]; exact (List.getElem?_eq_some_iff.mp e).1
    obtain ⟨v, h1, h2⟩ := S.own i d (map_get.mpr e) ((hO i).mpr ⟨n, hi⟩)
    exact ⟨v, start_of (map_get.mp h1), h2.less S.dom fa⟩
  · have e1 := start_get e1
    have e2 := start_get e2
    have l1 : i < np := by rw [← hl]; exact (List.getElem?_eq_some_iff.mp e1).1
    have l2 : j < np := by rw [← hl]; exact (List.getElem?_eq_some_iff.mp e2).1
    exact S.sep i j a ((hO i).mpr ⟨hi, l1⟩) ((hO j).mpr ⟨hj, l2⟩) (map_get.mpr e1) (map_get.mpr e2)
theorem outs_get {i : Nat} (h : (outs O np ρ)[i]? = some (some d)) : i ∈ O ∧ i < np ∧ ρ[i]? = some (some d) := by
  unfold outs at h
  rw [List.getElem?_map] at h
  cases e : (List.range np)[i]? with
  | none => rw [e] at h; cases h
  | some j =>
    rw [e] at h
    have hi := (List.getElem?_eq_some_iff.mp e).1
    have hj : j = i := by
      obtain ⟨h1, h2⟩ := List.getElem?_eq_some_iff.mp e
      simpa using h2.symm
    subst hj
    simp only [Option.map_some, Option.some.injEq] at h
    split at h
    · rename_i c
      refine ⟨by simpa using c, by simpa using hi, ?_⟩
      rw [List.getD_eq_getElem?_getD] at h
      cases q : ρ[j]? with
      | none => rw [q] at h; cases h
      | some o => rw [q] at h; simp at h; rw [h]
    · cases h
/-- THE RULE for a def -/
theorem fnD_ok {P : Program} {w : World} {base : Heap} {x qual : Str} {st : Stmt} {f : Addr} {fd : FuncData} {N ps : List Str} {k : Nat} {m : SM} (F : Fun K x qual st f fd) (S : FnScope N ps (defScope st)) (hp : ps.length = np) (hn : N.length = n) (hO : ∀ i, i ∈ O ↔ i ∈ Oc ∧ i < np) (hW : ∀ i ∈ W, i ∈ Oc) (hU : ∀ i ∈ O, i ∈ U)
    (hb : ∀ (cdv : Value) (A : Around) (outer : List PySem.Env) (s : Shared) (H : Hp) (E : XK) (P0 : Pr), Room k (A.deeper (envOfC qual (defScope st) s.heap.objs.size f cdv)) → CSs (cxOf (L2N.CX P w) P w K mg base N qual (defScope st) f cdv A outer s H E) P0 Oc W U (exE mg E) (defBody st) m) :
    FnOk P w K mg base (L2N.CX P w) (k + 1) f fd ps (spD K mg np O (fnD np n O m)) := by
  refine okN F S (fun vs H Q E h => by rw [h.1, hp]) fun cdv A outer s H vs Q E hr h => ?_
  obtain ⟨hl, ds, P0, S0, hd, h⟩ := h
  refine ⟨_, hb cdv A outer s H E P0 hr, _, sim_start S0 hO hW hl hd hn, ?_⟩
  have oa := fun b => OA_start (N := N) hO hl b
  have kO : ∀ {H'}, Keep Oc (L2.start N vs) H H' → Keep O (vs.map some) H H' := fun {H'} k => ⟨fun b o e nn => k.keep b o e fun z => nn ((oa b).mp z), k.some⟩
  unfold fnD at h
  cases em : m (ds.map some ++ List.replicate (n - np) none) with
  | stk => rw [em] at h; exact h.elim
  | er c xs => rw [em] at h; exact fun H' kp => h H' (kO kp)
  | ok p =>
    obtain ⟨fl, ρ1⟩ := p
    rw [em] at h
    obtain ⟨hh, e1, h⟩ := Res.of_nox (show Res (exE mg E) O (vs.map some) H ((retH np fl ρ1).nox >>= _) _ from h)
    intro σ' H' S' t' l'
    have h : ∀ v H', Keep O (vs.map some) H H' → Sim K P0 O [] (outs O np ρ1) (vs.map some) H' → HdR K P0 O H (vs.map some) H' hh v → Q v H' := h
    have un : ∀ i ∈ O, σ'[i]? = (L2.start N vs)[i]? := fun i hi => t'.unch i (hU i hi)
    have pre : ∀ {i : Nat} {v : V}, i ∈ O → (σ'[i]? = some (some v) ↔ (vs.map some)[i]? = some (some v)) := fun {i v} hi => by
      rw [un i hi]
      exact ⟨fun e => map_get.mpr (start_get e), fun e => start_of (map_get.mp e)⟩
    have oO : ∀ b, OA O (vs.map some) b → OA Oc σ' b := fun b ⟨i, hi, e⟩ => ⟨i, ((hO i).mp hi).1, (pre hi).mpr e⟩
    have fa : ∀ b, FA P0 O (vs.map some) b → FA P0 Oc σ' b := fun b z => z.imp id (oO b)
    have kk : Keep O (vs.map some) H H' := ⟨fun b o e nn => t'.keep b o e fun z => nn ((oa b).mp z), t'.some⟩
    have so : Sim K P0 O [] (outs O np ρ1) (vs.map some) H' := by
      refine ⟨fun _ z => (nomatch z), by unfold outs; simp [hl], fun b z => S'.dom b (fa b z), fun i d e nn => absurd (outs_get e).1 nn, fun i d e hi => ?_, S0.sep, S0.sep0⟩
      obtain ⟨_, _, e2⟩ := outs_get e
      obtain ⟨v, h1, h2⟩ := S'.own i d e2 ((hO i).mp hi).1
      exact ⟨v, (pre hi).mp h1, h2.less S'.dom fa⟩
    cases fl with
    | bk => cases e1
    | ct => cases e1
    | nx => cases e1; exact h .non H' kk so ⟨by unfold Rep; rfl, fun z => by cases z⟩
    | rt hd' =>
      intro v r
      cases hd' with
      | fr d => cases e1; exact h v H' kk so ⟨r.1.less S'.dom fa, r.2⟩
      | vl d => cases e1; exact h v H' kk so (Rep.less S'.dom r fa)
      | ow i =>
        have e1 : (if np ≤ i then (do
          let d ← (look i ρ1).nox
          pure (Hd.fr d)) else .stk) = R.ok hh := e1
        by_cases hi : np ≤ i
        · rw [if_pos hi] at e1
          obtain ⟨d, e2, e1⟩ := R.ok_of e1
          cases e1
          have e2 := look_some (R.nox_of e2)
          obtain ⟨v', h1, h2⟩ := S'.own i d e2 r.1
          have q : σ'[i]? = some (some v) := r.2
          rw [q] at h1
          cases h1
          have no : ∀ a, v = .ref a → ¬ OA O (vs.map some) a := fun a e z => by
            obtain ⟨j, hj, ej⟩ := z
            have := S'.sep i j a r.1 ((hO j).mp hj).1 (by rw [q, e]) ((pre hj).mpr ej)
            have := ((hO j).mp hj).2
            omega
          refine h v H' kk so ⟨h2.rep S'.dom fa fun a e => ⟨fun z => ?_, .inr ⟨i, r.1, by rw [q, e]⟩⟩, fun _ a e => ?_⟩
          · rcases z with z | z
            · exact S'.sep0 a ⟨i, r.1, by rw [q, e]⟩ z
            · exact no a e z
          · rcases t'.own a ⟨i, r.1, by rw [q, e]⟩ with z | z
            · exact absurd ((oa a).mp z) (no a e)
            · exact z
        · rw [if_neg hi] at e1
          cases e1
end
end Y

set_option Elab.async false
set_option linter.all false
set_option maxRecDepth 100000
namespace Y
open PySem PySem.Spec PyProof.Rows L2

def placed (pr : List (Nat × Nat)) : Nat → List Hd → Bool
  | _, [] => true
  | j, .ow i :: hs => pr.contains (j, i) && placed pr (j + 1) hs
  | j, _ :: hs => (!pr.any fun p => p.1 == j) && placed pr (j + 1) hs
def putOuts (os : Env) : List (Nat × Nat) → Env → Env
  | [], ρ => ρ
  | (j, i) :: pr, ρ => (putOuts os pr ρ).set i (os.getD j none)
def cCallIO (pr : List (Nat × Nat)) (g : Fn) (m : AM) : EM := fun ρ => do
  let (hs, ρ1) ← m ρ
  if placed pr 0 hs = true then do
    let ds ← (dsOf hs ρ1).nox
    let (h, os) ← g ds
    match h with
    | .ow _ => .stk
    | h => pure (h, putOuts os pr ρ1)
  else .stk
section
variable {K : PySem.W.Frag} {P0 : Pr} {O Oc W : List Nat} {ρ : Env} {σ : St} {Hs H H' : Hp} {pr : List (Nat × Nat)} {os : Env}
theorem putOuts_len : ∀ pr : List (Nat × Nat), (putOuts os pr ρ).length = ρ.length
  | [] => rfl
  | (j, i) :: pr => by unfold putOuts; rw [List.length_set, putOuts_len pr]
theorem putOuts_ne {x : Nat} : ∀ {pr : List (Nat × Nat)}, x ∉ pr.map (·.2) → (putOuts os pr ρ)[x]? = ρ[x]?
  | [], _ => rfl
  | (j, i) :: pr, h => by
    simp only [List.map_cons, List.mem_cons, not_or] at h
    unfold putOuts
    rw [List.getElem?_set_ne fun z => h.1 z.symm, putOuts_ne h.2]
theorem putOuts_at {j i : Nat} {d : D} : ∀ {pr : List (Nat × Nat)}, (pr.map (·.2)).Nodup → (j, i) ∈ pr → (putOuts os pr ρ)[i]? = some (some d) → os[j]? = some (some d)
  | [], _, h, _ => nomatch h
  | (j', i') :: pr, nd, h, e => by
    simp only [List.map_cons, List.nodup_cons] at nd
    unfold putOuts at e
    rcases List.mem_cons.mp h with z | z
    · cases z
      have hl : i < (putOuts os pr ρ).length := by
        have := (List.getElem?_eq_some_iff.mp e).1
        simpa using this
      rw [List.getElem?_set_self hl, List.getD_eq_getElem?_getD] at e
      cases q : os[j]? with
      | none => rw [q] at e; cases e
      | some o => rw [q] at e; simp at e; rw [e]
    · have hi : i' ≠ i := fun y => nd.1 (by rw [y]; exact List.mem_map.mpr ⟨_, z, rfl⟩)
      rw [List.getElem?_set_ne hi] at e
      exact putOuts_at nd.2 z e
theorem HdRs.at : ∀ {hs : List Hd} {vs : List V} {j : Nat} {v : V}, HdRs K P0 O Hs σ H hs vs → vs[j]? = some v → ∃ h, hs[j]? = some h ∧ HdR K P0 O Hs σ H h v
  | [], _, _, _, r, e => by have r : _ = [] := r; rw [r] at e; simp at e
  | h :: hs, _, 0, v, ⟨w, ws, e0, r1, _⟩, e => by subst e0; simp at e; subst e; exact ⟨h, rfl, r1⟩
  | h :: hs, _, j + 1, v, ⟨w, ws, e0, _, r2⟩, e => by subst e0; simpa using HdRs.at r2 (by simpa using e)
theorem HdRs.len : ∀ {hs : List Hd} {vs : List V}, HdRs K P0 O Hs σ H hs vs → vs.length = hs.length
  | [], _, r => by have r : _ = [] := r; rw [r]; rfl
  | h :: hs, _, ⟨w, ws, e0, _, r2⟩ => by subst e0; rw [List.length_cons, List.length_cons, HdRs.len r2]
theorem dsOf_at : ∀ {hs : List Hd} {ds : List D}, dsOf hs ρ = .ok ds → ds.length = hs.length ∧ ∀ (j : Nat) h d, hs[j]? = some h → ds[j]? = some d → h.d ρ = .ok d
  | [], _, e => by cases e; exact ⟨rfl, fun j h d e => by simp at e⟩
  | h :: hs, _, e => by
    obtain ⟨d, e1, e⟩ := R.ok_of e
    obtain ⟨ds, e2, e⟩ := R.ok_of e
    cases e
    obtain ⟨l, g⟩ := dsOf_at e2
    refine ⟨by rw [List.length_cons, List.length_cons, l], fun j h' d' a b => ?_⟩
    cases j with
    | zero => simp at a b; subst a b; exact R.nox_of e1
    | succ j => exact g j h' d' (by simpa using a) (by simpa using b)
theorem placed_at : ∀ {hs : List Hd} {k : Nat}, placed pr k hs = true → ∀ (j : Nat) h, hs[j]? = some h → (∃ i, h = .ow i ∧ (k + j, i) ∈ pr) ∨ ((∀ i, h ≠ .ow i) ∧ (k + j) ∉ pr.map (·.1))
  | [], _, _, j, h, e => by simp at e
  | h0 :: hs, k, p, j, h, e => by
    cases j with
    | zero =>
      simp at e; subst e
      cases h0 with
      | ow i =>
        unfold placed at p
        rw [Bool.and_eq_true] at p
        exact .inl ⟨i, rfl, by simpa using p.1⟩
      | fr d =>
        unfold placed at p
        rw [Bool.and_eq_true] at p
        refine .inr ⟨fun i z => (by cases z), fun z => ?_⟩
        obtain ⟨q, hq, e⟩ := List.mem_map.mp z
        have := p.1
        simp only [Bool.not_eq_true', List.any_eq_false] at this
        exact this q hq (by simpa using e)
      | vl d =>
        unfold placed at p
        rw [Bool.and_eq_true] at p
        refine .inr ⟨fun i z => (by cases z), fun z => ?_⟩
        obtain ⟨q, hq, e⟩ := List.mem_map.mp z
        have := p.1
        simp only [Bool.not_eq_true', List.any_eq_false] at this
        exact this q hq (by simpa using e)
    | succ j =>
      have p2 : placed pr (k + 1) hs = true := by
        cases h0 <;> (unfold placed at p; rw [Bool.and_eq_true] at p; exact p.2)
      have := placed_at p2 j h (by simpa using e)
      rwa [show k + 1 + j = k + (j + 1) by omega] at this
end
theorem nodup_inj {pr : List (Nat × Nat)} (hn : (pr.map (·.2)).Nodup) {j j' i : Nat} (a : (j, i) ∈ pr) (b : (j', i) ∈ pr) : j = j' := by
  induction pr with
  | nil => cases a
  | cons p pr ih =>
    simp only [List.map_cons, List.nodup_cons] at hn
    rcases List.mem_cons.mp a with a | a <;> rcases List.mem_cons.mp b with b | b
    · rw [← a] at b; cases b; rfl
    · exact absurd (List.mem_map.mpr ⟨_, b, by rw [← a]⟩) hn.1
    · exact absurd (List.mem_map.mpr ⟨_, a, by rw [← b]⟩) hn.1
    · exact ih hn.2 a b
theorem nodup_inj1 {pr : List (Nat × Nat)} (hn : (pr.map (·.1)).Nodup) {j i i' : Nat} (a : (j, i) ∈ pr) (b : (j, i') ∈ pr) : i = i' := by
  induction pr with
  | nil => cases a
  | cons p pr ih =>
    simp only [List.map_cons, List.nodup_cons] at hn
    rcases List.mem_cons.mp a with a | a <;> rcases List.mem_cons.mp b with b | b
    · rw [← a] at b; cases b; rfl
    · exact absurd (List.mem_map.mpr ⟨_, b, by rw [← a]⟩) hn.1
    · exact absurd (List.mem_map.mpr ⟨_, a, by rw [← b]⟩) hn.1
    · exact ih hn.2 a b
section
variable {X : Cx} {P0 : Pr} {O Oc W U : List Nat} {E : EK} {XE : XK} {a b c e : Expr} {es : List Expr} {ma mb mc : EM} {ms : AM} {pos : Pos} {k np : Nat} {name : Str} {pr : List (Nat × Nat)}
theorem tM_callIO {g : Fn} (hE : ∀ c ds H, E c ds H → exE X.mg XE c ds H) (hO : O = pr.map (·.1)) (hn : (pr.map (·.2)).Nodup) (hn1 : (pr.map (·.1)).Nodup) (hw : ∀ p ∈ pr, p.2 ∈ W) (hl : ALen ms np) (σ : St) (H : Hp) (Q : VK) (h : tM X.K P0 Oc W E (cCallIO pr g ms) σ H Q) :
    tCall (spD X.K X.mg np O g) [] XE (tMs X.K P0 Oc W E ms) σ H Q := by
  obtain ⟨ρ, S, h⟩ := h
  refine ⟨ρ, S, ?_⟩
  cases em : ms ρ with
  | stk => unfold cCallIO at h; rw [em] at h; exact h.elim
  | er c ds => unfold cCallIO at h; rw [em] at h; exact h
  | ok p =>
    obtain ⟨hs, ρ1⟩ := p
    unfold cCallIO at h
    rw [em] at h
    intro vs H1 S1 k1 r1
    have q : Res E W σ H (if placed pr 0 hs = true then (do
      let ds ← (dsOf hs ρ1).nox
      let (h, os) ← g ds
      match h with
      | .ow _ => .stk
      | h => pure (h, putOuts os pr ρ1)) else .stk) _ := h
    have hp : placed pr 0 hs = true := by
      cases hp : placed pr 0 hs with
      | true => rfl
      | false => rw [hp] at q; exact q.elim
    rw [if_pos hp] at q
    obtain ⟨ds, e1, q⟩ := q.of_nox
    have pl := placed_at hp
    simp only [Nat.zero_add] at pl
    obtain ⟨dl, dg⟩ := dsOf_at e1
    have lv : vs.length = np := by rw [HdRs.len r1]; exact hl ρ hs ρ1 em
    have ld : ds.length = np := by rw [dl]; exact hl ρ hs ρ1 em
    rw [List.append_nil]
    -- the callee's own objects are own here
    have own : ∀ {j : Nat} {v : V}, j ∈ O → (vs.map some)[j]? = some (some v) → ∃ i, (j, i) ∈ pr ∧ i ∈ Oc ∧ i ∈ W ∧ σ[i]? = some (some v) ∧ hs[j]? = some (.ow i) := fun {j v} hj e => by
      obtain ⟨h, e2, r⟩ := HdRs.at r1 (map_get.mp e)
      rcases pl j h e2 with ⟨i, rfl, hi⟩ | ⟨_, hn'⟩
      · exact ⟨i, hi, r.1, hw _ hi, r.2, e2⟩
      · rw [hO] at hj; exact absurd hj hn'
    have oa : ∀ b, OA O (vs.map some) b → OA W σ b := fun b ⟨j, hj, e⟩ => let ⟨i, _, _, h2, h3, _⟩ := own hj e; ⟨i, h2, h3⟩
    have oaO : ∀ b, OA O (vs.map some) b → OA Oc σ b := fun b z => S1.oaw (oa b z)
    generalize hP1 : (fun b => FA P0 Oc σ b ∧ ¬ OA O (vs.map some) b : Pr) = P1
    have fa1 : ∀ b, FA P1 O (vs.map some) b → FA P0 Oc σ b := fun b z => by
      subst hP1
      rcases z with z | z
      · exact z.1
      · exact .inr (oaO b z)
    have fa2 : ∀ b, FA P0 Oc σ b → FA P1 O (vs.map some) b := fun b z => by
      subst hP1
      by_cases y : OA O (vs.map some) b
      · exact .inr y
      · exact .inl ⟨z, y⟩
    have S2 : Sim X.K P1 O [] (ds.map some) (vs.map some) H1 := by
      refine ⟨fun _ z => (nomatch z), by simp [lv, ld], fun b z => S1.dom b (fa1 b z), fun j d e nj => ?_, fun j d e hj => ?_, fun x y a hx hy e1 e2 => ?_, fun a z y => by subst hP1; exact y.2 z⟩
      · have e := map_get.mp e
        have hj : j < vs.length := by rw [lv, ← ld]; exact (List.getElem?_eq_some_iff.mp e).1
        have ev : vs[j]? = some vs[j] := List.getElem?_eq_getElem hj
        obtain ⟨h, e2, r⟩ := HdRs.at r1 ev
        refine ⟨vs[j], map_get.mpr ev, ?_⟩
        have hd := dg j h d e2 e
        rcases pl j h e2 with ⟨i, rfl, hi⟩ | ⟨hne, _⟩
        · exact absurd (by rw [hO]; exact List.mem_map.mpr ⟨_, hi, rfl⟩) nj
        · cases h with
          | fr d' => cases hd; exact r.1.less S1.dom fa1
          | vl d' => cases hd; exact Rep.less S1.dom r fa1
          | ow i => exact absurd rfl (hne i)
      · have e := map_get.mp e
        have hj' : j < vs.length := by rw [lv, ← ld]; exact (List.getElem?_eq_some_iff.mp e).1
        have ev : (vs.map some)[j]? = some (some vs[j]) := map_get.mpr (List.getElem?_eq_getElem hj')
        obtain ⟨i, h1, h2, h3, h4, h5⟩ := own hj ev
        have hd := look_some (dg j _ d h5 e)
        obtain ⟨w, h6, h7⟩ := S1.own i d hd h2
        rw [h4] at h6; cases h6
        exact ⟨_, ev, h7.less S1.dom fa1⟩
      · obtain ⟨i1, a1, b1, c1, d1, f1⟩ := own hx e1
        obtain ⟨i2, a2, b2, c2, d2, f2⟩ := own hy e2
        have ei := S1.sep i1 i2 a b1 b2 d1 d2
        subst ei
        have := nodup_inj hn a1 a2
        exact this
    refine ⟨lv, ds, P1, S2, ld, ?_⟩
    have q := q.keep k1
    cases eg : g ds with
    | stk => rw [eg] at q; exact q.elim
    | er c xs =>
      rw [eg] at q
      exact fun H' kp => hE c xs H' (q H' ⟨fun b o e n => kp.keep b o e fun z => n (oa b z), kp.some⟩)
    | ok p =>
      obtain ⟨hd, os⟩ := p
      rw [eg] at q
      intro v H2 k2 S3 r2
      have S3 : Sim X.K P1 O [] os (vs.map some) H2 := S3
      have k3 : Keep W σ H1 H2 := ⟨fun b o e n => k2.keep b o e fun z => n (oa b z), k2.some⟩
      have slot : ∀ {j i : Nat}, (j, i) ∈ pr → i ∈ Oc := fun {j i} z => S1.sub i (hw _ z)
      have S4 : Sim X.K P0 Oc W (putOuts os pr ρ1) σ H2 := by
        refine ⟨S1.sub, by rw [putOuts_len]; exact S1.len, fun b z => S3.dom b (fa2 b z), fun i d e n => ?_, fun i d e n => ?_, S1.sep, S1.sep0⟩
        · have ni : i ∉ pr.map (·.2) := fun z => by
            obtain ⟨⟨j, i'⟩, hq, z⟩ := List.mem_map.mp z
            cases z
            exact n (slot hq)
          rw [putOuts_ne ni] at e
          obtain ⟨v, h1, h2⟩ := S1.val i d e n
          exact ⟨v, h1, h2.of_same S1.dom fun b o e n => k2.keep b o e fun z => n (.inr (oaO b z))⟩
        · by_cases ni : i ∈ pr.map (·.2)
          · obtain ⟨⟨j, i'⟩, hq, z⟩ := List.mem_map.mp ni
            cases z
            have eo := putOuts_at hn hq e
            have hj : j ∈ O := by rw [hO]; exact List.mem_map.mpr ⟨_, hq, rfl⟩
            obtain ⟨w, h1, h2⟩ := S3.own j d eo hj
            obtain ⟨i2, a2, b2, c2, d2, f2⟩ := own hj h1
            have : i2 = i' := by
              have := nodup_inj1 hn1 a2 hq
              exact this
            subst this
            exact ⟨w, d2, h2.less S3.dom fa2⟩
          · rw [putOuts_ne ni] at e
            obtain ⟨w, h1, h2⟩ := S1.own i d e n
            refine ⟨w, h1, h2.mono S1.dom (fun b o e n => k2.keep b o e fun z => n (.inr (oaO b z))) (fun _ z => .inl z) fun a o e1 e2 => k2.keep a o e2 fun ⟨j, hj, ej⟩ => ?_⟩
            subst e1
            obtain ⟨i2, a2, b2, c2, d2, f2⟩ := own hj ej
            have := S1.sep i i2 a n b2 h1 d2
            subst this
            exact ni (List.mem_map.mpr ⟨_, a2, rfl⟩)
      cases hd with
      | ow j => exact q.elim
      | fr d => exact q v H2 S4 (k1.trans k3) ⟨r2.1.less S3.dom fa2, fun m a e => Classical.byContradiction fun z => k1.some a z (r2.2 m a e)⟩
      | vl d => exact q v H2 S4 (k1.trans k3) (Rep.less S3.dom r2 fa2)
theorem ce_callIO {g : Fn} {p : Pos} (G : Glo X.prog X.w X.K X.mg X.base name k np O g) (pr : List (Nat × Nat)) (o : Out2 X E XE) (hr : Room k X.A) (ha : CA X P0 Oc W E (e :: es) ms) (hl : ALen ms np) (hO : O = pr.map (·.1) := by rfl) (hn : (pr.map (·.2)).Nodup := by decide) (hn1 : (pr.map (·.1)).Nodup := by decide) (hw : ∀ p ∈ pr, p.2 ∈ W := by decide) (hg : Gl X name := by rfl) (hdb : (name == ("__debug__" : Str)) = false := by decide)
    (he : starEach (e :: es) X.env = (false, eval e X.env) :: starEach es X.env := by rfl) (hpl : (backTo pos (starEach es X.env)).any (·.1) = false := by rfl) : CEx X P0 Oc W E (.Call (.Name name p) (e :: es) [] pos) (cCallIO pr g ms) := by
  obtain ⟨f, fd, ps, hm, hk, hb, _, F⟩ := G.ex
  exact PE.imp (pe_call F hr hg hm hk hb .nil o.pass ha hdb he hpl) fun σ H Q h => tM_callIO o.ex hO hn hn1 hw hl σ H Q h
end
end Y

set_option Elab.async false
set_option linter.all false
set_option maxRecDepth 100000
namespace Y
open PySem PySem.Spec PyProof.Rows L2

def fnP (np n : Nat) (m : SM) : List D → R Hd := fun ds => do
  let (f, ρ) ← m (ds.map some ++ List.replicate (n - np) none)
  (retH np f ρ).nox
section
variable {P : Program} {w : World} {K : PySem.W.Frag} {mg : Str → Option Value} {base : Heap} {name : Str} {k np n : Nat} {O : List Nat}
theorem Glo.imp {g g' : Fn} (G : Glo P w K mg base name k np O g) (h : ∀ vs H Q E, spD K mg np O g' vs H Q E → spD K mg np O g vs H Q E) : Glo P w K mg base name k np O g' :=
  let ⟨f, fd, ps, h1, h2, h3, h4, F⟩ := G.ex
  ⟨f, fd, ps, h1, h2, h3, h4, F.imp h⟩
theorem Glo.mono {g : Fn} {k' : Nat} (G : Glo P w K mg base name k np O g) (h : k ≤ k' := by decide) : Glo P w K mg base name k' np O g :=
  let ⟨f, fd, ps, h1, h2, h3, h4, F⟩ := G.ex
  ⟨f, fd, ps, h1, h2, h3, h4, F.mono h⟩
theorem spD_pure {m : SM} {vs : List V} {H : Hp} {Q : VK} {E : XK} : spD K mg np [] (pureF (fnP np n m)) vs H Q E → spD K mg np [] (fnD np n [] m) vs H Q E := fun ⟨hl, ds, P0, S, hd, h⟩ => ⟨hl, ds, P0, S, hd, by
  unfold pureF fnP at h
  unfold fnD
  cases em : m (ds.map some ++ List.replicate (n - np) none) with
  | stk => rw [em] at h; exact h
  | er c xs => rw [em] at h; exact h
  | ok p =>
    obtain ⟨fl, ρ⟩ := p
    rw [em] at h
    cases er : (retH np fl ρ).nox with
    | stk => exact (show Res (exE mg E) [] (vs.map some) H ((retH np fl ρ).nox >>= fun h => Y.R.ok (h, outs [] np ρ)) _ by
        rw [er]
        have h : Res (exE mg E) [] (vs.map some) H ((retH np fl ρ).nox >>= fun h => Y.R.ok (h, [])) _ := h
        rw [er] at h
        exact h)
    | er c xs => cases e2 : retH np fl ρ <;> rw [e2] at er <;> cases er
    | ok hd' =>
      refine (show Res (exE mg E) [] (vs.map some) H ((retH np fl ρ).nox >>= fun h => Y.R.ok (h, outs [] np ρ)) _ from ?_)
      have h : Res (exE mg E) [] (vs.map some) H ((retH np fl ρ).nox >>= fun h => Y.R.ok (h, [])) _ := h
      rw [er] at h ⊢
      exact fun v H' kp S' r => h v H' kp (S'.move (Nat.zero_le _) (fun _ _ => rfl) (fun _ z => nomatch z) fun i d e => by simp at e) r⟩
theorem Glo.pure {m : SM} (G : Glo P w K mg base name k np [] (fnD np n [] m)) : Glo P w K mg base name k np [] (pureF (fnP np n m)) := G.imp fun vs H Q E h => spD_pure h
/-- a def of the text -/
structure Def (K : PySem.W.Frag) (mg : Str → Option Value) (x : Str) (st : Stmt) : Prop where
  ex : ∃ f fd, mg x = some (.ref f) ∧ Fun K x x st f fd
theorem glo_mk {x : Str} {st : Stmt} {N ps : List Str} {Oc W U : List Nat} {m : SM} (F : Def K mg x st) (S : FnScope N ps (defScope st))
    (hb : ∀ (f : Addr) (cdv : Value) (A : Around) (outer : List PySem.Env) (s : Shared) (H : Hp) (E : XK) (P0 : Pr), Room k (A.deeper (envOfC x (defScope st) s.heap.objs.size f cdv)) → CSs (cxOf (L2N.CX P w) P w K mg base N x (defScope st) f cdv A outer s H E) P0 Oc W U (exE mg E) (defBody st) m)
    (bi : ∀ (kV doc pm : Value) (an : Option Addr) (cdv ct : Value) (us : List Value), us.length = ps.length → bindArgs (PySem.W.fnOf x x (defArgs st) (defBody st) (defScope st) .none kV doc pm an cdv ct) ⟨us, []⟩ = Pure.pure (ps.zip us))
    (hp : ps.length = np := by rfl) (hn : N.length = n := by rfl) (hO : O = Oc.filter (fun i => decide (i < np)) := by rfl) (hW : ∀ i ∈ W, i ∈ Oc := by decide) (hU : ∀ i ∈ O, i ∈ U := by decide) : Glo P w K mg base x (k + 1) np O (fnD np n O m) := by
  obtain ⟨f, fd, hm, F⟩ := F.ex
  exact ⟨f, fd, ps, hm, F.kp, F.binds bi, hp, fnD_ok F S hp hn (fun i => by rw [hO, List.mem_filter, decide_eq_true_eq]) hW hU fun cdv A outer s H E P0 hr => hb f cdv A outer s H E P0 hr⟩
theorem law_fn {st : Stmt} {f : Addr} {fd : FuncData} {N : List Str} {Oc W : List Nat} {m : SM} (F : Fun K "law" "law" st f fd) (S : FnScope N ["script"] (defScope st))
    (hb : ∀ (f : Addr) (cdv : Value) (A : Around) (outer : List PySem.Env) (s : Shared) (H : Hp) (E : XK) (P0 : Pr), Room k (A.deeper (envOfC "law" (defScope st) s.heap.objs.size f cdv)) → CSs (cxOf (L2N.CX P w) P w K mg base N "law" (defScope st) f cdv A outer s H E) P0 Oc W [] (exE mg E) (defBody st) m)
    (hn : N.length = n := by rfl) (hO : [] = Oc.filter (fun i => decide (i < 1)) := by rfl) (hW : ∀ i ∈ W, i ∈ Oc := by decide) : FnOk P w K mg base (L2N.CX P w) (k + 1) f fd ["script"] (spD K mg 1 [] (pureF (fnP 1 n m))) :=
  (fnD_ok (O := []) F S rfl hn (fun i => by rw [hO, List.mem_filter, decide_eq_true_eq]; exact Iff.rfl) hW (fun _ h => by simp at h) fun cdv A outer s H E P0 hr => hb f cdv A outer s H E P0 hr).imp fun vs H Q E h => spD_pure h
theorem out2_body {N : List Str} {x : Str} {sc : Scope} {f : Addr} {cdv : Value} {A : Around} {outer : List PySem.Env} {s : Shared} {H : Hp} {E : XK} : Out2 (cxOf (L2N.CX P w) P w K mg base N x sc f cdv A outer s H E) (exE mg E) E :=
  ⟨L2N.passes_call (L2N.takes_of rfl rfl rfl rfl) (fun _ _ _ _ h => h), fun c ds H h => h⟩
theorem cx_none {H : Hp} {s : Shared} {e : Value} {s' : Shared} (h : L2N.CX P w [] H s (fun _ _ _ => False) e s') : False := by
  obtain ⟨_, _, _, _, _, _, _, _, _, _, _, _, z⟩ := h
  exact z.elim
end
end Y

set_option Elab.async false
set_option linter.all false
set_option maxRecDepth 100000
namespace Y
open PySem PySem.Spec PyProof.Rows L2
def tyN : D → String
  | .non => "NoneType" | .bl _ => "bool" | .int _ => "int" | .str _ => "str" | .tup _ => "tuple" | .lst _ => "list" | .arg _ => "list" | .dik _ _ => "dict" | .dit _ _ => "dict"
def isInt : D → Bool
  | .int _ => true | .bl _ => true | _ => false
def isBl : D → Bool
  | .bl _ => true | _ => false
def isTup : D → Bool
  | .tup _ => true | _ => false
def isLst : D → Bool
  | .lst _ => true | .arg _ => true | _ => false
abbrev IsK (T : String) (f : D → Bool) : Prop := ∀ d, kitB (tyN d) T = some (f d)
theorem isk_int : IsK "int" isInt := fun d => by cases d <;> simp only [tyN, isInt] <;> decide +kernel
theorem isk_bool : IsK "bool" isBl := fun d => by cases d <;> simp only [tyN, isBl] <;> decide +kernel
theorem isk_tuple : IsK "tuple" isTup := fun d => by cases d <;> simp only [tyN, isTup] <;> decide +kernel
theorem isk_list : IsK "list" isLst := fun d => by cases d <;> simp only [tyN, isLst] <;> decide +kernel
def noDit : D → Bool
  | .dit _ _ => false | _ => true
theorem tyX_of {K : PySem.W.Frag} {H : Hp} {P : Pr} {d : D} {v : V} (hd : noDit d = true) (h : RepW K H d P v) : TyX K H v (.type (tyN d)) := by
  cases d with
  | non => have h : Rep K H .non P v := h; unfold Rep at h; subst h; exact .base .non
  | bl b => have h : Rep K H (.bl b) P v := h; unfold Rep at h; subst h; exact .base (.bl b)
  | int i => have h : Rep K H (.int i) P v := h; unfold Rep at h; subst h; exact .base (.int i)
  | str x => have h : Rep K H (.str x) P v := h; unfold Rep at h; subst h; exact .base (.str x)
  | tup ds =>
    have h : Rep K H (.tup ds) P v := h
    unfold Rep at h
    obtain ⟨a, vs, rfl, h1, _⟩ := h
    exact .base (.tup h1)
  | lst ds =>
    obtain ⟨a, vs, rfl, h1, _⟩ := h
    exact .base (.lst h1)
  | arg ns =>
    obtain ⟨a, rfl, h1⟩ := h
    rcases h1 with (h1 | ⟨o, h1⟩) | ⟨ob, its, n, h1, h2, _⟩
    · exact .base (.lst h1)
    · exact .base (.frz h1)
    · exact .kList h1 h2
  | dik ks ds =>
    obtain ⟨a, vs, rfl, _, h1, _⟩ := h
    rcases h1 with h1 | ⟨o, h1⟩
    · exact .base (.dK h1)
    · exact .fDict h1
  | dit ks ds => cases hd
def cIsi (f : D → Bool) (m : EM) : EM := fun ρ => do
  let (h, ρ1) ← m ρ
  let d ← (h.d ρ1).nox
  if noDit d = true then pure (.fr (.bl (f d)), ρ1) else .stk
section
variable {X : Cx} {P0 : Pr} {O W : List Nat} {E : EK} {a : Expr} {ma : EM} {pos : Pos}
theorem ce_isi {T : String} {x : Str} {f : D → Bool} {p q : Pos} (hk : IsK T f) (hm : X.mg "isinstance" = none) (hm2 : X.mg x = none) (h : CEx X P0 O W E a ma) (hv : bootBuiltins "isinstance" = some (.builtin "isinstance")) (hv2 : bootBuiltins x = some (.type T))
    (hg : Gl X "isinstance" := by rfl) (hg2 : Gl X x := by rfl) (hn : x ≠ "__name__" := by decide) (hdb : (x == ("__debug__" : Str)) = false := by decide)
    (he : starEach [a, .Name x q] X.env = (false, eval a X.env) :: starEach [.Name x q] X.env := by rfl) (hpl : (backTo pos (starEach [.Name x q] X.env)).any (·.1) = false := by rfl) (he2 : starEach [.Name x q] X.env = (false, eval (.Name x q) X.env) :: starEach [] X.env := by rfl) : CEx X P0 O W E (.Call (.Name "isinstance" p) [a, .Name x q] [] pos) (cIsi f ma) :=
  PE.imp (pe_callB call_isi hg hm hv (pa_cons h (pa_cons (pe_bltn hg2 hm2 hv2 (v := .ty T) rfl hn hdb) pa_nil he2) he) (by decide) (by decide) he hpl) fun σ H Q ⟨ρ, S, h⟩ => by
    refine ⟨ρ, S, h.of_bind.mono fun ⟨hd, ρ1⟩ q v H1 S1 k1 r1 => ?_⟩
    obtain ⟨d, e1, q⟩ := q.of_nox
    by_cases c : noDit d = true
    · rw [if_pos c] at q
      exact ⟨v, .ty T, _, _, f d, rfl, .ty T, tyX_of c (HdR.d S1 r1 e1), kit_ty (hk d), (out_of (K := X.K) S1 k1 q).bl⟩
    · rw [if_neg c] at q
      exact q.elim
end
end Y

set_option Elab.async false
set_option linter.all false
set_option maxRecDepth 100000
namespace Y
open PySem PySem.Spec PyProof.Rows L2
section
variable {K : PySem.W.Frag} {X : Cx} {P0 : Pr} {O W U : List Nat} {E : EK} {e : Expr} {ma : EM} {pos : Pos}
/-- what the top binds -/
theorem def_mk {h : Heap} {mg : Str → Option Value} {x : Str} {st : Stmt} {f : Addr} {od an : Option Addr} {sl : Array (Option Value)} {oc kV dc pm cd ct : Value} (Z : K.In h) (G : h.Ns mainGlobals mg)
    (a : PySem.W.nsIn K mainGlobals x = some (some (.ref f))) (l : K.lookup f = some ⟨oc, od, .func (PySem.W.fnOf x x (defArgs st) (defBody st) (defScope st) .none kV dc pm an cd ct), sl⟩) (c : PySem.W.codeIn K cd x = true) (k : PySem.W.keepIn K (.ref f) = true) : Def K mg x st :=
  ⟨⟨f, _, PySem.W.mg_of Z G a, fun_mk l c k⟩⟩
end
theorem bo_len : bootBuiltins "len" = some (.builtin "len") := by decide +kernel
theorem bo_max : bootBuiltins "max" = some (.builtin "max") := by decide +kernel
theorem bo_min : bootBuiltins "min" = some (.builtin "min") := by decide +kernel
theorem bo_all : bootBuiltins "all" = some (.builtin "all") := by decide +kernel
theorem bo_any : bootBuiltins "any" = some (.builtin "any") := by decide +kernel
theorem bo_isinstance : bootBuiltins "isinstance" = some (.builtin "isinstance") := by decide +kernel
theorem bo_sorted : bootBuiltins "sorted" = some (.builtin "sorted") := by decide +kernel
theorem bo_tuple : bootBuiltins "tuple" = some (.type "tuple") := by decide +kernel
theorem bo_list : bootBuiltins "list" = some (.type "list") := by decide +kernel
theorem bo_bool : bootBuiltins "bool" = some (.type "bool") := by decide +kernel
theorem bo_int : bootBuiltins "int" = some (.type "int") := by decide +kernel
theorem _root_.L2.Room.units65 {k : Nat} {A : Around} (r : Room k A) : A.units + 65 < cLine := by have := r.un; omega
end Y

set_option Elab.async false
set_option linter.all false
set_option maxRecDepth 100000
namespace Y
open PySem PySem.Spec PyProof.Rows L2
abbrev Good (g : List D → R Hd) (n : Nat) : Prop := ∀ ns : List Int, ns.length ≤ n → (∀ z ∈ ns, Builtin.Int.intBits z ≤ 1048576) → ∃ b, g [.arg ns] = .ok b ∧ (b = .fr (.bl true) ∨ b = .vl (.bl true))
def spL (K : PySem.W.Frag) (n : Nat) : Sp := fun vs H Q E => ∃ (a : Addr) (ns : List Int), vs = [.ref a] ∧ SqL K H a (ns.map V.int) ∧ ns.length ≤ n ∧ (∀ z ∈ ns, Builtin.Int.intBits z ≤ 1048576) ∧ ∀ H', Q (.bl true) H'
theorem spL_to {K : PySem.W.Frag} {mg : Str → Option Value} {g : List D → R Hd} {n : Nat} (hg : Good g n) {vs : List V} {H : Hp} {Q : VK} {E : XK} : spL K n vs H Q E → spD K mg 1 [] (pureF g) vs H Q E := fun ⟨a, ns, e, hS, h1, h2, q⟩ => by
  subst e
  obtain ⟨b, e, hb⟩ := hg ns h1 h2
  refine ⟨rfl, [.arg ns], fun _ => False, sim_args (fun b z => z.elim) (Reps.cons ?_ Reps.nil), rfl, ?_⟩
  · unfold Rep
    refine ⟨a, rfl, ?_⟩
    rcases hS with hS | hS
    · exact .inl ⟨fun z => z, hS⟩
    · exact .inr (.inr hS)
  · unfold pureF
    rw [e]
    intro v H' _ _ r
    have : v = .bl true := by
      rcases hb with rfl | rfl
      · have r := r.1; unfold Rep at r; exact r
      · have r : Rep K H' (.bl true) (FA (fun _ => False) [] ([V.ref a].map some)) v := r; unfold Rep at r; exact r
    rw [this]
    exact q H'
/-- the law as the head wants it -/
theorem law_all {P : Program} {w : World} {K : PySem.W.Frag} {mg : Str → Option Value} {h : Heap} {fa f2 : Addr} {st : Stmt} {k n : Nat} {g : List D → R Hd} (Z : K.In h) (G : h.Ns mainGlobals mg) (hfa : mg "law" = some (.ref fa)) (hg : Good g n)
    {od an : Option Addr} {sl : Array (Option Value)} {oc kV dc pm cd ct : Value}
    (ok : ∀ (base : Heap) {f : Addr} {fd : FuncData}, Fun K "law" "law" st f fd → FnOk P w K mg base (L2N.CX P w) k f fd ["script"] (spD K mg 1 [] (pureF g)))
    (hb : ∀ (kV dc pm : Value) (an : Option Addr) (cd ct : Value) (s : Shared) (u : Value), BindsTo s (PySem.W.fnOf "law" "law" (defArgs st) (defBody st) (defScope st) .none kV dc pm an cd ct) ⟨[u], []⟩ [("script", u)])
    (a : PySem.W.nsIn K mainGlobals "law" = some (some (.ref f2))) (l : K.lookup f2 = some ⟨oc, od, .func (PySem.W.fnOf "law" "law" (defArgs st) (defBody st) (defScope st) .none kV dc pm an cd ct), sl⟩) (c : PySem.W.codeIn K cd "law" = true) (kp : PySem.W.keepIn K (.ref f2) = true) :
    ∃ fd : FuncData, (∀ (s : Shared) (u : Value), BindsTo s fd ⟨[u], []⟩ [("script", u)]) ∧ ∀ base : Heap, K.In base → base.Ns mainGlobals mg → FnOk P w K mg base (L2N.CX P w) k fa fd ["script"] (spL K n) := by
  have e := hfa.symm.trans (PySem.W.mg_of Z G a)
  cases e
  exact ⟨_, fun s u => hb kV dc pm an cd ct s u, fun base _ _ => (ok base (fun_mk l c kp)).imp fun vs H Q E h => spL_to hg h⟩
end Y

set_option Elab.async false
set_option linter.all false
set_option maxRecDepth 100000
namespace Y
open PySem PySem.Spec PyProof.Rows L2
variable {ρ : Env}
@[simp] theorem e_look {i : Nat} : look i ρ = (match ρ[i]? with | some (some d) => .ok d | _ => .stk) := id rfl
@[simp] theorem e_var {i : Nat} : cVar i ρ = ((look i ρ).nox >>= fun d => R.ok (.vl d, ρ)) := id rfl
@[simp] theorem e_own {i : Nat} : cOwn i ρ = ((look i ρ).nox >>= fun _ => R.ok (.ow i, ρ)) := id rfl
@[simp] theorem e_c {d : D} : cC d ρ = .ok (.fr d, ρ) := id rfl
@[simp] theorem e_hfr {d : D} : Hd.d (.fr d) ρ = .ok d := id rfl
@[simp] theorem e_hvl {d : D} : Hd.d (.vl d) ρ = .ok d := id rfl
@[simp] theorem e_how {i : Nat} : Hd.d (.ow i) ρ = look i ρ := id rfl
@[simp] theorem e_vfr {d : D} : Hd.v (.fr d) = .ok d := id rfl
@[simp] theorem e_vvl {d : D} : Hd.v (.vl d) = .ok d := id rfl
@[simp] theorem e_vow {i : Nat} : Hd.v (.ow i) = .stk := id rfl
@[simp] theorem e_op {f : D → D → R D} {a b : EM} : cOp f a b ρ = (a ρ >>= fun p => b p.2 >>= fun q => (p.1.d q.2).nox >>= fun x => (q.1.d q.2).nox >>= fun y => (f x y).nox >>= fun z => R.ok (.fr z, q.2)) := id rfl
@[simp] theorem e_tru {m : EM} : cTru m ρ = (m ρ >>= fun p => (p.1.d p.2).nox >>= fun d => (truD d).nox >>= fun b => R.ok (b, p.2)) := id rfl
@[simp] theorem e_bl {m : EM} : cBl m ρ = (m ρ >>= fun p => p.1.v.nox >>= fun d => match d with | .bl b => R.ok (b, p.2) | _ => .stk) := id rfl
@[simp] theorem e_notT {m : BM} : cNotT m ρ = (m ρ >>= fun p => R.ok (!p.1, p.2)) := id rfl
@[simp] theorem e_andT {a b : BM} : cAndT a b ρ = (a ρ >>= fun p => if p.1 = true then b p.2 else R.ok (false, p.2)) := id rfl
@[simp] theorem e_orT {a b : BM} : cOrT a b ρ = (a ρ >>= fun p => if p.1 = true then R.ok (true, p.2) else b p.2) := id rfl
@[simp] theorem e_nil : cNil ρ = .ok ([], ρ) := id rfl
@[simp] theorem e_cons {a : EM} {as : AM} : cCons a as ρ = (a ρ >>= fun p => as p.2 >>= fun q => R.ok (p.1 :: q.1, q.2)) := id rfl
@[simp] theorem e_vs0 : vsOf [] = .ok [] := id rfl
@[simp] theorem e_vs1 {h : Hd} {hs : List Hd} : vsOf (h :: hs) = (h.v.nox >>= fun d => vsOf hs >>= fun ds => R.ok (d :: ds)) := id rfl
@[simp] theorem e_ds0 : dsOf [] ρ = .ok [] := id rfl
@[simp] theorem e_ds1 {h : Hd} {hs : List Hd} : dsOf (h :: hs) ρ = ((h.d ρ).nox >>= fun d => dsOf hs ρ >>= fun ds => R.ok (d :: ds)) := id rfl
@[simp] theorem e_and {a b : EM} : cAnd a b ρ = (a ρ >>= fun p => (p.1.d p.2).nox >>= fun d => (truD d).nox >>= fun k => if k = true then b p.2 else R.ok (p.1, p.2)) := id rfl
@[simp] theorem e_not {m : EM} : cNot m ρ = (m ρ >>= fun p => (p.1.d p.2).nox >>= fun d => (truD d).nox >>= fun k => R.ok (.fr (.bl (!k)), p.2)) := id rfl
@[simp] theorem e_neg {m : EM} : cNeg m ρ = (m ρ >>= fun p => p.1.v.nox >>= fun d => match d with | .int i => R.ok (.fr (.int (-i)), p.2) | _ => .stk) := id rfl
@[simp] theorem e_tup {m : AM} : cTup m ρ = (m ρ >>= fun p => (vsOf p.1).nox >>= fun ds => if szOk ds.length = true then R.ok (.fr (.tup ds), p.2) else .stk) := id rfl
@[simp] theorem e_lst {m : AM} : cLst m ρ = (m ρ >>= fun p => (vsOf p.1).nox >>= fun ds => if szOk ds.length = true then R.ok (.fr (.lst ds), p.2) else .stk) := id rfl
@[simp] theorem e_call {f : List D → R D} {m : AM} : cCall f m ρ = (m ρ >>= fun p => (dsOf p.1 p.2).nox >>= fun ds => (f ds).nox >>= fun z => R.ok (.fr z, p.2)) := id rfl
@[simp] theorem e_ix {a b : EM} : cIx a b ρ = (a ρ >>= fun p => b p.2 >>= fun q => (p.1.d q.2).nox >>= fun x => (q.1.d q.2).nox >>= fun y => (ixD x y).nox >>= fun z => R.ok (.vl z, q.2)) := id rfl
@[simp] theorem e_nopart : cNoPart ρ = .ok (none, ρ) := id rfl
@[simp] theorem e_part {m : EM} : cPart m ρ = (m ρ >>= fun p => p.1.v.nox >>= fun d => match d with | .int i => R.ok (some i, p.2) | _ => .stk) := id rfl
@[simp] theorem e_slice {a : EM} {lo hi : OM} : cSlice a lo hi ρ = (a ρ >>= fun p => lo p.2 >>= fun q => hi q.2 >>= fun r => (p.1.d r.2).nox >>= fun d => (sliceD d q.1 r.1).nox >>= fun z => R.ok (.fr z, r.2)) := id rfl
@[simp] theorem e_iter {m : EM} : cIter m ρ = (m ρ >>= fun p => (p.1.d p.2).nox >>= fun d => (itD d).nox >>= fun ds => if szOk ds.length = true then R.ok ((ds, p.1.ws), p.2) else .stk) := id rfl
@[simp] theorem e_range {f : List D → R (List D)} {m : AM} : cRange f m ρ = (m ρ >>= fun p => (vsOf p.1).nox >>= fun ds => (f ds).nox >>= fun xs => if szOk xs.length = true then R.ok ((xs, []), p.2) else .stk) := id rfl
@[simp] theorem e_yes : cYes ρ = .ok (true, ρ) := id rfl
@[simp] theorem e_isi {f : D → Bool} {m : EM} : cIsi f m ρ = (m ρ >>= fun p => (p.1.d p.2).nox >>= fun d => if noDit d = true then R.ok (.fr (.bl (f d)), p.2) else .stk) := id rfl
@[simp] theorem e_callF {g : List D → R Hd} {m : AM} : cCallF g m ρ = (m ρ >>= fun p => (vsOf p.1).nox >>= fun ds => g ds >>= fun h => match h with | .ow _ => .stk | h => R.ok (h, p.2)) := id rfl
@[simp] theorem e_callIO {pr : List (Nat × Nat)} {g : Fn} {m : AM} : cCallIO pr g m ρ = (m ρ >>= fun p => if placed pr 0 p.1 = true then ((dsOf p.1 p.2).nox >>= fun ds => g ds >>= fun r => match r.1 with | .ow _ => .stk | h => R.ok (h, putOuts r.2 pr p.2)) else .stk) := id rfl
@[simp] theorem e_tmN {i : Nat} {d : D} : tmName i d ρ = .ok (ρ.set i (some d)) := id rfl
@[simp] theorem e_tmT {is : List Nat} {ds : List D} : tmTup is (.tup ds) ρ = if ds.length = is.length then .ok (setAll ρ is ds) else .stk := id rfl
@[simp] theorem e_sa0 {ds : List D} : setAll ρ [] ds = ρ := by unfold setAll; rfl
@[simp] theorem e_sa1 {i : Nat} {is : List Nat} {d : D} {ds : List D} : setAll ρ (i :: is) (d :: ds) = setAll (ρ.set i (some d)) is ds := id rfl
@[simp] theorem e_comp {im : IM} {tm : GM} {t : BM} {e : EM} {vs : List Nat} : cComp im tm t e vs ρ = (im ρ >>= fun p => (cCompL tm t e vs p.1.2 p.1.1 (wipeE p.2 vs)).nox >>= fun q => R.ok (.fr (.lst q.1), q.2)) := id rfl
@[simp] theorem e_skip : sSkip ρ = .ok (.nx, ρ) := id rfl
@[simp] theorem e_seq {m n : SM} : sSeq m n ρ = (m ρ >>= fun p => match p.1 with | .nx => n p.2 | f => R.ok (f, p.2)) := by
  unfold sSeq; congr
@[simp] theorem e_ret {m : EM} : sRet m ρ = (m ρ >>= fun p => R.ok (.rt p.1, p.2)) := id rfl
@[simp] theorem e_sif {t : BM} {m n : SM} : sIf t m n ρ = (t ρ >>= fun p => if p.1 = true then m p.2 else n p.2) := id rfl
@[simp] theorem e_asg {m : EM} {tm : GM} : sAsg m tm ρ = (m ρ >>= fun p => p.1.v.nox >>= fun d => (tm d p.2).nox >>= fun r => R.ok (.nx, r)) := id rfl
@[simp] theorem e_sown {O W : List Nat} {m : EM} {i : Nat} : sOwn O W m i ρ = (m ρ >>= fun p => match p.1 with | .fr d => ((chkO O W ρ p.2).nox >>= fun _ => if d.ownable = true then R.ok (.nx, p.2.set i (some d)) else .stk) | _ => .stk) := by
  unfold sOwn; congr
@[simp] theorem e_app {i : Nat} {m : EM} : sAppend i m ρ = ((lstAt i ρ).nox >>= fun _ => m ρ >>= fun p => p.1.v.nox >>= fun d => (lstAt i p.2).nox >>= fun ds => if szOk (ds.length + 1) = true then R.ok (.nx, p.2.set i (some (.lst (ds ++ [d])))) else .stk) := id rfl
@[simp] theorem e_lat {i : Nat} : lstAt i ρ = (match ρ[i]? with | some (some (.lst ds)) => .ok ds | _ => .stk) := id rfl
@[simp] theorem e_six {i : Nat} {mk mv : EM} : sSetIx i mk mv ρ = (mv ρ >>= fun p => p.1.v.nox >>= fun d => (lstAt i p.2).nox >>= fun _ => mk p.2 >>= fun q => q.1.v.nox >>= fun k => match k with | .int z => ((lstAt i q.2).nox >>= fun ds => match ixN ds.length z with | some j => R.ok (.nx, q.2.set i (some (.lst (ds.set j d)))) | none => .stk) | _ => .stk) := by
  unfold sSetIx; congr
@[simp] theorem e_for {U : List Nat} {im : IM} {tm : GM} {body : SM} {vs : List Nat} : sFor U im tm body vs ρ = (im ρ >>= fun p => if (p.1.2.all fun w => U.contains w) = true then forL tm body vs p.1.2 p.1.1 p.2 else .stk) := id rfl
@[simp] theorem e_w0 : wipeE ρ [] = ρ := id rfl
@[simp] theorem e_w1 {i : Nat} {is : List Nat} : wipeE ρ (i :: is) = (wipeE ρ is).set i none := id rfl
@[simp] theorem e_po0 {os : Env} : putOuts os [] ρ = ρ := id rfl
@[simp] theorem e_po1 {os : Env} {j i : Nat} {pr : List (Nat × Nat)} : putOuts os ((j, i) :: pr) ρ = (putOuts os pr ρ).set i (os.getD j none) := id rfl
@[simp] theorem e_pl0 {pr : List (Nat × Nat)} {j : Nat} : placed pr j [] = true := id rfl
@[simp] theorem e_pl1 {pr : List (Nat × Nat)} {j i : Nat} {hs : List Hd} : placed pr j (.ow i :: hs) = (pr.contains (j, i) && placed pr (j + 1) hs) := id rfl
@[simp] theorem e_pl2 {pr : List (Nat × Nat)} {j : Nat} {d : D} {hs : List Hd} : placed pr j (.vl d :: hs) = ((!pr.any fun p => p.1 == j) && placed pr (j + 1) hs) := id rfl
@[simp] theorem e_pl3 {pr : List (Nat × Nat)} {j : Nat} {d : D} {hs : List Hd} : placed pr j (.fr d :: hs) = ((!pr.any fun p => p.1 == j) && placed pr (j + 1) hs) := id rfl
@[simp] theorem e_rt0 {np : Nat} : retH np .nx ρ = .ok (.fr .non) := id rfl
@[simp] theorem e_rt1 {np : Nat} {d : D} : retH np (.rt (.fr d)) ρ = .ok (.fr d) := id rfl
@[simp] theorem e_rt2 {np : Nat} {d : D} : retH np (.rt (.vl d)) ρ = .ok (.vl d) := id rfl
@[simp] theorem e_rt3 {np i : Nat} : retH np (.rt (.ow i)) ρ = if np ≤ i then ((look i ρ).nox >>= fun d => R.ok (.fr d)) else .stk := id rfl
theorem e_fnP {np n : Nat} {m : SM} {ds : List D} : fnP np n m ds = (m (ds.map some ++ List.replicate (n - np) none) >>= fun p => (retH np p.1 p.2).nox) := rfl
theorem e_fnD {np n : Nat} {O : List Nat} {m : SM} {ds : List D} : fnD np n O m ds = (m (ds.map some ++ List.replicate (n - np) none) >>= fun p => (retH np p.1 p.2).nox >>= fun h => R.ok (h, outs O np p.2)) := rfl
@[simp] theorem e_outs1 {O : List Nat} : outs O 1 ρ = [if O.contains 0 = true then ρ.getD 0 none else none] := id rfl
@[simp] theorem e_outs2 {O : List Nat} : outs O 2 ρ = [if O.contains 0 = true then ρ.getD 0 none else none, if O.contains 1 = true then ρ.getD 1 none else none] := id rfl
@[simp] theorem e_outs3 {O : List Nat} : outs O 3 ρ = [if O.contains 0 = true then ρ.getD 0 none else none, if O.contains 1 = true then ρ.getD 1 none else none, if O.contains 2 = true then ρ.getD 2 none else none] := id rfl
@[simp] theorem e_outs4 {O : List Nat} : outs O 4 ρ = [if O.contains 0 = true then ρ.getD 0 none else none, if O.contains 1 = true then ρ.getD 1 none else none, if O.contains 2 = true then ρ.getD 2 none else none, if O.contains 3 = true then ρ.getD 3 none else none] := id rfl
@[simp] theorem e_outs5 {O : List Nat} : outs O 5 ρ = [if O.contains 0 = true then ρ.getD 0 none else none, if O.contains 1 = true then ρ.getD 1 none else none, if O.contains 2 = true then ρ.getD 2 none else none, if O.contains 3 = true then ρ.getD 3 none else none, if O.contains 4 = true then ρ.getD 4 none else none] := id rfl
end Y

set_option Elab.async false
set_option linter.all false
set_option maxRecDepth 100000
namespace Y
open PySem PySem.Spec PyProof.Rows L2
@[simp] theorem d_add {i j : Int} : addD (.int i) (.int j) = .ok (.int (i + j)) := id rfl
@[simp] theorem d_addT {x y : List D} : addD (.tup x) (.tup y) = if szOk (x.length + y.length) = true then .ok (.tup (x ++ y)) else .stk := id rfl
@[simp] theorem d_addL {x y : List D} : addD (.lst x) (.lst y) = if szOk (x.length + y.length) = true then .ok (.lst (x ++ y)) else .stk := id rfl
@[simp] theorem d_addS {x y : Str} : addD (.str x) (.str y) = if szOk (x.length + y.length) = true then .ok (.str (x ++ y)) else .stk := id rfl
@[simp] theorem d_sub {i j : Int} : subD (.int i) (.int j) = .ok (.int (i - j)) := id rfl
@[simp] theorem d_mul {i j : Int} : mulD (.int i) (.int j) = if mulOk i j = true then .ok (.int (i * j)) else .stk := id rfl
@[simp] theorem d_fdiv {i j : Int} : fdivD (.int i) (.int j) = if smallPos j = true then .ok (.int (i / j)) else .stk := id rfl
@[simp] theorem d_mod {i j : Int} : modD (.int i) (.int j) = if 0 < j then .ok (.int (i % j)) else .stk := id rfl
@[simp] theorem d_lt {i j : Int} : ltD (.int i) (.int j) = .ok (.bl (decide (i < j))) := id rfl
@[simp] theorem d_gt {i j : Int} : gtD (.int i) (.int j) = .ok (.bl (decide (j < i))) := id rfl
@[simp] theorem d_ge {i j : Int} : geD (.int i) (.int j) = .ok (.bl (decide (j ≤ i))) := id rfl
@[simp] theorem d_isN {x : D} : isD x .non = .ok (.bl (isNon x)) := by cases x <;> rfl
@[simp] theorem d_isB {a b : Bool} : isD (.bl a) (.bl b) = .ok (.bl (decide (a = b))) := id rfl
@[simp] theorem d_lenT {x : List D} : lenD [.tup x] = .ok (.int x.length) := id rfl
@[simp] theorem d_lenL {x : List D} : lenD [.lst x] = .ok (.int x.length) := id rfl
@[simp] theorem d_lenA {x : List Int} : lenD [.arg x] = .ok (.int x.length) := id rfl
@[simp] theorem d_lenS {x : Str} : lenD [.str x] = if szOk x.length = true then .ok (.int x.length) else .stk := id rfl
@[simp] theorem d_max {i j : Int} : max2D [.int i, .int j] = .ok (.int (max i j)) := id rfl
@[simp] theorem d_min {i j : Int} : min2D [.int i, .int j] = .ok (.int (min i j)) := id rfl
@[simp] theorem d_tupL {x : List D} : tupleD [.lst x] = .ok (.tup x) := id rfl
@[simp] theorem d_tupT {x : List D} : tupleD [.tup x] = .ok (.tup x) := id rfl
@[simp] theorem d_intI {i : Int} : intOfD [.int i] = .ok (.int i) := id rfl
@[simp] theorem d_intB {k : Bool} : intOfD [.bl k] = .ok (.int (if k then 1 else 0)) := id rfl
@[simp] theorem d_ixT {x : List D} {i : Int} : ixD (.tup x) (.int i) = match atI x i with | some d => .ok d | none => .stk := id rfl
@[simp] theorem d_ixL {x : List D} {i : Int} : ixD (.lst x) (.int i) = match atI x i with | some d => .ok d | none => .stk := id rfl
@[simp] theorem d_ixA {x : List Int} {i : Int} : ixD (.arg x) (.int i) = match atI x i with | some n => .ok (.int n) | none => .stk := id rfl
@[simp] theorem d_slT {x : List D} {a b : Option Int} : sliceD (.tup x) a b = .ok (.tup (cutD x a b)) := id rfl
@[simp] theorem d_slL {x : List D} {a b : Option Int} : sliceD (.lst x) a b = .ok (.lst (cutD x a b)) := id rfl
@[simp] theorem d_itL {x : List D} : itD (.lst x) = .ok x := id rfl
@[simp] theorem d_itT {x : List D} : itD (.tup x) = .ok x := id rfl
@[simp] theorem d_itA {x : List Int} : itD (.arg x) = .ok (x.map D.int) := id rfl
@[simp] theorem d_rng1 {j : Int} : rng1D [.int j] = if rngOk j = true then .ok ((List.range j.toNat).map fun i => D.int (i : Nat)) else .stk := by
  show (if rngOk j = true then R.ok ((List.range j.toNat).map fun i => D.int (0 + (i : Nat))) else .stk) = _
  simp
@[simp] theorem d_rng2 {i j : Int} : rng2D [.int i, .int j] = if (rngOk i && rngOk j) = true then .ok ((List.range (j - i).toNat).map fun k => D.int (i + (k : Nat))) else .stk := id rfl
@[simp] theorem d_truB {b : Bool} : truD (.bl b) = .ok b := id rfl
@[simp] theorem d_truN : truD .non = .ok false := id rfl
@[simp] theorem d_truI {i : Int} : truD (.int i) = .ok (i != 0) := id rfl
@[simp] theorem d_truL {x : List D} : truD (.lst x) = .ok (!x.isEmpty) := id rfl
@[simp] theorem d_truT {x : List D} : truD (.tup x) = .ok (!x.isEmpty) := id rfl
theorem ints_map : ∀ xs : List Int, intsOf (xs.map .int) = some xs
  | [] => rfl
  | x :: xs => by simp [intsOf, ints_map xs]
theorem bls_map : ∀ xs : List Bool, blsOf (xs.map .bl) = some xs
  | [] => rfl
  | x :: xs => by simp [blsOf, bls_map xs]
@[simp] theorem d_all {xs : List Bool} : allD [.lst (xs.map .bl)] = .ok (.bl (xs.all id)) := by
  show (match blsOf (xs.map .bl) with | some ns => R.ok (D.bl (ns.all id)) | none => .stk) = _
  rw [bls_map]
@[simp] theorem d_any {xs : List Bool} : anyD [.lst (xs.map .bl)] = .ok (.bl (xs.any id)) := by
  show (match blsOf (xs.map .bl) with | some ns => R.ok (D.bl (ns.any id)) | none => .stk) = _
  rw [bls_map]
@[simp] theorem d_isNon {x : D} : isNon .non = true := id rfl
theorem szOk_of {n : Nat} (h : n ≤ 16777216) : szOk n = true := decide_eq_true (show n ≤ sizeLine from by unfold sizeLine; omega)
theorem smallPos_of {j : Int} (h : 0 < j) (h2 : j < 1073741824) : smallPos j = true := decide_eq_true ⟨h, h2⟩
theorem rngOk_of {j : Int} (h : -4611686018427387904 ≤ j) (h2 : j < 4611686018427387904) : rngOk j = true := decide_eq_true ⟨by omega, by omega⟩
theorem mulOk_l {i j : Int} (h : i.natAbs < 2 ^ 64) : mulOk i j = true := by
  unfold mulOk
  rw [decide_eq_true h]
  rfl
theorem mulOk_r {i j : Int} (h : j.natAbs < 2 ^ 64) : mulOk i j = true := by
  unfold mulOk
  rw [decide_eq_true h]
  simp
@[simp] theorem sz0 : szOk 0 = true := by decide
@[simp] theorem sz1 : szOk 1 = true := by decide
@[simp] theorem sz2 : szOk 2 = true := by decide
@[simp] theorem sz3 : szOk 3 = true := by decide
theorem atI_of {α : Type} {xs : List α} {i : Int} {j : Nat} {x : α} (hi : i = j) (h : xs[j]? = some x) : atI xs i = some x := by
  have hj : j < xs.length := (List.getElem?_eq_some_iff.mp h).1
  unfold atI ixN
  subst hi
  rw [if_pos (by omega), if_pos (by omega)]
  show xs[(j : Int).toNat]? = some x
  rw [Int.toNat_natCast, h]
theorem atI_lt {α : Type} {xs : List α} {i : Int} (h0 : 0 ≤ i) (h : i < xs.length) : atI xs i = some (xs[i.toNat]'(by omega)) :=
  atI_of (j := i.toNat) (by omega) (List.getElem?_eq_getElem (by omega))
def eqPs : List D → List D → Bool
  | [], [] => true
  | x :: xs, y :: ys => eqP x y && eqPs xs ys
  | _, _ => false
theorem eqPs_py : ∀ xs ys : List D, PyData.eqvAll (toPys xs) (toPys ys) = eqPs xs ys
  | [], [] => by simp [toPys, PyData.eqvAll, eqPs]
  | [], _ :: _ => by simp [toPys, PyData.eqvAll, eqPs]
  | _ :: _, [] => by simp [toPys, PyData.eqvAll, eqPs]
  | x :: xs, y :: ys => by simp [toPys, PyData.eqvAll, eqPs, eqP, eqPs_py xs ys]
@[simp] theorem eqP_int {i j : Int} : eqP (.int i) (.int j) = (i == j) := by simp [eqP, toPy, PyData.eqv]
@[simp] theorem eqP_bl {i j : Bool} : eqP (.bl i) (.bl j) = (i == j) := by simp [eqP, toPy, PyData.eqv]
@[simp] theorem eqP_str {i j : Str} : eqP (.str i) (.str j) = (i == j) := by simp [eqP, toPy, PyData.eqv]
@[simp] theorem eqP_tup {xs ys : List D} : eqP (.tup xs) (.tup ys) = eqPs xs ys := by simp [eqP, toPy, PyData.eqv, eqPs_py]
@[simp] theorem eqP_lst {xs ys : List D} : eqP (.lst xs) (.lst ys) = eqPs xs ys := by simp [eqP, toPy, PyData.eqv, eqPs_py]
@[simp] theorem eqPs_ints : ∀ {xs ys : List Int}, eqPs (xs.map .int) (ys.map .int) = decide (xs = ys)
  | [], [] => by simp [eqPs]
  | [], _ :: _ => by simp [eqPs]
  | _ :: _, [] => by simp [eqPs]
  | x :: xs, y :: ys => by
    have ih := eqPs_ints (xs := xs) (ys := ys)
    simp only [List.map_cons, eqPs, eqP_int, ih, List.cons.injEq]
    by_cases h : x = y <;> simp [h]
/-- a depth that the machine bears; no dict; texts that it bears -/
def Fit : Nat → D → Prop
  | _, .non => True
  | _, .bl _ => True
  | _, .int _ => True
  | _, .str x => PyData.strOk x = true
  | n + 1, .tup ds => ∀ d ∈ ds, Fit n d
  | n + 1, .lst ds => ∀ d ∈ ds, Fit n d
  | _, _ => False
theorem fits_py {n : Nat} : ∀ {ds : List D}, (∀ d ∈ ds, (toPy d).canLay0 = true ∧ (toPy d).depth ≤ n) → PyData.canLayAll0 (toPys ds) = true ∧ PyData.depthAll (toPys ds) ≤ n
  | [], _ => by simp [toPys, PyData.canLayAll0, PyData.depthAll]
  | d :: ds, h => by
    have h1 := h d (by simp)
    have h2 := fits_py (ds := ds) fun e he => h e (by simp [he])
    simp only [toPys, PyData.canLayAll0, PyData.depthAll, h1.1, h2.1, Bool.and_self, true_and]
    omega
theorem fit_py : ∀ {n : Nat} {d : D}, Fit n d → (toPy d).canLay0 = true ∧ (toPy d).depth ≤ n
  | n, .non, _ => by simp [toPy, PyData.canLay0, PyData.depth]
  | n, .bl _, _ => by simp [toPy, PyData.canLay0, PyData.depth]
  | n, .int _, _ => by simp [toPy, PyData.canLay0, PyData.depth]
  | n, .str x, h => by
    have h : PyData.strOk x = true := by cases n <;> exact h
    simp [toPy, PyData.canLay0, PyData.depth, h]
  | 0, .tup ds, h => h.elim
  | 0, .lst ds, h => h.elim
  | n + 1, .tup ds, h => by
    have h : ∀ d ∈ ds, Fit n d := h
    have := fits_py fun d hd => fit_py (h d hd)
    simp only [toPy, PyData.canLay0, PyData.depth, this.1, true_and]
    omega
  | n + 1, .lst ds, h => by
    have h : ∀ d ∈ ds, Fit n d := h
    have := fits_py fun d hd => fit_py (h d hd)
    simp only [toPy, PyData.canLay0, PyData.depth, this.1, true_and]
    omega
  | n, .arg _, h => by cases n <;> exact h.elim
  | n, .dik _ _, h => by cases n <;> exact h.elim
  | n, .dit _ _, h => by cases n <;> exact h.elim
theorem dOk_fit {n : Nat} {d : D} (h : Fit n d) (hn : n ≤ 64 := by decide) : dOk d = true := by
  have := fit_py h
  unfold dOk SeqAt.shaped
  rw [this.1, decide_eq_true (by omega)]
  rfl
theorem fit_ints {n : Nat} {xs : List Int} : ∀ d ∈ xs.map D.int, Fit n d := fun d h => by
  obtain ⟨x, _, rfl⟩ := List.mem_map.mp h
  cases n <;> trivial
theorem fit_int {n : Nat} {i : Int} : Fit n (.int i) := by cases n <;> trivial
theorem fit_bl {n : Nat} {i : Bool} : Fit n (.bl i) := by cases n <;> trivial
theorem fit_tupI {n : Nat} {xs : List Int} : Fit (n + 1) (.tup (xs.map D.int)) := fit_ints
theorem fit_lstI {n : Nat} {xs : List Int} : Fit (n + 1) (.lst (xs.map D.int)) := fit_ints
theorem eqD_of {n : Nat} {x y : D} (hx : Fit n x) (hy : Fit n y) (hn : n ≤ 64 := by decide) : eqD x y = .ok (.bl (eqP x y)) := by
  unfold eqD
  rw [dOk_fit hx hn, dOk_fit hy hn]
  rfl
theorem neD_of {n : Nat} {x y : D} (hx : Fit n x) (hy : Fit n y) (hn : n ≤ 64 := by decide) : neD x y = .ok (.bl (!eqP x y)) := by
  unfold neD
  rw [dOk_fit hx hn, dOk_fit hy hn]
  rfl
@[simp] theorem eqD_int {i j : Int} : eqD (.int i) (.int j) = .ok (.bl (decide (i = j))) := by
  rw [eqD_of (n := 0) (by unfold Fit; trivial) (by unfold Fit; trivial), eqP_int]
  by_cases h : i = j <;> simp [h]
@[simp] theorem neD_int {i j : Int} : neD (.int i) (.int j) = .ok (.bl (!decide (i = j))) := by
  rw [neD_of (n := 0) (by unfold Fit; trivial) (by unfold Fit; trivial), eqP_int]
  by_cases h : i = j <;> simp [h]
theorem eqPs_refl : ∀ {ds : List D}, (∀ d ∈ ds, eqP d d = true) → eqPs ds ds = true
  | [], _ => rfl
  | d :: ds, h => by simp [eqPs, h d (by simp), eqPs_refl (ds := ds) fun e he => h e (by simp [he])]
theorem eqP_refl : ∀ {n : Nat} {d : D}, Fit n d → eqP d d = true
  | n, .non, _ => by simp [eqP, toPy, PyData.eqv]
  | n, .bl _, _ => by simp
  | n, .int _, _ => by simp
  | n, .str x, h => by simp
  | 0, .tup ds, h => h.elim
  | 0, .lst ds, h => h.elim
  | n + 1, .tup ds, h => by
    have h : ∀ d ∈ ds, Fit n d := h
    rw [eqP_tup]
    exact eqPs_refl fun d hd => eqP_refl (h d hd)
  | n + 1, .lst ds, h => by
    have h : ∀ d ∈ ds, Fit n d := h
    rw [eqP_lst]
    exact eqPs_refl fun d hd => eqP_refl (h d hd)
  | n, .arg _, h => by cases n <;> exact h.elim
  | n, .dik _ _, h => by cases n <;> exact h.elim
  | n, .dit _ _, h => by cases n <;> exact h.elim
theorem eqD_refl {n : Nat} {x : D} (hx : Fit n x) (hn : n ≤ 64 := by decide) : eqD x x = .ok (.bl true) := by rw [eqD_of hx hx hn, eqP_refl hx]
theorem neD_refl {n : Nat} {x : D} (hx : Fit n x) (hn : n ≤ 64 := by decide) : neD x x = .ok (.bl false) := by rw [neD_of hx hx hn, eqP_refl hx]; rfl
def ChkL (O W : List Nat) : Nat → Env → Env → Prop
  | _, _, [] => True
  | j, x :: xs, y :: ys => (y = none ∨ (y = x ∧ j ∉ W) ∨ (∃ d, y = some d ∧ ((j ∈ O ∧ d.shallow = true) ∨ d.nl = true))) ∧ ChkL O W (j + 1) xs ys
  | _, [], _ :: _ => False
theorem ChkL.at {O W : List Nat} : ∀ {ρ ρ' : Env} {k j : Nat} {d : D}, ChkL O W k ρ ρ' → ρ'[j]? = some (some d) → (ρ[j]? = some (some d) ∧ k + j ∉ W) ∨ (k + j ∈ O ∧ d.shallow = true) ∨ d.nl = true
  | _, [], _, _, _, _, e => by simp at e
  | [], _ :: _, _, _, _, h, _ => h.elim
  | x :: xs, y :: ys, k, 0, d, h, e => by
    simp at e
    subst e
    rcases h.1 with h | ⟨h, w⟩ | ⟨d', h, w⟩
    · cases h
    · exact .inl ⟨by simp [h], w⟩
    · cases h; exact .inr w
  | x :: xs, y :: ys, k, j + 1, d, h, e => by
    have := ChkL.at (j := j) h.2 (by simpa using e)
    rw [show k + (j + 1) = k + 1 + j by omega]
    simpa using this
@[simp] theorem e_wsf {d : D} : Hd.ws (.fr d) = [] := id rfl
@[simp] theorem e_wsv {d : D} : Hd.ws (.vl d) = [] := id rfl
@[simp] theorem e_wso {i : Nat} : Hd.ws (.ow i) = [i] := id rfl
def shAt (i : Nat) (ρ : Y.Env) : Bool := match ρ[i]? with | some (some d) => d.shallow | _ => true
@[simp] theorem chkO_w1 {O : List Nat} {i : Nat} {ρ : Y.Env} (hi : i ∈ O) (h : shAt i ρ = true) : chkO O [i] ρ ρ = .ok () := by
  unfold chkO
  rw [if_pos]
  intro j d e
  by_cases c : j = i
  · subst c
    unfold shAt at h
    rw [e] at h
    exact .inr (.inl ⟨hi, h⟩)
  · exact .inl ⟨e, by simpa using c⟩
@[simp] theorem shL {ds : List D} : D.shallow (.lst ds) = nls ds := id rfl
@[simp] theorem nls0 : nls [] = true := by simp [nls]
@[simp] theorem nls1 {d : D} {ds : List D} : nls (d :: ds) = (d.nl && nls ds) := by simp [nls]
@[simp] theorem nlI {i : Int} : D.nl (.int i) = true := by simp [D.nl]
@[simp] theorem nlB {i : Bool} : D.nl (.bl i) = true := by simp [D.nl]
@[simp] theorem nlS {i : Str} : D.nl (.str i) = true := by simp [D.nl]
@[simp] theorem nlN : D.nl .non = true := by simp [D.nl]
@[simp] theorem nlT {ds : List D} : D.nl (.tup ds) = nls ds := by simp [D.nl]
@[simp] theorem owL {ds : List D} : D.ownable (.lst ds) = true := id rfl
theorem nls_all : ∀ {ds : List D}, (∀ d ∈ ds, d.nl = true) → nls ds = true
  | [], _ => by simp
  | d :: ds, h => by simp [h d (by simp), nls_all fun e he => h e (List.mem_cons_of_mem _ he)]
@[simp] theorem nls_ints {xs : List Int} : nls (xs.map D.int) = true := nls_all fun d h => by
  obtain ⟨x, _, rfl⟩ := List.mem_map.mp h
  simp
/-- one turn of a comprehension; of a for -/
def turnC (tm : GM) (t : BM) (e : EM) (vs : List Nat) (x : D) (ρ : Env) : R (Option D × Env) :=
  tm x ρ >>= fun ρ1 => t ρ1 >>= fun p => if p.1 = true then (e p.2 >>= fun q => q.1.v >>= fun d => R.ok (some d, wipeE q.2 vs)) else R.ok (none, wipeE p.2 vs)
def turnF (tm : GM) (body : SM) (vs : List Nat) (x : D) (ρ : Env) : R (Fl × Env) :=
  (tm x ρ).nox >>= fun ρ1 => body ρ1 >>= fun p => match p.1 with | .nx => R.ok (.nx, wipeE p.2 vs) | .ct => R.ok (.nx, wipeE p.2 vs) | f => R.ok (f, p.2)
theorem comp_cons {tm : GM} {t : BM} {e : EM} {vs ws : List Nat} {x : D} {xs ys : List D} {ρ ρ' ρf : Env} {o : Option D} (h : turnC tm t e vs x ρ = .ok (o, ρ')) (hw : ∀ w ∈ ws, ρ'[w]? = ρ[w]?) (h2 : cCompL tm t e vs ws xs ρ' = .ok (ys, ρf)) : cCompL tm t e vs ws (x :: xs) ρ = .ok (o.toList ++ ys, ρf) := by
  have ck : chk ws ρ ρ' = .ok () := by unfold chk; rw [if_pos hw]
  unfold turnC at h
  obtain ⟨ρ1, e1, h⟩ := R.ok_of h
  obtain ⟨⟨k, ρ2⟩, e3, h⟩ := R.ok_of h
  unfold cCompL
  rw [e1]
  simp only [R.bind_ok]
  rw [e3]
  cases k with
  | false =>
    have h : R.ok (none, wipeE ρ2 vs) = R.ok (o, ρ') := h
    cases h
    simp only [R.bind_ok, Bool.false_eq_true, if_false]
    rw [ck]
    exact h2
  | true =>
    have h : (e ρ2 >>= fun q => q.1.v >>= fun d => R.ok (some d, wipeE q.2 vs)) = R.ok (o, ρ') := h
    obtain ⟨⟨hd, ρ3⟩, e4, h⟩ := R.ok_of h
    obtain ⟨d, e5, h⟩ := R.ok_of h
    cases h
    simp only [R.bind_ok, if_true]
    rw [e4]
    simp only [R.bind_ok]
    rw [show hd.v = _ from e5]
    simp only [R.bind_ok]
    rw [ck]
    simp only [R.bind_ok]
    rw [h2]
    rfl
theorem for_cons {tm : GM} {body : SM} {vs ws : List Nat} {x : D} {xs : List D} {ρ ρ' : Env} {r : R (Fl × Env)} (h : turnF tm body vs x ρ = .ok (.nx, ρ')) (hw : ∀ w ∈ ws, ρ'[w]? = ρ[w]?) (h2 : forL tm body vs ws xs ρ' = r) : forL tm body vs ws (x :: xs) ρ = r := by
  have ck : chk ws ρ ρ' = .ok () := by unfold chk; rw [if_pos hw]
  unfold turnF at h
  obtain ⟨ρ1, e1, h⟩ := R.ok_of h
  obtain ⟨⟨f, ρ2⟩, e3, h⟩ := R.ok_of h
  unfold forL
  rw [e1]
  simp only [R.bind_ok]
  rw [e3]
  cases f with
  | nx =>
    have h : R.ok (Fl.nx, wipeE ρ2 vs) = R.ok (Fl.nx, ρ') := h
    cases h
    simp only [R.bind_ok]
    rw [ck]
    exact h2
  | ct =>
    have h : R.ok (Fl.nx, wipeE ρ2 vs) = R.ok (Fl.nx, ρ') := h
    cases h
    simp only [R.bind_ok]
    rw [ck]
    exact h2
  | bk => cases h
  | rt _ => cases h
/-- the loop ends in this turn -/
theorem for_rt {tm : GM} {body : SM} {vs ws : List Nat} {x : D} {xs : List D} {ρ ρ' : Env} {hd : Hd} (h : turnF tm body vs x ρ = .ok (.rt hd, ρ')) : forL tm body vs ws (x :: xs) ρ = .ok (.rt hd, ρ') := by
  unfold turnF at h
  obtain ⟨ρ1, e1, h⟩ := R.ok_of h
  obtain ⟨⟨f, ρ2⟩, e3, h⟩ := R.ok_of h
  unfold forL
  rw [e1]
  simp only [R.bind_ok]
  rw [e3]
  cases f with
  | nx => cases h
  | ct => cases h
  | bk => cases h
  | rt _ => cases h; rfl
section
variable {α : Type}
/-- the yields of a comprehension and the state behind it -/
def yields {S : Type} (next : S → α → S) (out : S → α → Option D) : List α → S → List D × S
  | [], s => ([], s)
  | x :: xs, s => ((out s x).toList ++ (yields next out xs (next s x)).1, (yields next out xs (next s x)).2)
/-- a comprehension that changes nothing: f is what it yields -/
theorem comp_map {tm : GM} {t : BM} {e : EM} {vs ws : List Nat} {ρ : Env} (F f : α → D) : ∀ (xs : List α),
    (∀ x ∈ xs, turnC tm t e vs (F x) ρ = .ok (some (f x), ρ)) → cCompL tm t e vs ws (xs.map F) ρ = .ok (xs.map f, ρ)
  | [], _ => rfl
  | x :: xs, h => comp_cons (h x (by simp)) (fun _ _ => rfl) (comp_map F f xs fun y hy => h y (by simp [hy]))
/-- .. with a test p, yields f -/
theorem comp_filter {tm : GM} {t : BM} {e : EM} {vs ws : List Nat} {ρ : Env} (F : α → D) (p : α → Bool) (f : α → D) : ∀ (xs : List α),
    (∀ x ∈ xs, turnC tm t e vs (F x) ρ = .ok (if p x = true then some (f x) else none, ρ)) → cCompL tm t e vs ws (xs.map F) ρ = .ok ((xs.filter p).map f, ρ)
  | [], _ => rfl
  | x :: xs, h => by
    have := comp_cons (ws := ws) (h x (by simp)) (fun _ _ => rfl) (comp_filter F p f xs fun y hy => h y (by simp [hy]))
    rw [List.map_cons, this]
    cases hp : p x with
    | false => rw [List.filter_cons_of_neg (by simp [hp])]; rfl
    | true => rw [List.filter_cons_of_pos hp]; rfl
/-- for: states -/
theorem for_run {S : Type} {tm : GM} {body : SM} {vs ws : List Nat} (F : α → D) (rho : S → Env) (next : S → α → S) (I : S → Prop) : ∀ (xs : List α) (s : S), I s →
    (∀ s x, I s → x ∈ xs → I (next s x) ∧ (∀ w ∈ ws, (rho (next s x))[w]? = (rho s)[w]?) ∧ turnF tm body vs (F x) (rho s) = .ok (.nx, rho (next s x))) →
    forL tm body vs ws (xs.map F) (rho s) = .ok (.nx, rho (xs.foldl next s)) ∧ I (xs.foldl next s)
  | [], s, hs, _ => ⟨rfl, hs⟩
  | x :: xs, s, hs, h => by
    obtain ⟨h1, hw, h2⟩ := h s x hs (by simp)
    have ih := for_run F rho next I xs (next s x) h1 fun s y hs hy => h s y hs (by simp [hy])
    exact ⟨for_cons h2 hw ih.1, ih.2⟩
/-- for: something that holds of what stands -/
theorem for_inv {tm : GM} {body : SM} {vs ws : List Nat} (F : α → D) (I : Env → Prop) : ∀ (xs : List α) (ρ : Env), I ρ →
    (∀ ρ x, I ρ → x ∈ xs → ∃ ρ', turnF tm body vs (F x) ρ = .ok (.nx, ρ') ∧ I ρ' ∧ (∀ w ∈ ws, ρ'[w]? = ρ[w]?)) →
    ∃ ρ', forL tm body vs ws (xs.map F) ρ = .ok (.nx, ρ') ∧ I ρ'
  | [], ρ, hs, _ => ⟨ρ, rfl, hs⟩
  | x :: xs, ρ, hs, h => by
    obtain ⟨ρ1, e1, e3, hw⟩ := h ρ x hs (by simp)
    obtain ⟨ρ', e4, h4⟩ := for_inv (body := body) (tm := tm) (ws := ws) F I xs ρ1 e3 fun s y hs hy => h s y hs (by simp [hy])
    exact ⟨ρ', for_cons e1 hw e4, h4⟩
/-- for: by the turn's number -/
theorem for_idx {tm : GM} {body : SM} {vs ws : List Nat} (F : α → D) : ∀ (xs : List α) (rho : Nat → Env),
    (∀ i (h : i < xs.length), (∀ w ∈ ws, (rho (i + 1))[w]? = (rho i)[w]?) ∧ turnF tm body vs (F xs[i]) (rho i) = .ok (.nx, rho (i + 1))) → forL tm body vs ws (xs.map F) (rho 0) = .ok (.nx, rho xs.length)
  | [], rho, _ => rfl
  | x :: xs, rho, h => by
    have h0 := h 0 (by simp)
    have ih := for_idx F xs (fun i => rho (i + 1)) fun i hi => h (i + 1) (by simp; omega)
    exact for_cons h0.2 h0.1 ih
theorem for_rng {tm : GM} {body : SM} {vs ws : List Nat} {n : Nat} (F : Nat → D) (rho : Nat → Env) (h : ∀ i, i < n → (∀ w ∈ ws, (rho (i + 1))[w]? = (rho i)[w]?) ∧ turnF tm body vs (F i) (rho i) = .ok (.nx, rho (i + 1))) : forL tm body vs ws ((List.range n).map F) (rho 0) = .ok (.nx, rho n) := by
  have := for_idx (tm := tm) (body := body) (vs := vs) (ws := ws) F (List.range n) rho fun i hi => by
    rw [List.getElem_range]
    exact h i (by simpa using hi)
  rwa [List.length_range] at this
/-- a comprehension whose turns change what stands: something of each yield -/
theorem comp_ex {S β : Type} {tm : GM} {t : BM} {e : EM} {vs ws : List Nat} (F : α → D) (G : β → D) (rho : S → Env) (P : β → Prop) : ∀ (xs : List α) (s : S),
    (∀ s x, x ∈ xs → ∃ y s', turnC tm t e vs (F x) (rho s) = .ok (some (G y), rho s') ∧ P y ∧ (∀ w ∈ ws, (rho s')[w]? = (rho s)[w]?)) →
    ∃ (ys : List β) (s' : S), cCompL tm t e vs ws (xs.map F) (rho s) = .ok (ys.map G, rho s') ∧ ys.length = xs.length ∧ ∀ y ∈ ys, P y
  | [], s, _ => ⟨[], s, rfl, rfl, by simp⟩
  | x :: xs, s, h => by
    obtain ⟨y, s1, e1, p1, w1⟩ := h s x (by simp)
    obtain ⟨ys, s2, e2, l2, p2⟩ := comp_ex F G rho P xs s1 fun s y hy => h s y (by simp [hy])
    exact ⟨y :: ys, s2, comp_cons e1 w1 e2, by simp [l2], by simpa using ⟨p1, p2⟩⟩
end
end Y

set_option Elab.async false
set_option linter.all false
set_option maxRecDepth 100000
namespace Y
open PySem PySem.Spec PyProof.Rows L2
def rgD (a b : Int) : List D := (List.range (b - a).toNat).map fun i => D.int (a + (i : Nat))
def rgB (a b : Int) : Bool := rngOk a && rngOk b && decide ((b - a).toNat ≤ 16777216)
def cRg1 (l : Bool) (m : EM) : EM := fun ρ => do
  let (h, ρ1) ← m ρ
  let d ← h.v.nox
  match d with
  | .int n => if rgB 0 n = true then pure (.fr (if l then .lst (rgD 0 n) else .tup (rgD 0 n)), ρ1) else .stk
  | _ => .stk
section
variable {K : PySem.W.Frag} {X : Cx} {P0 : Pr} {O W U : List Nat} {E : EK} {a b e : Expr} {es : List Expr} {ma mb : EM} {ms : AM} {pos : Pos}
theorem rgB_ok {a b : Int} (h : rgB a b = true) : RgOk a b := by
  unfold rgB rngOk at h
  simp only [Bool.and_eq_true, decide_eq_true_eq] at h
  obtain ⟨⟨h1, h2⟩, h3⟩ := h
  exact ⟨by omega, by omega, by omega, by omega, by have e : (2 : Nat) ^ 24 = 16777216 := by decide
                                                    omega⟩
theorem reps_rg {H : Hp} {P : Pr} {a b : Int} : Reps K H (rgD a b) P (rgV a b) := by
  unfold rgD rgV
  induction (List.range (b - a).toNat) with
  | nil => exact Reps.nil
  | cons x xs ih => exact Reps.cons (by unfold Rep; rfl) ih
theorem out_lst {P : Pr} {H : Hp} {ds : List D} {vs : List V} {Q : VK} (hm : ∀ b, P b → isMut (H b)) (o : Out K P H (.lst ds) Q) (r : ∀ H' P', Reps K H' ds P' vs) : ∀ q, H q = none → Q (.ref q) (upd H q (.lst vs)) := fun q hq => o _ _ (fun b u eb => by rw [upd_ne (ne_of_none eb hq)]; exact eb) (by
    unfold Rep
    exact ⟨q, vs, rfl, fun z => (hm q z).some hq, upd_same, r _ _⟩) fun _ a e => by cases e; exact hq
theorem out_tup {P : Pr} {H : Hp} {ds : List D} {vs : List V} {Q : VK} (o : Out K P H (.tup ds) Q) (r : ∀ H' P', Reps K H' ds P' vs) : ∀ q, H q = none → Q (.ref q) (upd H q (.tup vs)) := fun q hq => o _ _ (fun b u eb => by rw [upd_ne (ne_of_none eb hq)]; exact eb) (by
    unfold Rep
    exact ⟨q, vs, rfl, upd_same, r _ _⟩) fun m => by cases m
theorem tM_rg1 {l : Bool} (σ : St) (H : Hp) (Q : VK) (h : tM X.K P0 O W E (cRg1 l ma) σ H Q) : tRg1 (tM X.K P0 O W E ma) σ H fun a b H1 => RgOk a b ∧ ∀ q, H1 q = none → Q (.ref q) (upd H1 q (if l then .lst (rgV a b) else .tup (rgV a b))) := by
  obtain ⟨ρ, S, h⟩ := h
  refine ⟨ρ, S, h.of_bind.mono fun ⟨hd, ρ1⟩ q v H1 S1 k1 r1 => ?_⟩
  obtain ⟨d, e1, q⟩ := q.of_nox
  have rd := r1.v e1
  cases d <;> first | (exact q.elim) | skip
  rename_i n
  unfold Rep at rd
  subst rd
  refine ⟨n, rfl, ?_⟩
  by_cases c : rgB 0 n = true
  · have q : Res E W σ H (if rgB 0 n = true then R.ok (Hd.fr (if l then .lst (rgD 0 n) else .tup (rgD 0 n)), ρ1) else .stk) _ := q
    rw [if_pos c] at q
    refine ⟨rgB_ok c, ?_⟩
    have o := out_of S1 k1 q
    cases l with
    | true => exact out_lst S1.dom o fun _ _ => reps_rg
    | false => exact out_tup o fun _ _ => reps_rg
  · have q : Res E W σ H (if rgB 0 n = true then R.ok (Hd.fr (if l then .lst (rgD 0 n) else .tup (rgD 0 n)), ρ1) else .stk) _ := q
    rw [if_neg c] at q
    exact q.elim
theorem ce_lrg1 {p p2 pos : Pos} (hc : X.calm = true) (hm : X.mg "list" = none) (hm2 : X.mg "range" = none) (ha : CEx X P0 O W E a ma) (hg : Gl X "list" := by rfl) (hg2 : Gl X "range" := by rfl) (na : starEach [a] X.env = (false, eval a X.env) :: starEach [] X.env := by rfl)
    (na2 : starEach [.Call (.Name "range" p) [a] [] p2] X.env = (false, eval (.Call (.Name "range" p) [a] [] p2) X.env) :: starEach [] X.env := by rfl) {q : Pos} : CEx X P0 O W E (.Call (.Name "list" q) [.Call (.Name "range" p) [a] [] p2] [] pos) (cRg1 true ma) :=
  PE.imp (pe_listRg hc hg hm (prg_1 hg2 hm2 ha na) na2) fun σ H Q h => tM_rg1 σ H Q h
def sortI (ns : List Int) : List Int := ns.mergeSort (fun a b => decide (a ≤ b))
theorem sortI_perm (ns : List Int) : (sortI ns).Perm ns := List.mergeSort_perm _ _
theorem sortI_pw (ns : List Int) : (sortI ns).Pairwise (· ≤ ·) := by
  have := List.pairwise_mergeSort (le := fun a b : Int => decide (a ≤ b)) (fun a b c h1 h2 => by simp at *; omega) (fun a b => by simp; omega) ns
  exact this.imp fun h => by simpa using h
theorem sortI_of {ns ms : List Int} (p : ms.Perm ns) (h : ms.Pairwise (· ≤ ·)) : ms = sortI ns :=
  List.Perm.eq_of_pairwise (le := fun a b : Int => a ≤ b) (fun a b _ _ h1 h2 => by omega) h (sortI_pw ns) (p.trans (sortI_perm ns).symm)
def sortedD : List D → R D
  | [.lst ds] => match intsOf ds with | some ns => .ok (.lst ((sortI ns).map D.int)) | none => .stk
  | _ => .stk
theorem cd_sortedI : CallR X (.builtin "sorted") (rDs X.K sortedD) := by
  intro pins s σ H xs us Q I r ⟨P, ds, dz, hm, rs, e, out⟩
  unfold sortedD at e
  split at e
  · split at e
    · rename_i ns ei
      cases e
      obtain ⟨v, rfl, r1⟩ := rs.get1
      obtain ⟨a, vs, rfl, h1, h2⟩ := r1.lst
      rw [ints_rep ei h2] at h1
      exact cr_sortedI pins s σ H _ us Q I r ⟨a, ns, rfl, SqL.of h1, fun ns' p pp pw hp => by
        rw [sortI_of pp pw]
        exact out_lst hm out (fun _ _ => reps_ints _) p hp⟩
    · cases e
  · cases e
@[simp] theorem d_sortI {xs : List Int} : sortedD [.lst (xs.map D.int)] = .ok (.lst ((sortI xs).map D.int)) := by
  show (match intsOf (xs.map .int) with | some ns => R.ok (D.lst ((sortI ns).map D.int)) | none => .stk) = _
  rw [ints_map]
def cPop (i : Nat) : EM := fun ρ => do
  let ds ← (lstAt i ρ).nox
  match ds[ds.length - 1]? with
  | some d => pure (.vl d, ρ.set i (some (.lst ds.dropLast)))
  | none => .stk
def popRes (i : Nat) (ds : List D) (z : Int) (ρ1 : Y.Env) : R (Hd × Y.Env) := if szOk ds.length = true then (match ixN ds.length z with
    | some k => (match ds[k]? with
      | some d => .ok (.vl d, ρ1.set i (some (.lst (ds.eraseIdx k))))
      | none => .stk)
    | none => .stk) else .stk
def cPopAt (i : Nat) (m : EM) : EM := fun ρ => do
  let _ ← (lstAt i ρ).nox
  let (h, ρ1) ← m ρ
  let d ← h.v.nox
  match d with
  | .int z => do
    let ds ← (lstAt i ρ1).nox
    popRes i ds z ρ1
  | _ => .stk
theorem Keep.ownW {i : Nat} {l : Addr} {o : HO} {σ : St} {H H1 : Hp} (k : Keep W σ H H1) (hi : i ∈ W) (ha : σ[i]? = Option.some (Option.some (V.ref l))) : Keep W σ H (upd H1 l o) where
  keep := fun b u e n => by
    rw [upd_ne fun (z : b = l) => n ⟨i, hi, by rw [z]; exact ha⟩]
    exact k.keep b u e n
  some := fun b e => by
    by_cases hb : b = l
    · rw [hb, upd_same]; intro z; cases z
    · rw [upd_ne hb]; exact k.some b e
theorem Reps.drop1 {H : Hp} {P : Pr} : ∀ {ds : List D} {vs : List V}, Reps K H ds P vs → Reps K H ds.dropLast P vs.dropLast
  | [], _, h => by rw [h.nil_iff]; exact Reps.nil
  | [d], _, h => by
    obtain ⟨v, ws, rfl, h1, h2⟩ := h.cons_iff
    rw [h2.nil_iff]
    exact Reps.nil
  | d :: e :: ds, _, h => by
    obtain ⟨v, ws, rfl, h1, h2⟩ := h.cons_iff
    obtain ⟨w, us, rfl, h3, h4⟩ := h2.cons_iff
    exact Reps.cons h1 (Reps.drop1 h2)
theorem Reps.erase {H : Hp} {P : Pr} : ∀ {ds : List D} {vs : List V} (k : Nat), Reps K H ds P vs → Reps K H (ds.eraseIdx k) P (vs.eraseIdx k)
  | [], _, k, h => by rw [h.nil_iff]; simp; exact Reps.nil
  | d :: ds, _, 0, h => by
    obtain ⟨v, ws, rfl, h1, h2⟩ := h.cons_iff
    exact h2
  | d :: ds, _, k + 1, h => by
    obtain ⟨v, ws, rfl, h1, h2⟩ := h.cons_iff
    exact Reps.cons h1 (Reps.erase k h2)
theorem tM_popAt {i : Nat} (hi : i ∈ O) (hw : i ∈ W) (σ : St) (H : Hp) (Q : VK) (h : tM K P0 O W E (cPopAt i ma) σ H Q) : tBM K "list" rPopAt (tVar i) (tCons (tM K P0 O W E ma) tNil) σ H Q := by
  obtain ⟨ρ, S, h⟩ := h
  obtain ⟨ds0, e0, h⟩ := h.of_nox
  obtain ⟨l, vs0, h1, h2, _⟩ := S.lst hi (lstAt_ok e0)
  refine ⟨.ref l, h1, .inl ⟨rfl, _, SqL.of h2⟩, ρ, S, h.of_bind.mono fun ⟨hd, ρ1⟩ q v H1 S1 k1 r1 => ?_⟩
  obtain ⟨d, e1, q⟩ := q.of_nox
  have rd := r1.v e1
  cases d <;> first | (exact q.elim) | skip
  rename_i z
  unfold Rep at rd
  subst rd
  obtain ⟨ds, e2, q⟩ := Res.of_nox (show Res E W σ H ((lstAt i ρ1).nox >>= _) _ from q)
  obtain ⟨l', vs, h1', h3, h4⟩ := S1.lst hi (lstAt_ok e2)
  rw [h1] at h1'
  cases h1'
  have q : Res E W σ H (popRes i ds z ρ1) _ := q
  unfold popRes at q
  by_cases c : szOk ds.length = true
  · rw [if_pos c] at q
    have c := of_decide_eq_true c
    cases ej : ixN ds.length z with
    | none => rw [ej] at q; exact q.elim
    | some k =>
      rw [ej] at q
      cases ed : ds[k]? with
      | none => simp only [ed] at q; exact q.elim
      | some d =>
        simp only [ed] at q
        obtain ⟨y, ey, ry⟩ := h4.get ed
        obtain ⟨a1, a2, a3, a4⟩ := ixN_seq ej
        have e24 : sizeLine = 16777216 := by decide
        have hv : FA P0 O σ = FA P0 O σ := rfl
        refine ⟨l, vs, z, k, y, rfl, rfl, h3, by omega, by omega, by rw [h4.length]; exact a1, ey, ?_⟩
        have S2 := S1.lstW hi h1 h3 (Reps.erase k h4)
        refine q y _ S2 (k1.ownW hw h1) ?_
        exact ry.mono d S1.dom (fun b o e n => by rw [upd_ne fun z => n (.inr ⟨i, hi, by rw [z]; exact h1⟩)]; exact e) fun b z => .inl z
  · rw [if_neg c] at q
    exact q.elim
theorem ce_popAt {i : Nat} {x : Str} {p ap cp : Pos} (h : CEx X P0 O W E e ma) (hi : i ∈ O := by decide) (hw : i ∈ W := by decide) (hx : X.N[i]? = some x := by rfl) (hv : Vis X.env.scope x := by first | exact Or.inl rfl | exact Or.inr (Or.inl rfl) | exact Or.inr (Or.inr rfl)) (hd : (x == ("__debug__" : Str)) = false := by decide) (hcd : (x == ("__classdict__" : Str)) = false := by decide)
    (he : starEach [e] X.env = (false, eval e X.env) :: starEach [] X.env := by rfl) (hpl : (backTo cp (starEach [] X.env)).any (·.1) = false := by rfl) (hbase : attributeBase (.Name x p) "pop" X.env (eval (.Name x p) X.env) = eval (.Name x p) X.env := by rfl) (hline : (ap.endLine == cp.line) = true := by rfl)
    (hfew : Few X cp [e] := by rfl) : CEx X P0 O W E (.Call (.Attribute (.Name x p) "pop" ap) [e] [] cp) (cPopAt i ma) :=
  PE.imp (pe_bm PySem.F.plainAttrs_list PySem.F.slot_list_pop PySem.F.type_list_pop mt_popAt (pe_var (i := i) hx hv hd hcd) (pa_cons h pa_nil he) hbase hfew hline he hpl) (tM_popAt hi hw)
theorem tM_pop {i : Nat} (hi : i ∈ O) (hw : i ∈ W) (σ : St) (H : Hp) (Q : VK) (h : tM K P0 O W E (cPop i) σ H Q) : tBM0 K "list" rPop (tVar i) σ H Q := by
  obtain ⟨ρ, S, h⟩ := h
  unfold cPop at h
  obtain ⟨ds, e0, h⟩ := h.of_nox
  obtain ⟨l, vs, h1, h2, h4⟩ := S.lst hi (lstAt_ok e0)
  refine ⟨.ref l, h1, .inl ⟨rfl, _, SqL.of h2⟩, ?_⟩
  cases ed : ds[ds.length - 1]? with
  | none => simp only [ed] at h; exact h.elim
  | some d =>
    simp only [ed] at h
    obtain ⟨y, ey, ry⟩ := h4.get ed
    refine ⟨l, vs, y, rfl, rfl, h2, by rw [h4.length]; exact ey, ?_⟩
    refine h y _ (S.lstW hi h1 h2 (Reps.drop1 h4)) ((Keep.refl (W := W) (σ := σ) (H := H)).ownW hw h1) ?_
    exact ry.mono d S.dom (fun b o e n => by rw [upd_ne fun z => n (.inr ⟨i, hi, by rw [z]; exact h1⟩)]; exact e) fun b z => .inl z
theorem ce_pop {i : Nat} {x : Str} {p ap cp : Pos} (hi : i ∈ O := by decide) (hw : i ∈ W := by decide) (hx : X.N[i]? = some x := by rfl) (hv : Vis X.env.scope x := by first | exact Or.inl rfl | exact Or.inr (Or.inl rfl) | exact Or.inr (Or.inr rfl)) (hd : (x == ("__debug__" : Str)) = false := by decide) (hcd : (x == ("__classdict__" : Str)) = false := by decide)
    (hbase : attributeBase (.Name x p) "pop" X.env (eval (.Name x p) X.env) = eval (.Name x p) X.env := by rfl) (hline : (ap.endLine == cp.line) = true := by rfl) : CEx X P0 O W E (.Call (.Attribute (.Name x p) "pop" ap) [] [] cp) (cPop i) :=
  PE.imp (pe_bm0 PySem.F.plainAttrs_list PySem.F.slot_list_pop PySem.F.type_list_pop mt_pop (pe_var (i := i) hx hv hd hcd) hbase hline) (tM_pop hi hw)
end
end Y

set_option Elab.async false
set_option linter.all false
set_option maxRecDepth 100000
set_option maxHeartbeats 4000000
namespace Y
open PySem PySem.Spec PyProof.Rows L2
def ltL : List Int → List Int → Bool
  | [], [] => false
  | [], _ :: _ => true
  | _ :: _, [] => false
  | x :: xs, y :: ys => if x = y then ltL xs ys else decide (x < y)
theorem ltL_asym : ∀ {a b : List Int}, ltL a b = true → ltL b a = false
  | [], [], h => by simp [ltL] at h
  | [], _ :: _, _ => rfl
  | _ :: _, [], h => by simp [ltL] at h
  | x :: xs, y :: ys, h => by
    unfold ltL at h ⊢
    by_cases e : x = y
    · rw [if_pos e] at h
      rw [if_pos e.symm]
      exact ltL_asym h
    · rw [if_neg e, decide_eq_true_eq] at h
      rw [if_neg fun z => e z.symm, decide_eq_false_iff_not]
      omega
theorem ltL_tr : ∀ {a b c : List Int}, ltL b a = false → ltL c b = false → ltL c a = false
  | a, b, [], h1, h2 => by
    cases b with
    | nil => exact h1
    | cons => simp [ltL] at h2
  | [], b, z :: zs, _, _ => rfl
  | x :: xs, [], z :: zs, h1, _ => by simp [ltL] at h1
  | x :: xs, y :: ys, z :: zs, h1, h2 => by
    unfold ltL at h1 h2 ⊢
    by_cases e1 : y = x
    · rw [if_pos e1] at h1
      by_cases e2 : z = y
      · rw [if_pos e2] at h2
        rw [if_pos (e2.trans e1)]
        exact ltL_tr h1 h2
      · rw [if_neg e2, decide_eq_false_iff_not] at h2
        rw [if_neg (by omega), decide_eq_false_iff_not]
        omega
    · rw [if_neg e1, decide_eq_false_iff_not] at h1
      by_cases e2 : z = y
      · rw [if_neg (by omega), decide_eq_false_iff_not]
        omega
      · rw [if_neg e2, decide_eq_false_iff_not] at h2
        rw [if_neg (by omega), decide_eq_false_iff_not]
        omega
theorem ltL_eq : ∀ {a b : List Int}, ltL a b = false → ltL b a = false → a = b
  | [], [], _, _ => rfl
  | [], _ :: _, h, _ => by simp [ltL] at h
  | _ :: _, [], _, h => by simp [ltL] at h
  | x :: xs, y :: ys, h1, h2 => by
    unfold ltL at h1 h2
    by_cases e : x = y
    · rw [if_pos e] at h1
      rw [if_pos e.symm] at h2
      rw [e, ltL_eq h1 h2]
    · rw [if_neg e, decide_eq_false_iff_not] at h1
      rw [if_neg fun z => e z.symm, decide_eq_false_iff_not] at h2
      omega
theorem ltL_swo {β : Type} (k : β → List Int) : SrtO.Swo fun v u => ltL (k v) (k u) := ⟨fun _ _ h => ltL_asym h, fun _ _ _ h1 h2 => ltL_tr h1 h2⟩
def sortL (xs : List (List Int)) : List (List Int) := xs.mergeSort fun a b => !ltL b a
theorem sortL_perm (xs : List (List Int)) : (sortL xs).Perm xs := List.mergeSort_perm _ _
theorem sortL_pw (xs : List (List Int)) : (sortL xs).Pairwise fun a b => ltL b a = false := by
  have := List.pairwise_mergeSort (le := fun a b : List Int => !ltL b a) (fun a b c h1 h2 => by
    simp only [Bool.not_eq_true'] at *
    exact ltL_tr h1 h2) (fun a b => by
    cases e : ltL b a with
    | false => rfl
    | true => simp [ltL_asym e]) xs
  exact this.imp fun h => by simpa using h
theorem sortL_of {xs ys : List (List Int)} (p : ys.Perm xs) (h : ys.Pairwise fun a b => ltL b a = false) : ys = sortL xs :=
  List.Perm.eq_of_pairwise (le := fun a b : List Int => ltL b a = false) (fun a b _ _ h1 h2 => ltL_eq h2 h1) h (sortL_pw xs) (p.trans (sortL_perm xs).symm)
def TupV (h : Heap) (v : Value) (ns : List Int) : Prop := ∃ a o its n, v = .ref a ∧ h.get? a = some o ∧ o.cls = .type "tuple" ∧ o.data = .seq its n ∧ IntsAre its.toList ns
theorem TupV.at {h g : Heap} {v : Value} {ns : List Int} (p : TupV h v ns) (k : ∀ b o, h.get? b = some o → o.cls = .type "tuple" → g.get? b = some o) : TupV g v ns :=
  let ⟨a, o, its, n, e, ho, c, d, i⟩ := p
  ⟨a, o, its, n, e, k _ _ ho c, c, d, i⟩
section
variable {prog : Program} {w : World} {A : Around} {E : Value → Shared → Prop} {s : Shared}
/-- two tuples' items in turn -/
theorem lexI {b fin : Bool} {Q : Bool → Shared → Prop} : ∀ {xs ys : List Value} {ns ms : List Int} (i : Nat), IntsAre xs ns → IntsAre ys ms → ((ns.length < ms.length ↔ fin = true) → True) →
    (∀ r, (∀ k, ns.take k = ms.take k → k = min ns.length ms.length → r = fin) → (¬ (ns.take (min ns.length ms.length) = ms.take (min ns.length ms.length)) → r = ltL ns ms) → Q r s) → PySem.W.KatLex prog w A b fin Q (xs.zip ys) i s
  | _, _, _, _, i, .nil, _, _, q => PySem.W.kat_nil (q fin (fun _ _ _ => rfl) fun z => by simp at z)
  | _, _, _, _, i, .cons n t r, .nil, _, q => PySem.W.kat_nil (q fin (fun _ _ _ => rfl) fun z => by simp at z)
  | _, _, _, _, i, .cons n t r1, .cons m u r2, _, q => by
    rw [List.zip_cons_cons]
    refine PySem.W.kat_cons (SeqAt.EqAt.int_int n t m u prog w _ _ ?_)
    refine PySem.W.kat_go (fun e1 => ?_) (fun e1 => ?_)
    · obtain rfl : n = m := by simpa using e1
      refine PySem.W.kat_yes (lexI (i + 1) r1 r2 (fun _ => trivial) fun r h1 h2 => q r (fun k hk hm => ?_) fun hn => ?_)
      · rw [List.length_cons, List.length_cons, Nat.succ_min_succ] at hm
        subst hm
        exact h1 _ (by simpa using hk) rfl
      · rw [h2 fun z => hn (by rw [List.length_cons, List.length_cons, Nat.succ_min_succ, List.take_succ_cons, List.take_succ_cons, z])]
        simp [ltL]
    · have ne : ¬ n = m := by simpa using e1
      have fin' : Q (decide (n < m)) s := q _ (fun k hk hm => by
        rw [List.length_cons, List.length_cons, Nat.succ_min_succ] at hm
        subst hm
        simp only [List.take_succ_cons, List.cons.injEq] at hk
        exact absurd hk.1 ne) fun _ => by simp [ltL, ne]
      refine PySem.W.kat_no ?_
      cases hb : (b && i == 0) with
      | true => exact oneLt_int fin'
      | false => exact PySem.W.kat_one _ _ (PyProof.Rows.lt_int fin')
theorem ltL_fin : ∀ {ns ms : List Int}, ns.take (min ns.length ms.length) = ms.take (min ns.length ms.length) → ltL ns ms = decide (ns.length < ms.length)
  | [], [], _ => rfl
  | [], _ :: _, _ => by simp [ltL]
  | _ :: _, [], _ => by simp [ltL]
  | x :: xs, y :: ys, h => by
    rw [List.length_cons, List.length_cons, Nat.succ_min_succ, List.take_succ_cons, List.take_succ_cons, List.cons.injEq] at h
    unfold ltL
    rw [if_pos h.1, ltL_fin h.2, List.length_cons, List.length_cons]
    simp
theorem tup_cmp {vs : List Value} {k : Value → List Int} {c : Bool} (hp : ∀ v ∈ vs, TupV s.heap v (k v)) : SrtO.Cmp prog w A s (tuples' c) (fun p => p.1 ∈ vs) (SrtO.lt2 fun v u => ltL (k v) (k u)) := by
  intro p q mp mq
  have g1 := hp _ mp
  have g2 := hp _ mq
  show wpAny (model prog w) A (keyLt' (tuples' c) p.1 q.1) (fun r s' => s' = s ∧ r = ltL (k p.1) (k q.1)) (fun _ _ => False) s
  generalize k p.1 = ns at g1 ⊢
  generalize k q.1 = ms at g2 ⊢
  obtain ⟨a, o, xs, n, e, ho, hc, hd, hi⟩ := g1
  obtain ⟨a', o', ys, n', e', ho', hc', hd', hi'⟩ := g2
  rw [e, e']
  refine PySem.W.kat_lt ho hd ho' hd' (lexI 0 hi hi' (fun _ => trivial) fun r h1 h2 => ⟨rfl, ?_⟩)
  by_cases z : ns.take (min ns.length ms.length) = ms.take (min ns.length ms.length)
  · rw [h1 _ z rfl, ltL_fin z, ← hi.length, ← hi'.length, Array.length_toList, Array.length_toList]
  · exact h2 z
theorem tup_firsts {h : Heap} {k : Value → List Int} : ∀ {vs : List Value}, (∀ v ∈ vs, TupV h v (k v) ∧ k v ≠ []) → ∃ fs : List Value, PySem.W.KatTups h vs fs ∧ fs.length = vs.length ∧ ∀ f ∈ fs, ∃ x t, f = Value.int x t
  | [], _ => ⟨[], trivial, rfl, fun _ z => nomatch z⟩
  | v :: vs, hp => by
    obtain ⟨fs, t1, t2, t3⟩ := tup_firsts (vs := vs) fun u hu => hp u (by simp [hu])
    obtain ⟨⟨a, o, xs, n, e, ho, hc, hd, hi⟩, ne⟩ := hp v (by simp)
    generalize k v = ns at hi ne
    obtain ⟨m, t, us, ms, e1⟩ : ∃ m t us ms, xs.toList = Value.int m t :: us ∧ ns = m :: ms := by
      generalize xs.toList = l at hi
      cases hi with
      | nil => exact absurd rfl ne
      | cons m t r => exact ⟨m, t, _, _, rfl, rfl⟩
    refine ⟨.int m t :: fs, ⟨⟨a, o, xs, n, e, ho, hc, hd, ?_⟩, t1⟩, by simp [t2], fun f hf => ?_⟩
    · rw [← Array.getElem?_toList, e1.1]
      rfl
    · rcases List.mem_cons.mp hf with rfl | hf
      · exact ⟨m, t, rfl⟩
      · exact t3 f hf
theorem tup_sortable {a : Addr} {vs : List Value} {k : Value → List Int} (h0 : 0 < vs.length) (hp : ∀ v ∈ vs, TupV s.heap v (k v) ∧ k v ≠ []) (ha : ∀ o, s.heap.get? a = some o → o.cls ≠ .type "tuple") : SrtO.SortableO prog w A s a vs fun v u => ltL (k v) (k u) := by
  intro g kp
  have hq : ∀ v ∈ vs, TupV g v (k v) ∧ k v ≠ [] := fun v hv => ⟨(hp v hv).1.at fun b o e c => kp b o (fun z => by subst z; exact ha o e c) e, (hp v hv).2⟩
  obtain ⟨fs, t1, t2, t3⟩ := tup_firsts hq
  refine ⟨tuples' true, fun Q E done => ?_, tup_cmp fun v hv => (hq v hv).1⟩
  refine PySem.W.kat_kind (T := .type "int") t1 (by omega) (fun f hf => ?_) (by rfl) ?_
  · obtain ⟨x, t, rfl⟩ := t3 f hf
    exact PySem.W.Looks.now
  · rw [show (Value.type "int" != Value.type "tuple") = true by decide +kernel]
    exact done
end
/-- sorted(xs), xs a list of tuples of whole numbers (none empty where there are two) -/
def rSortTs (K : PySem.W.Frag) : List V → Hp → VK → Prop := fun vs H Q => ∃ (a : Addr) (xs : List V) (k : V → List Int), vs = [V.ref a] ∧ SqL K H a xs ∧ (∀ x ∈ xs, ∃ t, x = V.ref t ∧ H t = some (.tup ((k x).map V.int)) ∧ (2 ≤ xs.length → k x ≠ [])) ∧
  ∀ ys p, ys.Pairwise (fun x y => ltL (k y) (k x) = false) → ys.Perm xs → H p = none → Q (.ref p) (upd H p (.lst ys))
theorem ints_vals : ∀ {ns : List Int} {us : List Value}, Vals (ns.map V.int) us → IntsAre us ns
  | [], _, .nil => .nil
  | n :: ns, _, .cons r t => by
    obtain ⟨u, rfl⟩ := r
    exact .cons n u (ints_vals t)
section
variable {X : Cx}
theorem cr_sortTs : CallR X (.builtin "sorted") (rSortTs X.K) := by
  intro pins s σ H vs us Q I r ⟨a, xs, k, e0, hs, hx, q⟩
  subst e0
  obtain ⟨its, rv, hl, hz⟩ := I.list hs
  obtain ⟨u, e3, ru⟩ := vals1 r
  subst e3
  obtain rfl : u = Value.ref a := ru
  obtain ⟨e1, e2⟩ := refs_back rv fun x m => (hx x m).imp fun t h => h.1
  have tv : ∀ v ∈ its, TupV s.heap v (k (backV v)) ∧ (2 ≤ xs.length → k (backV v) ≠ []) := fun v hv => by
    obtain ⟨t, rfl⟩ := e2 v hv
    have hm : V.ref t ∈ xs := by rw [e1]; exact List.mem_map.mpr ⟨_, hv, rfl⟩
    obtain ⟨t', e, ht, ne⟩ := hx _ hm
    cases e
    obtain ⟨_, its2, r2, o, ho, hc, n, hd⟩ := I.hok _ _ ht
    exact ⟨⟨t, o, _, n, rfl, ho, hc, hd, by rw [List.toList_toArray]; exact ints_vals r2⟩, ne⟩
  have zl : its.length = xs.length := by rw [rv.length]
  refine SrtO.sorted_ord (ltL_swo fun v => k (backV v)) hl.isList (by rw [zl]; exact hz) (fun h2 g b hb kk => ?_) fun out hs1 hs2 => ?_
  · refine tup_sortable (s := { s with heap := g }) (by omega) (fun v hv => ⟨(tv v hv).1.at fun c o e _ => (kk c o e).2, (tv v hv).2 (by omega)⟩) fun o e => ?_
    have e' : some o = some (seqObj "list" its.toArray 0) := e.symm.trans hb
    cases e'
    exact fun c => absurd (Value.type.inj c) (by decide)
  · obtain ⟨n, hn⟩ := PyProof.Rows.sortedAll_at s.heap its out.toArray
    have h3 : ∀ u ∈ out, ∃ b, u = Value.ref b := fun u hu => e2 u (hs2.perm.mem_iff.mp hu)
    have pm : (out.map backV).Perm xs := by rw [e1]; exact hs2.perm.map backV
    refine ⟨.ref (s.heap.objs.size + 1), upd H (s.heap.objs.size + 1) (.lst (out.map backV)), I.laid (t' := s.toks) (fun _ _ e => PyProof.Rows.sortedAll_old e) (Nat.le_succ _) ⟨by rw [pm.length_eq]; exact hz, out, n, vals_back h3, hn⟩, rfl, q _ _ ?_ pm (I.hok.fresh (Nat.le_succ _))⟩
    exact List.pairwise_map.mpr hs1
end
end Y

set_option Elab.async false
set_option linter.all false
set_option maxRecDepth 100000
namespace Y
open PySem PySem.Spec PyProof.Rows L2
theorem ltC_cons {x y : Nat} {xs ys : List Nat} : ltCps (x :: xs) (y :: ys) = true ↔ x < y ∨ (x = y ∧ ltCps xs ys = true) := by simp [ltCps]
theorem ltC_asym : ∀ {a b : List Nat}, ltCps a b = true → ltCps b a = false
  | [], [], h => by simp [ltCps] at h
  | [], _ :: _, _ => by simp [ltCps]
  | _ :: _, [], h => by simp [ltCps] at h
  | x :: xs, y :: ys, h => by
    rw [← Bool.not_eq_true, ltC_cons]
    rcases ltC_cons.mp h with h2 | ⟨rfl, h2⟩
    · rintro (z | ⟨z, _⟩) <;> omega
    · have := ltC_asym h2
      rintro (z | ⟨_, z⟩)
      · omega
      · rw [this] at z; cases z
theorem ltC_tr : ∀ {a b c : List Nat}, ltCps a b = true → ltCps b c = true → ltCps a c = true
  | [], _ :: _, _ :: _, _, _ => by simp [ltCps]
  | [], [], _, h, _ => by simp [ltCps] at h
  | _ :: _, [], _, h, _ => by simp [ltCps] at h
  | _, _ :: _, [], _, h => by simp [ltCps] at h
  | x :: xs, y :: ys, z :: zs, h1, h2 => by
    rw [ltC_cons] at *
    rcases h1 with h1 | ⟨rfl, h1⟩
    · rcases h2 with h2 | ⟨rfl, h2⟩
      · exact .inl (by omega)
      · exact .inl h1
    · rcases h2 with h2 | ⟨rfl, h2⟩
      · exact .inl h2
      · exact .inr ⟨rfl, ltC_tr h1 h2⟩
theorem ltC_tot : ∀ {a b : List Nat}, ltCps a b = false → ltCps b a = false → a = b
  | [], [], _, _ => rfl
  | [], _ :: _, h, _ => by simp [ltCps] at h
  | _ :: _, [], _, h => by simp [ltCps] at h
  | x :: xs, y :: ys, h1, h2 => by
    rw [← Bool.not_eq_true, ltC_cons] at h1 h2
    have e : x = y := by omega
    subst e
    rw [ltC_tot (a := xs) (b := ys) (Bool.not_eq_true _ ▸ fun z => h1 (.inr ⟨rfl, z⟩)) (Bool.not_eq_true _ ▸ fun z => h2 (.inr ⟨rfl, z⟩))]
theorem ltC_ntr {a b c : List Nat} (h1 : ltCps b a = false) (h2 : ltCps c b = false) : ltCps c a = false := by
  cases e : ltCps c a with
  | false => rfl
  | true =>
    cases e2 : ltCps a b with
    | true => rw [ltC_tr e e2] at h2; cases h2
    | false => rw [ltC_tot e2 h1] at e; rw [e] at h2; cases h2
def ltStr (x y : Str) : Bool := ltCps x.cps.toList y.cps.toList
theorem ltStr_tot {x y : Str} (h1 : ltStr x y = false) (h2 : ltStr y x = false) : x = y := by
  have e := ltC_tot h1 h2
  cases x; cases y
  simp at e
  rw [e]
def sortS (xs : List Str) : List Str := xs.mergeSort fun a b => !ltStr b a
theorem sortS_perm (xs : List Str) : (sortS xs).Perm xs := List.mergeSort_perm _ _
theorem sortS_pw (xs : List Str) : (sortS xs).Pairwise fun a b => ltStr b a = false := by
  have := List.pairwise_mergeSort (le := fun a b : Str => !ltStr b a) (fun a b c h1 h2 => by
    simp only [Bool.not_eq_true'] at *
    exact ltC_ntr h1 h2) (fun a b => by
    cases e : ltStr b a with
    | false => rfl
    | true =>
      have := ltC_asym e
      simp [ltStr, this]) xs
  exact this.imp fun h => by simpa using h
theorem sortS_of {xs ys : List Str} (p : ys.Perm xs) (h : ys.Pairwise fun a b => ltStr b a = false) : ys = sortS xs :=
  List.Perm.eq_of_pairwise (le := fun a b : Str => ltStr b a = false) (fun a b _ _ h1 h2 => ltStr_tot h2 h1) h (sortS_pw xs) (p.trans (sortS_perm xs).symm)
theorem rising_pw : ∀ {ys : List Str}, sortedS ys = true → ys.Pairwise fun a b => ltStr b a = false
  | [], _ => List.Pairwise.nil
  | [x], _ => List.pairwise_singleton _ _
  | x :: y :: r, h => by
    simp only [sortedS, risingS, Bool.and_eq_true, Bool.not_eq_true'] at h
    have ih := rising_pw (ys := y :: r) h.2
    refine List.pairwise_cons.mpr ⟨fun z hz => ?_, ih⟩
    rcases List.mem_cons.mp hz with rfl | hz
    · exact h.1
    · exact ltC_ntr h.1 ((List.pairwise_cons.mp ih).1 z hz)
def rSortSt (K : PySem.W.Frag) : List V → Hp → VK → Prop := fun vs H Q => ∃ (a : Addr) (xs : List Str), vs = [V.ref a] ∧ SqL K H a (xs.map V.str) ∧ ∀ p, H p = none → Q (.ref p) (upd H p (.lst ((sortS xs).map V.str)))
theorem cr_sortSt {X : Cx} : CallR X (.builtin "sorted") (rSortSt X.K) := by
  intro pins s σ H vs us Q I r ⟨a, xs, e0, hs, q⟩
  subst e0
  obtain ⟨its, rv, hl, hz⟩ := I.list hs
  rw [Vals.ref1 r]
  refine sorted_strsAny hl.isList rv.strs (by rw [← rv.length]; exact hz) fun out ys h1 h2 h3 => ?_
  obtain ⟨n, hn⟩ := PyProof.Rows.sortedAll_at s.heap its out
  have ey := sortS_of h2 (rising_pw h3)
  subst ey
  have zl : ((sortS xs).map V.str).length ≤ sizeLine := by rw [List.length_map, h2.length_eq]; rw [List.length_map] at hz; exact hz
  exact ⟨.ref _, upd H (s.heap.objs.size + 1) (.lst ((sortS xs).map V.str)), I.laid (t' := s.toks) (fun _ _ => PyProof.Rows.sortedAll_old) (Nat.le_succ _) ⟨zl, out.toList, n, vals_of_strs h1, hn⟩, rfl, q _ (I.hok.fresh (Nat.le_succ _))⟩
def intTup : D → Option (List Int)
  | .tup ds => intsOf ds
  | _ => none
def tupsOf : List D → Option (List (List Int))
  | [] => some []
  | d :: ds => match intTup d, tupsOf ds with
    | some n, some ns => some (n :: ns)
    | _, _ => none
def sortOk (xs : List (List Int)) : Bool := decide (xs.length < 2) || xs.all fun x => !x.isEmpty
def sortD : List D → R D
  | [.lst ds] => match intsOf ds with
    | some ns => .ok (.lst ((sortI ns).map D.int))
    | none => match strsOf ds with
    | some ss => .ok (.lst ((sortS ss).map D.str))
    | none => match tupsOf ds with
      | some xs => if sortOk xs = true then .ok (.lst ((sortL xs).map fun x => D.tup (x.map D.int))) else .stk
      | none => .stk
  | _ => .stk
def intV : V → Int
  | .int i => i
  | _ => 0
def keyV (H : Hp) : V → List Int
  | .ref t => match H t with
    | some (.tup ws) => ws.map intV
    | _ => []
  | _ => []
theorem ints_back (ns : List Int) : (ns.map V.int).map intV = ns := by
  rw [List.map_map]
  induction ns with
  | nil => rfl
  | cons x xs ih => simp [intV] at ih ⊢; exact ih
theorem reps_strs {K : PySem.W.Frag} {H : Hp} {P : Pr} : ∀ ns : List Str, Reps K H (ns.map D.str) P (ns.map V.str)
  | [] => Reps.nil
  | n :: ns => Reps.cons (by unfold Rep; rfl) (reps_strs ns)
section
variable {K : PySem.W.Frag} {X : Cx}
theorem tups_rep {H : Hp} {P : Pr} : ∀ {ds : List D} {xs : List (List Int)} {vs : List V}, tupsOf ds = some xs → Reps K H ds P vs → vs.map (keyV H) = xs ∧ ∀ v ∈ vs, ∃ t, v = V.ref t ∧ H t = some (.tup ((keyV H v).map V.int))
  | [], xs, vs, e, h => by simp [tupsOf] at e; subst e; rw [h.nil_iff]; simp
  | d :: ds, xs, vs, e, h => by
    obtain ⟨v, ws, rfl, h1, h2⟩ := h.cons_iff
    unfold tupsOf at e
    cases e1 : intTup d with
    | none => rw [e1] at e; simp at e
    | some n =>
      cases e2 : tupsOf ds with
      | none => rw [e1, e2] at e; simp at e
      | some ns =>
        rw [e1, e2] at e
        simp at e
        subst e
        obtain ⟨i1, i2⟩ := tups_rep e2 h2
        cases d <;> simp [intTup] at e1
        rename_i ds'
        unfold Rep at h1
        obtain ⟨t, us, rfl, ht, hr⟩ := h1
        rw [ints_rep e1 hr] at ht
        have kt : keyV H (.ref t) = n := by
          show (match H t with | some (.tup ws) => ws.map intV | _ => []) = n
          rw [ht]
          exact ints_back n
        refine ⟨by rw [List.map_cons, kt, i1], fun v hv => ?_⟩
        rcases List.mem_cons.mp hv with rfl | hv
        · exact ⟨t, rfl, by rw [kt]; exact ht⟩
        · exact i2 v hv
theorem cd_sort : CallR X (.builtin "sorted") (rDs X.K sortD) := by
  intro pins s σ H xs us Q I r ⟨P, ds, dz, hm, rs, e, out⟩
  unfold sortD at e
  split at e
  · split at e
    · rename_i ds0 _ ns ei
      refine cd_sortedI pins s σ H xs us Q I r ⟨P, _, dz, hm, rs, ?_, out⟩
      show (match intsOf ds0 with | some ns => R.ok (D.lst ((sortI ns).map D.int)) | none => .stk) = _
      rw [ei]
      exact e
    · split at e
      · rename_i ss es
        cases e
        obtain ⟨v, rfl, r1⟩ := rs.get1
        obtain ⟨a, vs, rfl, h1, h2⟩ := r1.lst
        rw [strs_rep es h2] at h1
        exact cr_sortSt pins s σ H _ us Q I r ⟨a, ss, rfl, SqL.of h1, fun p hp => out_lst hm out (fun _ _ => reps_strs _) p hp⟩
      split at e
      · rename_i nss et
        split at e
        · rename_i ok
          cases e
          obtain ⟨v, rfl, r1⟩ := rs.get1
          obtain ⟨a, vs, rfl, h1, h2⟩ := r1.lst
          obtain ⟨k1, k2⟩ := tups_rep et h2
          have lv : vs.length = nss.length := by rw [← k1, List.length_map]
          refine cr_sortTs pins s σ H _ us Q I r ⟨a, vs, keyV H, rfl, SqL.of h1, fun x hx => ?_, fun ys p pw pm hp => ?_⟩
          · obtain ⟨t, e1, e2⟩ := k2 x hx
            refine ⟨t, e1, e2, fun h2' => ?_⟩
            unfold sortOk at ok
            rw [decide_eq_false (by omega), Bool.false_or, List.all_eq_true] at ok
            have := ok (keyV H x) (by rw [← k1]; exact List.mem_map.mpr ⟨x, hx, rfl⟩)
            intro z
            rw [z] at this
            simp at this
          · have sm : Same H (upd H p (.lst ys)) := fun b o eb => by rw [upd_ne (ne_of_none eb hp)]; exact eb
            have es : ys.map (keyV H) = sortL nss := sortL_of (by rw [← k1]; exact pm.map _) (List.pairwise_map.mpr pw)
            refine out _ _ sm ?_ fun _ b eb => by cases eb; exact hp
            unfold Rep
            refine ⟨p, ys, rfl, fun z => (hm p z).some hp, upd_same, ?_⟩
            rw [← es, List.map_map]
            have : ∀ (zs : List V) (P' : Pr), (∀ z ∈ zs, z ∈ vs) → Reps X.K (upd H p (.lst ys)) (zs.map ((fun x => D.tup (x.map D.int)) ∘ keyV H)) P' zs := fun zs P' => by
              induction zs with
              | nil => intro _; exact Reps.nil
              | cons z zs ih =>
                intro hz
                obtain ⟨t, e1, e2⟩ := k2 z (hz z (by simp))
                refine Reps.cons ?_ (ih fun y hy => hz y (by simp [hy]))
                show Rep X.K _ (D.tup ((keyV H z).map D.int)) P' z
                unfold Rep
                exact ⟨t, _, e1, sm _ _ e2, reps_ints _⟩
            exact this ys _ fun z hz => pm.mem_iff.mp hz
        · cases e
      · cases e
  · cases e
end
theorem tups_map : ∀ xs : List (List Int), tupsOf (xs.map fun x => D.tup (x.map D.int)) = some xs
  | [] => rfl
  | x :: xs => by
    simp only [List.map_cons, tupsOf, intTup, ints_map, tups_map xs]
@[simp] theorem d_sortN {xs : List Int} : sortD [.lst (xs.map D.int)] = .ok (.lst ((sortI xs).map D.int)) := by
  show (match intsOf (xs.map .int) with | some ns => R.ok (D.lst ((sortI ns).map D.int)) | none => _) = _
  rw [ints_map]
theorem sortD_tups {x : List Int} {xs : List (List Int)} (h : sortOk (x :: xs) = true) : sortD [.lst ((x :: xs).map fun x => D.tup (x.map D.int))] = .ok (.lst ((sortL (x :: xs)).map fun x => D.tup (x.map D.int))) := by
  have e : intsOf ((x :: xs).map fun x => D.tup (x.map D.int)) = none := rfl
  have e2 : strsOf ((x :: xs).map fun x => D.tup (x.map D.int)) = none := rfl
  unfold sortD
  simp only [e, e2, tups_map, h, if_true]
end Y

set_option Elab.async false
set_option linter.all false
set_option maxRecDepth 100000
namespace Y
open PySem PySem.Spec PyProof.Rows L2
def whileN (t : BM) (body : SM) (vs : List Nat) : Nat → Y.Env → R (Fl × Y.Env)
  | 0, _ => .stk
  | n + 1, ρ => do
    let (k, ρ1) ← t ρ
    if k = true then do
      let (f, ρ2) ← body ρ1
      match f with
      | .bk => pure (.nx, ρ2)
      | .rt h => pure (.rt h, ρ2)
      | _ => whileN t body vs n (wipeE ρ2 vs)
    else pure (.nx, ρ1)
open Classical in
noncomputable def sWhile (t : BM) (body : SM) (vs : List Nat) : SM := fun ρ => if h : ∃ n, whileN t body vs n ρ ≠ .stk then whileN t body vs h.choose ρ else .stk
theorem whileN_up {t : BM} {body : SM} {vs : List Nat} : ∀ {n : Nat} {ρ : Y.Env}, whileN t body vs n ρ ≠ .stk → whileN t body vs (n + 1) ρ = whileN t body vs n ρ
  | 0, ρ, h => absurd rfl h
  | n + 1, ρ, h => by
    unfold whileN at h
    conv => lhs; unfold whileN
    conv => rhs; unfold whileN
    cases e : t ρ with
    | stk => rfl
    | er c ds => rfl
    | ok p =>
      obtain ⟨k, ρ1⟩ := p
      rw [e] at h
      simp only [R.bind_ok] at h ⊢
      cases k with
      | false => rfl
      | true =>
        simp only [if_true] at h ⊢
        cases e2 : body ρ1 with
        | stk => rfl
        | er c ds => rfl
        | ok q =>
          obtain ⟨f, ρ2⟩ := q
          rw [e2] at h
          simp only [R.bind_ok] at h ⊢
          cases f with
          | bk => rfl
          | rt _ => rfl
          | nx => exact whileN_up h
          | ct => exact whileN_up h
theorem whileN_le {t : BM} {body : SM} {vs : List Nat} {n : Nat} {ρ : Y.Env} (h : whileN t body vs n ρ ≠ .stk) : ∀ m, whileN t body vs (n + m) ρ = whileN t body vs n ρ
  | 0 => rfl
  | m + 1 => by
    have ih := whileN_le h m
    rw [← Nat.add_assoc, whileN_up (by rw [ih]; exact h), ih]
/-- a run of so many turns tells what the loop yields -/
theorem sWhile_of {t : BM} {body : SM} {vs : List Nat} {n : Nat} {ρ : Y.Env} {a : Fl × Y.Env} (h : whileN t body vs n ρ = .ok a) : sWhile t body vs ρ = .ok a := by
  have hx : ∃ n, whileN t body vs n ρ ≠ .stk := ⟨n, by rw [h]; intro z; cases z⟩
  unfold sWhile
  rw [dif_pos hx]
  have h2 := hx.choose_spec
  rcases Nat.le_total n hx.choose with l | l
  · obtain ⟨m, e⟩ := Nat.exists_eq_add_of_le l
    rw [e, whileN_le (by rw [h]; intro z; cases z), h]
  · obtain ⟨m, e⟩ := Nat.exists_eq_add_of_le l
    rw [← whileN_le h2 m, ← e, h]
section
variable {X : Cx} {P0 : Pr} {O W U : List Nat} {E : EK} {c : Expr} {pos : Pos} {m : SM}
theorem cs_while {t : BM} {vs : List Nat} {xs : List Stmt} (hp : PassesOwn (model X.prog X.w) X.A X.env X.xe) (hc : CT X P0 O W E c t) (hb : CSs X P0 O W U E xs m) : CS X P0 O W U E (.While c xs [] pos) (sWhile t m vs) := PS.imp (ps_while hp hc hb) fun D σ H ⟨ρ, S, h⟩ => by
  let Post : Fl × Y.Env → Prop := fun a => ∀ σ' H', Sim X.K P0 O W a.2 σ' H' → Tr O U σ H σ' H' → σ'.length = σ.length → Fin X.K P0 O H D σ' H' a.1
  have h : Res E O σ H (sWhile t m vs ρ) Post := h
  unfold sWhile at h
  by_cases hx : ∃ n, whileN t m vs n ρ ≠ .stk
  · rw [dif_pos hx] at h
    refine ⟨fun k σx Hx => ∃ ρx, Sim X.K P0 O W ρx σx Hx ∧ Tr O U σ H σx Hx ∧ σx.length = σ.length ∧ Res E O σx Hx (whileN t m vs k ρx) Post, ⟨_, ρ, S, .refl, rfl, h⟩, ?_⟩
    rintro k σx Hx ⟨ρx, Sx, tx, lx, qx⟩
    cases k with
    | zero => exact qx.elim
    | succ k =>
      unfold whileN at qx
      refine ⟨ρx, Sx, (qx.of_bind.down Sx.sub).mono fun ⟨b, ρ1⟩ q1 H1 S1 k1 => ?_⟩
      have t1 : Tr O U σx Hx σx H1 := Tr.of Sx.sub k1
      cases b with
      | false =>
        refine (if_neg Bool.false_ne_true).mpr ?_
        exact q1 σx H1 S1 (tx.trans t1) lx
      | true =>
        refine (if_pos rfl).mpr ⟨fun σ' H' => ∃ ρ', Sim X.K P0 O W ρ' σ' H' ∧ Tr O U σ H σ' H' ∧ σ'.length = σ.length ∧ Res E O σ' H' (whileN t m vs k ρ') Post, fun σ' H' n => ⟨k, Nat.lt_succ_self k, n⟩, ρ1, S1, ?_⟩
        have q1 : Res E O σx Hx (m ρ1 >>= fun p => match p.1 with | .bk => pure (.nx, p.2) | .rt h => pure (.rt h, p.2) | _ => whileN t m vs k (wipeE p.2 vs)) Post := q1
        refine (Res.keepT q1.of_bind t1).mono fun ⟨f, ρ2⟩ q2 σ3 H3 S3 t3 l3 => ?_
        have t4 : Tr O U σx Hx σ3 H3 := t1.trans t3
        have t5 : Tr O U σ H σ3 H3 := tx.trans t4
        have l5 : σ3.length = σ.length := l3.trans lx
        cases f with
        | nx => exact ⟨wipeE ρ2 vs, S3.wipe vs, t5, l5, Res.keepT q2 t4⟩
        | ct => exact ⟨wipeE ρ2 vs, S3.wipe vs, t5, l5, Res.keepT q2 t4⟩
        | bk => exact q2 σ3 H3 S3 t5 l5
        | rt hd =>
          intro v r
          exact q2 σ3 H3 S3 t5 l5 v (r.back fun b e => (tx.trans t1).some b e)
  · rw [dif_neg hx] at h
    exact h.elim
end
end Y

set_option Elab.async false
set_option linter.all false
set_option maxRecDepth 100000
namespace Y
open PySem PySem.Spec PyProof.Rows L2
section
variable {X : Cx} {P0 : Pr} {O W U : List Nat} {E : EK} {a e : Expr} {ma mb : EM} {pos : Pos}
end
end Y

set_option Elab.async false
set_option linter.all false
set_option maxRecDepth 100000
namespace Y
open PySem PySem.Spec PyProof.Rows L2
def intAt (i : Nat) (ρ : Y.Env) : R Int := match ρ[i]? with
  | some (some (.int n)) => .ok n
  | _ => .stk
theorem intAt_ok {i : Nat} {ρ : Y.Env} {n : Int} (h : intAt i ρ = .ok n) : ρ[i]? = some (some (.int n)) := by
  unfold intAt at h
  split at h
  · rename_i e; cases h; exact e
  · cases h
def sAug (f : Int → Int → Int) (i : Nat) (m : EM) : SM := fun ρ => do
  let n ← (intAt i ρ).nox
  let (h, ρ1) ← m ρ
  let d ← h.v.nox
  match d with
  | .int k => pure (.nx, ρ1.set i (some (.int (f n k))))
  | _ => .stk
section
variable {X : Cx} {P0 : Pr} {O W U : List Nat} {E : EK} {e : Expr} {ma : EM} {pos : Pos}
theorem cs_aug {op : Operator} {f : Int → Int → Int} {i : Nat} {x : Str} {p : Pos} (hN : X.N.Nodup) (hp : PIp X op (ipI f)) (h : CEx X P0 O W E e ma) (ho : i ∉ O := by decide) (hu : ∀ i ∈ U, i ∈ O := by decide) (hi : X.N[i]? = some x := by rfl) (hx : Loc X.env.scope x := by first | exact Or.inl rfl | exact Or.inr rfl)
    (hf : X.fn x = true ∨ X.env.scope.names.lookup x = some .local := by first | exact .inl rfl | exact .inr rfl) : CS X P0 O W U E (.AugAssign (.Name x p) op e pos) (sAug f i ma) := PS.imp (ps_aug hN hi hx h hp hf) fun D σ H ⟨ρ, S, h⟩ => by
  obtain ⟨n, e0, h⟩ := h.of_nox
  obtain ⟨v0, g1, g2⟩ := S.val i _ (intAt_ok e0) ho
  unfold Rep at g2
  subst g2
  refine ⟨_, g1, ρ, S, (h.of_bind.down S.sub).mono fun ⟨hd, ρ1⟩ q v H1 S1 k1 r1 => ?_⟩
  obtain ⟨d, e1, q⟩ := q.of_nox
  have rd := r1.v e1
  cases d <;> first | (exact q.elim) | skip
  rename_i k
  unfold Rep at rd
  subst rd
  refine ⟨n, k, rfl, rfl, ?_⟩
  exact q _ H1 (S1.set ho (by unfold Rep; rfl)) ((Tr.of S.sub k1).trans (Tr.slots (is := [i]) (by simpa using ho) hu fun j hj => List.getElem?_set_ne fun z => hj (by simp [z]))) (by simp)
end
variable {ρ : Y.Env}
@[simp] theorem e_aug {f : Int → Int → Int} {i : Nat} {m : EM} : sAug f i m ρ = ((intAt i ρ).nox >>= fun n => m ρ >>= fun p => p.1.v.nox >>= fun d => match d with | .int k => R.ok (.nx, p.2.set i (some (.int (f n k)))) | _ => .stk) := by
  unfold sAug; congr
@[simp] theorem e_iat {i : Nat} : intAt i ρ = (match ρ[i]? with | some (some (.int n)) => .ok n | _ => .stk) := id rfl
end Y

set_option Elab.async false
set_option linter.all false
set_option maxRecDepth 100000
namespace Y
open PySem PySem.Spec PyProof.Rows L2
def minI : Int → List Int → Int
  | n, [] => n
  | n, m :: ms => minI (min n m) ms
theorem minI_mem : ∀ {ms : List Int} {n : Int}, minI n ms ∈ n :: ms
  | [], n => by simp [minI]
  | m :: ms, n => by
    have := minI_mem (ms := ms) (n := min n m)
    rcases List.mem_cons.mp this with e | h
    · rw [minI, e]
      rcases Int.le_total n m with l | l
      · rw [Int.min_eq_left l]; simp
      · rw [Int.min_eq_right l]; simp
    · rw [minI]; simp [h]
theorem minI_le : ∀ {ms : List Int} {n y : Int}, y ∈ n :: ms → minI n ms ≤ y
  | [], n, y, h => by simp at h; simp [minI, h]
  | m :: ms, n, y, h => by
    rw [minI]
    rcases List.mem_cons.mp h with e | h
    · exact Int.le_trans (minI_le (ms := ms) (n := min n m) (y := min n m) (by simp)) (by rw [e]; exact Int.min_le_left n m)
    · rcases List.mem_cons.mp h with e | h
      · exact Int.le_trans (minI_le (ms := ms) (n := min n m) (y := min n m) (by simp)) (by rw [e]; exact Int.min_le_right n m)
      · exact minI_le (by simp [h])
section
variable {X : Cx}
end
end Y

set_option Elab.async false
set_option linter.all false
set_option maxRecDepth 100000
namespace Y
open PySem PySem.Spec PyProof.Rows L2
theorem extT_meets (l b : Addr) (xs ys : Array Value) (n k : Nat) (dd : Option Addr) (sl : Array (Option Value)) (c0 : ¬ (!xs.isEmpty && Builtin.List.listTooLong (xs.size + ys.size)) = true) (c1 : xs.size ≤ sizeLine) (c2 : xs.size + ys.size ≤ sizeLine + 1) :
    Meets (Builtin.«list.extend» ⟨[.ref l, .ref b], []⟩) (fun _ R s => s.heap.get? l = some { cls := .type "list", dict := none, data := .seq xs n, slots := #[] } ∧ s.heap.get? b = some { cls := .type "tuple", dict := dd, data := .seq ys k, slots := sl } ∧
      R (.ok (.ret Value.none)) { s with heap := s.heap.update l (Obj.mapSeq fun x => x ++ ys), toks := s.toks }) :=
  .of_wp fun prog w A R s ⟨hl, hb, done⟩ => by
    obtain ⟨hp, g, d, tk, os⟩ := s
    have g1 := AutoSeq1.idx_int
    have g2 := AutoSeq1.sub_tuple_tuple
    have g3 := AutoSeq1.sub_list_list
    have g4 := AutoSeq1.sub_tuple_list
    have g5 := AutoSeq1.sub_list_tuple
    have z : (xs ++ ys).size ≤ sizeLine + 1 := by
      rw [Array.size_append]
      exact c2
    wp_walk using (wpAny_updateSeq hl rfl (hz := c1) (_hz' := z)), wpAny_loadPart' hl, wpAny_loadPart' hb
    exact ⟨_, rfl, done⟩
def rExtendT (K : PySem.W.Frag) : V → List V → Hp → VK → Prop := fun x vs H Q => ∃ l b xs zs, x = .ref l ∧ vs = [.ref b] ∧ H l = some (.lst xs) ∧ SqT K H b zs ∧ xs.length + zs.length ≤ sizeLine ∧ Q .non (upd H l (.lst (xs ++ zs)))
theorem mt_extendT {X : Cx} : MtR X "list.extend" (rExtendT X.K) := by
  intro pins s σ H x vs v us Q I rx rv ⟨l, b, xs, zs, ex, ev, hH, hB, hz, q⟩
  subst ex ev
  cases rx
  obtain ⟨u, rfl, ru⟩ := rv.one
  cases ru
  obtain ⟨z, its, n, r, hl, e⟩ := I.lstM hH
  obtain ⟨its2, r2, ⟨o, e2, ec, k, ed⟩, _⟩ := I.tuple hB
  obtain ⟨cls, dd, data, sl⟩ := o
  simp only at ec ed
  subst ec ed
  have l2 := r2.length
  have sz : its.toArray.size + its2.toArray.size ≤ sizeLine := by simp; omega
  refine call_meets F.slot_list_extend ⟨_, e, rfl⟩ F.entry_list_extend (F.args_list_extend_2 _ _) (extT_meets l b its.toArray its2.toArray n k dd sl (by rw [notLongL sz]; simp) (by simp; omega) (by omega)) ⟨e, e2, ?_⟩
  exact ⟨.non, _, I.lset (its' := its ++ its2) hH e (by simp) (r.append r2) (by rw [List.length_append]; omega), rfl, q⟩
def sExt (i : Nat) (m : EM) : SM := fun ρ => do
  let _ ← (lstAt i ρ).nox
  let (h, ρ1) ← m ρ
  let d ← (h.d ρ1).nox
  let ds ← (lstAt i ρ1).nox
  match d with
  | .lst es => if szOk (ds.length + es.length) = true then pure (.nx, ρ1.set i (some (.lst (ds ++ es)))) else .stk
  | .tup es => if szOk (ds.length + es.length) = true then pure (.nx, ρ1.set i (some (.lst (ds ++ es)))) else .stk
  | _ => .stk
section
variable {K : PySem.W.Frag} {X : Cx} {P0 : Pr} {O W U : List Nat} {E : EK} {e : Expr} {ma : EM} {pos : Pos}
def rExtA (K : PySem.W.Frag) : V → List V → Hp → VK → Prop := fun x vs H Q => rExtend x vs H Q ∨ rExtendT K x vs H Q
theorem mt_extA : MtR X "list.extend" (rExtA X.K) := fun pins s σ H x vs v us Q I rx rv h => h.elim (mt_extend pins s σ H x vs v us Q I rx rv) (mt_extendT pins s σ H x vs v us Q I rx rv)
theorem tM_ext {i : Nat} (hi : i ∈ O) (D : Ends) (σ : St) (H : Hp) (h : tSt K P0 O W U E (sExt i ma) D σ H) : tDrop (tBM K "list" (rExtA K) (tVar i) (tCons (tM K P0 O W E ma) tNil)) D σ H := by
  obtain ⟨ρ, S, h⟩ := h
  obtain ⟨ds0, e0, h⟩ := h.of_nox
  obtain ⟨l, vs0, h1, h2, _⟩ := S.lst hi (lstAt_ok e0)
  refine ⟨.ref l, h1, .inl ⟨rfl, _, SqL.of h2⟩, ρ, S, (h.of_bind.down S.sub).mono fun ⟨hd, ρ1⟩ q v H1 S1 k1 r1 => ?_⟩
  obtain ⟨d, e1, q⟩ := q.of_nox
  obtain ⟨ds, e2, q⟩ := q.of_nox
  obtain ⟨l', vs, h1', h3, h4⟩ := S1.lst hi (lstAt_ok e2)
  rw [h1] at h1'
  cases h1'
  have rd := HdR.d S1 r1 e1
  cases d <;> first | (exact q.elim) | skip
  · rename_i es _
    have rd : Rep K H1 (.tup es) (FA P0 O σ) v := rd
    unfold Rep at rd
    obtain ⟨b, ws, rfl, h5, h6⟩ := rd
    have q : Res E O σ H (if szOk (ds.length + es.length) = true then R.ok (Fl.nx, ρ1.set i (some (.lst (ds ++ es)))) else .stk) _ := q
    by_cases c : szOk (ds.length + es.length) = true
    · rw [if_pos c] at q
      have c := of_decide_eq_true c
      exact .inr ⟨l, b, vs, ws, rfl, rfl, h3, SqT.of h5, by rw [h4.length, h6.length]; omega, q σ _ (S1.lstW hi h1 h3 (h4.append h6)) (Tr.ownW S.sub k1 hi h1) rfl⟩
    · rw [if_neg c] at q
      exact q.elim
  · rename_i es _
    obtain ⟨b, ws, rfl, h5, h6⟩ := rd
    have q : Res E O σ H (if szOk (ds.length + es.length) = true then R.ok (Fl.nx, ρ1.set i (some (.lst (ds ++ es)))) else .stk) _ := q
    by_cases c : szOk (ds.length + es.length) = true
    · rw [if_pos c] at q
      have c := of_decide_eq_true c
      exact .inl ⟨l, b, vs, ws, rfl, rfl, h3, h5, by rw [h4.length, h6.length]; omega, q σ _ (S1.lstW hi h1 h3 (h4.append h6)) (Tr.ownW S.sub k1 hi h1) rfl⟩
    · rw [if_neg c] at q
      exact q.elim
theorem cs_ext {i : Nat} {x : Str} {p ap cp : Pos} (h : CEx X P0 O W E e ma) (hi : i ∈ O := by decide) (hx : X.N[i]? = some x := by rfl) (hv : Vis X.env.scope x := by first | exact Or.inl rfl | exact Or.inr (Or.inl rfl) | exact Or.inr (Or.inr rfl)) (hd : (x == ("__debug__" : Str)) = false := by decide) (hcd : (x == ("__classdict__" : Str)) = false := by decide)
    (he : starEach [e] X.env = (false, eval e X.env) :: starEach [] X.env := by rfl) (hpl : (backTo cp (starEach [] X.env)).any (·.1) = false := by rfl) (hbase : attributeBase (.Name x p) "extend" X.env (eval (.Name x p) X.env) = eval (.Name x p) X.env := by rfl) (hline : (ap.endLine == cp.line) = true := by rfl)
    (hfew : Few X cp [e] := by rfl) (hsw : swapsWith (.Call (.Attribute (.Name x p) "extend" ap) [e] [] cp) none pos.line X.env = pure false := by rfl) :
    CS X P0 O W U E (.Expr (.Call (.Attribute (.Name x p) "extend" ap) [e] [] cp) pos) (sExt i ma) :=
  PS.imp (ps_expr (pe_bm PySem.F.plainAttrs_list PySem.F.slot_list_extend PySem.F.type_list_extend mt_extA (pe_var (i := i) hx hv hd hcd) (pa_cons h pa_nil he) hbase hfew hline he hpl) hsw) (tM_ext hi)
end
variable {ρ : Y.Env}
@[simp] theorem e_ext {i : Nat} {m : EM} : sExt i m ρ = ((lstAt i ρ).nox >>= fun _ => m ρ >>= fun p => (p.1.d p.2).nox >>= fun d => (lstAt i p.2).nox >>= fun ds => match d with | .lst es => (if szOk (ds.length + es.length) = true then R.ok (.nx, p.2.set i (some (.lst (ds ++ es)))) else .stk) | .tup es => (if szOk (ds.length + es.length) = true then R.ok (.nx, p.2.set i (some (.lst (ds ++ es)))) else .stk) | _ => .stk) := by
  unfold sExt; congr
end Y

set_option Elab.async false
set_option linter.all false
set_option maxRecDepth 100000
namespace Y
open PySem PySem.Spec PyProof.Rows L2
variable {ρ : Y.Env}
@[simp] theorem e_rg1 {l : Bool} {m : EM} : cRg1 l m ρ = (m ρ >>= fun p => p.1.v.nox >>= fun d => match d with | .int n => (if rgB 0 n = true then R.ok (.fr (if l = true then .lst (rgD 0 n) else .tup (rgD 0 n)), p.2) else .stk) | _ => .stk) := by
  unfold cRg1; congr
@[simp] theorem e_pop {i : Nat} : cPop i ρ = ((lstAt i ρ).nox >>= fun ds => match ds[ds.length - 1]? with | some d => R.ok (.vl d, ρ.set i (some (.lst ds.dropLast))) | none => .stk) := by
  unfold cPop; congr
@[simp] theorem e_popAt {i : Nat} {m : EM} : cPopAt i m ρ = ((lstAt i ρ).nox >>= fun _ => m ρ >>= fun p => p.1.v.nox >>= fun d => match d with | .int z => ((lstAt i p.2).nox >>= fun ds => popRes i ds z p.2) | _ => .stk) := by
  unfold cPopAt; congr
theorem rgB_of {n : Nat} (h : n ≤ 16777216) : rgB 0 n = true := by
  unfold rgB
  rw [rngOk_of (by omega) (by omega), rngOk_of (by omega) (by omega)]
  simp; omega
theorem rgD_nat {n : Nat} : rgD 0 n = (List.range n).map fun k : Nat => D.int (k : Nat) := by unfold rgD; simp
end Y

set_option Elab.async false
set_option linter.all false
set_option maxRecDepth 100000
namespace Y
open PySem PySem.Spec PyProof.Rows L2
inductive Kd where
  | l (a : Addr) | t (a : Addr) | s (z : Str)
def strV (z : Str) : List V := z.cps.toList.map fun c => V.str ⟨#[c]⟩
def Kd.has (K : PySem.W.Frag) (H : Hp) : Kd → List V → Prop
  | .l a, xs => SqL K H a xs
  | .t a, xs => SqT K H a xs
  | .s z, xs => xs = strV z
def Kd.val : Kd → V
  | .l a => .ref a
  | .t a => .ref a
  | .s z => .str z
def Kd.lo : Kd → Nat → Prop
  | .l a, n => a < n
  | .t a, n => a < n
  | .s _, _ => True
/-- the iterator it over it, i items told -/
def Kd.at (it : Addr) (tk : Tok) : Kd → Nat → Heap → Prop
  | .l a, i, h => h.IsListIter it a i
  | .t a, i, h => h.IsTupleIter it a i
  | .s z, i, h => h.IsStrIter it (strIterType z) z tk i
theorem Kd.at_ob {k : Kd} {it : Addr} {tk : Tok} {i : Nat} {h : Heap} (x : k.at it tk i h) : ∃ o, h.get? it = some o ∧ ∀ v, o.data ≠ .cell v := by
  cases k with
  | l a => obtain ⟨o, e, _, d⟩ := x; exact ⟨o, e, fun v q => by rw [d] at q; cases q⟩
  | t a => obtain ⟨o, e, _, d⟩ := x; exact ⟨o, e, fun v q => by rw [d] at q; cases q⟩
  | s z => obtain ⟨o, e, _, d⟩ := x; exact ⟨o, e, fun v q => by rw [d] at q; cases q⟩
theorem Kd.at_k {k : Kd} {it : Addr} {tk : Tok} {i : Nat} {h h' : Heap} (x : k.at it tk i h) (q : ∀ o, h.get? it = some o → h'.get? it = some o) : k.at it tk i h' := by
  cases k with
  | l a => obtain ⟨o, e, r⟩ := x; exact ⟨o, q o e, r⟩
  | t a => obtain ⟨o, e, r⟩ := x; exact ⟨o, q o e, r⟩
  | s z => obtain ⟨o, e, r⟩ := x; exact ⟨o, q o e, r⟩
theorem vals_at : ∀ {xs : List V} {us : List Value} {j : Nat} {u : Value}, Vals xs us → us[j]? = some u → ∃ x, xs[j]? = some x ∧ RelV x u
  | _, _, _, _, .nil, e => by simp at e
  | x :: xs, _, 0, _, .cons r _, e => by simp at e; subst e; exact ⟨x, rfl, r⟩
  | x :: xs, _, j + 1, _, .cons _ t, e => by simpa using vals_at (j := j) t (by simpa using e)
section
variable {X : Cx} {pins : List (Addr × Obj)} {σ : St} {H : Hp} {s : Shared}
theorem Kd.inj {k : Kd} {xs ys : List V} (I : Inv X pins σ H s) (h : k.has X.K H xs) (h2 : k.has X.K H ys) : xs = ys := by
  cases k with
  | l a => exact I.list_inj h h2
  | t a => exact I.tuple_inj h h2
  | s z => exact Eq.trans h (Eq.symm h2)
/-- what an iterator over it draws -/
structure Kd.Drw (X : Cx) (A : Around) (k : Kd) (it : Addr) (tk : Tok) (xs : List V) (fp : List Addr) (P : Nat → Value → Prop) (S : Nat → Heap → Prop) : Prop where
  dr : Draws X.prog X.w A it fp xs.length P S
  mem : it ∈ fp
  lo : ∀ b ∈ fp, b = it ∨ ∃ a, b = a ∧ (k = .l a ∨ k = .t a)
  back : ∀ j h, S j h → k.at it tk j h
  item : ∀ j v, P j v → ∃ x, xs[j]? = some x ∧ RelV x v
theorem Kd.draw {A : Around} {k : Kd} {it : Addr} {tk : Tok} {i : Nat} {xs : List V} (hh : A.handled = none) (I : Inv X pins σ H s) (h : k.has X.K H xs) (lo : ∀ a, k = .l a ∨ k = .t a → a ≠ it) (st : k.at it tk i s.heap) : ∃ fp P S, Kd.Drw X A k it tk xs fp P S ∧ S i s.heap := by
  cases k with
  | l a =>
    obtain ⟨its, rv, p, _⟩ := I.list h
    have hl : its.toArray.size = xs.length := by simp [rv.length]
    have D := Draws.list (prog := X.prog) (w := X.w) hh it a (lo a (.inl rfl)) its.toArray
    rw [hl] at D
    exact ⟨_, _, _, ⟨D, by simp, fun b hb => by simpa [eq_comm] using hb, fun j h z => z.1, fun j v z => by
      rw [List.getElem?_toArray] at z
      exact vals_at rv z⟩, st, p.isList⟩
  | t a =>
    obtain ⟨its, rv, p, _⟩ := I.tuple h
    have hl : its.toArray.size = xs.length := by simp [rv.length]
    have D := Draws.tuple (prog := X.prog) (w := X.w) hh it a (lo a (.inr rfl)) its.toArray
    rw [hl] at D
    exact ⟨_, _, _, ⟨D, by simp, fun b hb => by simpa [eq_comm] using hb, fun j h z => z.1, fun j v z => by
      rw [List.getElem?_toArray] at z
      exact vals_at rv z⟩, st, p⟩
  | s z =>
    have h : xs = strV z := h
    have hl : z.cps.size = xs.length := by rw [h]; simp [strV]
    have D := Draws.text (prog := X.prog) (w := X.w) hh it z tk
    rw [hl] at D
    exact ⟨_, _, _, ⟨D, by simp, fun b hb => .inl (by simpa using hb), fun j h z => z, fun j v ⟨c, u, e1, e2⟩ => by
      refine ⟨.str ⟨#[c]⟩, ?_, u, e2⟩
      rw [h, strV, List.getElem?_map, Array.getElem?_toList, e1]
      rfl⟩, st⟩
end
theorem ad {a b : Nat} (h : ¬ a = b) : @Ne Addr a b := h
/-- five cells that lie apart, from n on -/
structure Cells5 (n : Nat) (k1 k2 : Kd) : Prop where
  lo1 : k1.lo n
  lo2 : k2.lo n
theorem Kd.lo_ne {k : Kd} {n : Nat} (h : k.lo n) (a : Nat) (e : k = .l a ∨ k = .t a) : a < n := by
  rcases e with rfl | rfl <;> exact h
theorem sep5 {X : Cx} {A : Around} {k1 k2 : Kd} {n : Nat} {t1 t2 : Tok} {xs ys : List V} {fp1 fp2 : List Addr} {P1 P2 : Nat → Value → Prop} {S1 S2 : Nat → Heap → Prop} (c : Cells5 n k1 k2)
    (d1 : Kd.Drw X A k1 n t1 xs fp1 P1 S1) (d2 : Kd.Drw X A k2 (n + 1) t2 ys fp2 P2 S2) : ZipSep2 (n + 4) (n + 2) (n + 3) n (n + 1) fp1 fp2 := by
  have o1 : ∀ b : Nat, b ∈ fp1 → b ≤ n := fun b hb => by
    rcases d1.lo b hb with rfl | ⟨a, rfl, e⟩
    · exact Nat.le_refl _
    · exact Nat.le_of_lt (Kd.lo_ne c.lo1 _ e)
  have o2 : ∀ b : Nat, b ∈ fp2 → b = n + 1 ∨ b < n := fun b hb => by
    rcases d2.lo b hb with rfl | ⟨a, rfl, e⟩
    · exact .inl rfl
    · exact .inr (Kd.lo_ne c.lo2 _ e)
  exact ⟨ad (by omega), ad (by omega), ad (by omega), ad (by omega), d1.mem, fun z => by have := o1 (n + 4) z; omega, fun z => by have := o1 (n + 3) z; omega, ad (by omega), d2.mem,
    fun z => by have := o2 (n + 4) z; omega, fun z => by have := o2 (n + 3) z; omega, fun z => by have := o2 n z; omega, fun z => by have := o1 (n + 1) z; omega⟩
section
variable {X : Cx} {pins : List (Addr × Obj)} {σ : St} {H : Hp} {s : Shared}
theorem Kd.begins {k : Kd} {xs : List V} {u : Value} (I : Inv X pins σ H s) (h : k.has X.K H xs) (r : RelV k.val u) : ∃ (o : Obj) (G : Heap → Prop) (tk : Tok), Begins u o G ∧ G s.heap ∧ k.lo s.heap.objs.size ∧ ∀ n h', h'.get? n = some o → k.at n tk 0 h' := by
  cases k with
  | l a =>
    obtain ⟨its, rv, p, _⟩ := I.list h
    cases r
    exact ⟨_, _, 0, begins_list a its.toArray, p.isList, p.lt, fun n h' e => ⟨_, e, rfl, rfl⟩⟩
  | t a =>
    obtain ⟨its, rv, p, _⟩ := I.tuple h
    cases r
    have p : s.heap.IsTuple a its.toArray := p
    obtain ⟨o, e, _⟩ := id p
    exact ⟨_, _, 0, begins_tuple a its.toArray, p, Heap.lt_size e, fun n h' e => ⟨_, e, rfl, rfl⟩⟩
  | s z =>
    obtain ⟨tk, rfl⟩ := r
    exact ⟨_, _, tk, begins_text z tk, trivial, trivial, fun n h' e => ⟨_, e, rfl, rfl⟩⟩
end
def kdOf : D → V → Option Kd
  | .lst _, .ref a => some (.l a)
  | .arg _, .ref a => some (.l a)
  | .tup _, .ref a => some (.t a)
  | .str z, _ => some (.s z)
  | _, _ => none
section
variable {K : PySem.W.Frag} {P0 : Pr} {O W : List Nat} {ρ ρ' : Env} {σ σ' : St} {H H' Hs : Hp} {h h2 : Hd} {d d2 : D} {v : V}
/-- a datum that is walked: its kind and the items' values -/
theorem RepW.kd {ds : List D} {P : Pr} (r : RepW K H d P v) (e : itD d = .ok ds) : ∃ k vs, v = Kd.val k ∧ k.has K H vs ∧ Reps K H ds P vs ∧ kdOf d v = some k := by
  cases d <;> simp only [itD, R.ok.injEq, reduceCtorEq] at e
  · subst e
    rename_i z
    obtain rfl := r.str
    refine ⟨.s z, strV z, rfl, rfl, ?_, rfl⟩
    unfold strV
    generalize z.cps.toList = l
    induction l with
    | nil => exact Reps.nil
    | cons c l ih => exact Reps.cons (by unfold Rep; rfl) ih
  · subst e
    obtain ⟨a, vs, rfl, t1, t2⟩ := r.tup
    exact ⟨.t a, vs, rfl, SqT.of t1, t2, rfl⟩
  · subst e
    obtain ⟨a, vs, rfl, t1, t2⟩ := r.lst
    exact ⟨.l a, vs, rfl, SqL.of t1, t2, rfl⟩
  · subst e
    obtain ⟨a, rfl, t1⟩ := r.arg
    exact ⟨.l a, _, rfl, t1, reps_ints _, rfl⟩
/-- .. from what holds of it -/
theorem Hold.kd {ds : List D} {k : Kd} (S : Sim K P0 O W ρ σ H) (o : Hold K O h d v P0 ρ σ H) (e : itD d = .ok ds) (ek : kdOf d v = some k) : ∃ vs, k.has K H vs ∧ Reps K H ds (FA P0 O σ) vs := by
  obtain ⟨k', vs, _, h1, h2, h3⟩ := (o.rep S).kd e
  rw [ek] at h3; cases h3
  exact ⟨vs, h1, h2⟩
end
def zipGD (x y : D) : R (List D) := do
  let xs ← itD x
  let ys ← itD y
  pure (pairsD xs ys)
theorem zipGD_ok {x y : D} {ps : List D} (h : zipGD x y = .ok ps) : ∃ xs ys, itD x = .ok xs ∧ itD y = .ok ys ∧ ps = pairsD xs ys := by
  obtain ⟨xs, e1, h⟩ := R.ok_of h
  obtain ⟨ys, e2, h⟩ := R.ok_of h
  cases h
  exact ⟨xs, ys, e1, e2, rfl⟩
section
variable {X : Cx} {P0 : Pr} {O W : List Nat} {E : EK} {a b c e tg : Expr} {es : List Expr} {ma mb mc : EM} {ms : AM} {pos : Pos}
end
section
variable {ρ : Y.Env}
@[simp] theorem d_zipG {x y : D} : zipGD x y = (itD x >>= fun xs => itD y >>= fun ys => R.ok (pairsD xs ys)) := id rfl
end
def IteG (K : PySem.W.Frag) (k : Kd) : It :=
  ⟨fun i H => ∃ xs x, k.has K H xs ∧ xs[i]? = some x, fun i H v H' => ∃ T x, v = .ref T ∧ H T = none ∧ H' = upd H T (.tup [.int (i : Nat), x]) ∧ ∀ xs, k.has K H xs → xs[i]? = some x, fun i H => ∃ xs, k.has K H xs ∧ i = xs.length⟩
abbrev fp2 (n : Nat) : List Addr := [n + 1, n]
def tnE (n : Nat) (t : Tok) (k : Kd) (i : Nat) (h : Heap) : Prop := (∃ old, IsEnum h (n + 1) n ((i : Nat) : Int) old) ∧ k.at n t i h
theorem turn_enumG {P : Program} {w : World} {K : PySem.W.Frag} {elts : List Expr} {kk : Nat} {tpos : Pos} {k : Kd} {n : Nat} {t : Tok} (c : k.lo n) :
    Turn P w K (.Tuple elts kk tpos) (IteG K k) (fp2 n) (n + 1) (tnE n t k) where
  mem := by simp
  obj := fun i h ⟨⟨old, he⟩, q1⟩ b hb => by
    have hb : b = n + 1 ∨ b = n := by simpa using hb
    rcases hb with rfl | rfl
    · exact ⟨_, he, fun v q => nomatch q⟩
    · exact Kd.at_ob q1
  keep := fun i h h' ⟨⟨old, he⟩, q1⟩ k => ⟨⟨old, k _ (by simp) _ he⟩, Kd.at_k q1 (k _ (by simp))⟩
  item := by
    intro X hP hw hK hc i pins s σ H E I hf ⟨⟨old, he⟩, q1⟩ ⟨xs, x, g1, ex⟩
    subst hP hw hK
    have hh : X.A.in1.handled = none := by simp [I.ok.hd hc]
    obtain ⟨fp1, P1, S1, d1, s1⟩ := Kd.draw (A := X.A.in1) hh I g1 (fun a e => ad (by have := Kd.lo_ne c a e; omega)) q1
    have hel : n + 1 < s.heap.objs.size := Heap.lt_size he
    have hef : n + 1 ∉ fp1 := fun z => by
      rcases d1.lo _ z with e | ⟨a, e, e2⟩
      · have e : n + 1 = n := e
        omega
      · have := Kd.lo_ne c a e2
        have e : n + 1 = a := e
        omega
    refine wpAny_pyNext_enum_itemD d1.dr he s1 (List.getElem?_eq_some_iff.mp ex).1 (ad (by omega)) hef fun u h' tk p1 ho s1' hT hsz hk => ?_
    obtain ⟨x', ex', r1⟩ := d1.item _ _ p1
    rw [ex] at ex'; cases ex'
    refine ⟨_, rfl, wpAny_letOwnedTupleGo_enum (s := { s with heap := h', toks := tk + 1 }) ho fun h2 he2 sb => ?_⟩
    have hT2 : h2.get? s.heap.objs.size = some { cls := .type "tuple", data := .seq #[.int i tk, u] } := (sb.2 _ (ad (by omega))).trans hT
    have new : ObjOk X.prog X.w (upd H s.heap.objs.size (.tup [.int (i : Nat), x])) h2 s.heap.objs.size (.tup [.int (i : Nat), x]) := ⟨by show 2 ≤ sizeLine; decide, [.int i tk, u], .cons ⟨_, rfl⟩ (.cons r1 .nil), ⟨_, hT2, rfl, _, rfl⟩⟩
    have I1 : Inv X pins σ (upd H s.heap.objs.size (.tup [.int (i : Nat), x])) { s with heap := h2, toks := tk + 1 } :=
      I.turnedNew (t' := tk + 1) (ch := fp2 n) (fun b o hb q => (sb.2 b fun e => hb (by simp [e])).trans (hk b o (fun e => hb (by simp [e])) (fun e => hb (by simp [e])) q)) hf (Nat.le_refl _) new
    refine ⟨.ref s.heap.objs.size, _, I1, rfl, ⟨_, x, rfl, I.hok.fresh (Nat.le_refl _), rfl, fun l hl => by rw [Kd.inj I hl g1]; exact ex⟩, ⟨⟨u, ?_⟩, ?_⟩, fun b hb => ?_⟩
    · have e1 : ((i + 1 : Nat) : Int) = (i : Int) + 1 := by omega
      rw [e1]; exact he2
    · exact Kd.at_k (d1.back _ _ s1') fun o q => (sb.2 _ (ad (by omega))).trans q
    · have hb' : b = n + 1 ∨ b = n := by simpa using hb
      rw [upd_ne (by rcases hb' with e | e <;> (rw [e]; exact ad (by omega)))]
      exact (hf b hb).1
  done := by
    intro X hP hw hK hc i pins s σ H E I hf ⟨⟨old, he⟩, q1⟩ ⟨xs, g1, ei⟩
    subst hP hw hK
    have hh : X.A.in1.handled = none := by simp [I.ok.hd hc]
    obtain ⟨fp1, P1, S1, d1, s1⟩ := Kd.draw (A := X.A.in1) hh I g1 (fun a e => ad (by have := Kd.lo_ne c a e; omega)) q1
    subst ei
    exact wpAny_pyNext_enum_endD d1.dr he s1 fun h' eb => ⟨rfl, I.turnedL (t' := s.toks) (ch := fp2 n) (fun b o hb q => eb b o (fun e => hb (by simp [e])) q) hf⟩
  self := fun A i s Q E ⟨⟨_, he⟩, _⟩ h => wpAny_pyIter_enum he h
open AutoSeq1 (wpAny_loadPart') in
set_option maxHeartbeats 1000000 in
theorem enum_newT (b : Addr) (ys : Array Value) (m : Nat) (dd : Option Addr) (sl : Array (Option Value)) : Meets (Builtin.«enumerate.__new__» ⟨[.type "enumerate", .ref b], []⟩) (fun _ R s => s.heap.get? b = some { cls := .type "tuple", dict := dd, data := .seq ys m, slots := sl } ∧
    R (.ok (.ret (.ref (s.heap.push { cls := .type "tuple_iterator", data := .fields #[.ref b, .int 0 0] }).objs.size))) { s with heap := (s.heap.push { cls := .type "tuple_iterator", data := .fields #[.ref b, .int 0 0] }).push { cls := .type "enumerate", data := .fields #[.none, .bool false, .ref s.heap.objs.size, rawInt 0, .none, .none] } }) :=
  .of_wp fun prog w A R s ⟨hb, q⟩ => by
    obtain ⟨hp, g, d, tk, os⟩ := s
    have z1 := sub_enumerate
    have hT : Heap.IsTuple (Shared.heap ⟨hp, g, d, tk, os⟩) b ys := ⟨_, hb, rfl, m, rfl⟩
    wp_walk using wpAny_loadPart' hb
    refine wpAny_stack_any fun st => wpAny_pure ?_
    split
    · rename_i c _ _ _ _ _
      cases (c == Value.type "enumerate") <;> (wp_walk using wpAny_loadPart' hb, wpAny_pyIter_tuple hT; exact ⟨_, rfl, q⟩)
    · wp_walk using wpAny_loadPart' hb, wpAny_pyIter_tuple hT
      exact ⟨_, rfl, q⟩
theorem call_enumT {prog : Program} {w : World} {A : Around} {E : Value → Shared → Prop} {s : Shared} {b : Addr} {ys : Array Value} {Q : Value → Shared → Prop} (hT : s.heap.IsTuple b ys)
    (q : ∀ h', IsEnum h' (s.heap.objs.size + 1) s.heap.objs.size 0 .none → h'.IsTupleIter s.heap.objs.size b 0 → (∀ c o, s.heap.get? c = some o → h'.get? c = some o) → Q (.ref (s.heap.objs.size + 1)) { s with heap := h' }) :
    wpAny (model prog w) A (call (.type "enumerate") [.ref b]) Q E s := by
  obtain ⟨⟨cls, dd, data, sl⟩, hb, ec, m, ed⟩ := hT
  simp only at ec ed
  subst ec ed
  refine callType_new F.called_enumerate (by decide) (F.typeCall_enumerate_1 _) (F.newCall_enumerate_1 _) (fun obj => F.args_object_init_2 obj _) F.entry_enumerate_new (enum_newT b ys m dd sl) ⟨hb, ?_⟩
  have hz : (s.heap.push { cls := .type "tuple_iterator", data := .fields #[.ref b, .int 0 0] }).objs.size = s.heap.objs.size + 1 := Heap.size_push ..
  have he : IsEnum ((s.heap.push { cls := .type "tuple_iterator", data := .fields #[.ref b, .int 0 0] }).push { cls := .type "enumerate", data := .fields #[.none, .bool false, .ref s.heap.objs.size, rawInt 0, .none, .none] }) (s.heap.objs.size + 1) s.heap.objs.size 0 .none := by
    rw [← hz]
    exact Heap.get?_push_size _ rfl
  show _ ∧ _
  rw [hz]
  exact ⟨⟨_, he, rfl⟩, q _ he ⟨_, Heap.get?_push_of_some _ (Heap.get?_push_size _ rfl), rfl, rfl⟩ fun c o x => Heap.get?_push_of_some _ (Heap.get?_push_of_some _ x)⟩
section
variable {X : Cx} {P0 : Pr} {O W : List Nat} {E : EK} {a b c e tg : Expr} {es : List Expr} {ma mb mc : EM} {ms : AM} {pos : Pos}
def iEnumG (K : PySem.W.Frag) (ta : TA) : TI := fun σ H R => ta σ H fun vs H1 => ∃ k xs, vs = [Kd.val k] ∧ k.has K H1 xs ∧ R (IteG K k) H1
theorem pi_enumG {ta : TA} {p tpos : Pos} {elts : List Expr} {kk : Nat} (hg : Gl X "enumerate") (hm : X.mg "enumerate" = none) (ha : PA X [e] ta) (hs : starEach [e] X.env = [(false, eval e X.env)] := by rfl) :
    PI X (.Tuple elts kk tpos) (.Call (.Name "enumerate" p) [e] [] pos) (iEnumG X.K ta) := ⟨fun pins s σ H R I h =>
  Call_ (ld_blt I hg hm boot_enumerate (PyProof.Rows.callWith_type1 (thn (ha.run pos pins s σ H _ I h) fun us s1 ⟨vs, H1, I1, r1, q1⟩ => by
    obtain ⟨k, xs, ex, h1, q⟩ := q1
    subst ex
    obtain ⟨u, rfl, r2⟩ := vals1 r1
    have fin : ∀ (tk : Tok) (h' : Heap), k.lo s1.heap.objs.size → IsEnum h' (s1.heap.objs.size + 1) s1.heap.objs.size 0 .none → k.at s1.heap.objs.size tk 0 h' → (∀ c o, s1.heap.get? c = some o → h'.get? c = some o) → PIE X pins σ (.Tuple elts kk tpos) R (.ref (s1.heap.objs.size + 1)) { s1 with heap := h' } := fun tk h' lo he hit hk =>
      ⟨s1.heap.objs.size + 1, fp2 s1.heap.objs.size, tnE s1.heap.objs.size tk k, _, H1, rfl, I1.kept (t' := s1.toks) hk, turn_enumG lo, ⟨⟨.none, he⟩, hit⟩, fun b hb => by
        have hb' : b = s1.heap.objs.size + 1 ∨ b = s1.heap.objs.size := by simpa using hb
        have le : s1.heap.objs.size ≤ b := by rcases hb' with e | e <;> (rw [e]; first | exact Nat.le_refl _ | exact Nat.le_add_right _ _)
        exact I1.fpOk le (I1.hok.fresh le), q⟩
    cases k with
    | l a =>
      obtain ⟨its, rv, p, _⟩ := I1.list h1
      cases r2
      exact call_enumerate_list p.isList fun h' he hit hsz hk => wpAny_pyIter_enum he (fin 0 h' p.lt he hit hk)
    | t a =>
      obtain ⟨its, rv, p, _⟩ := I1.tuple h1
      cases r2
      have p : s1.heap.IsTuple a its.toArray := p
      obtain ⟨o, e, _⟩ := id p
      exact call_enumT p fun h' he hit hk => wpAny_pyIter_enum he (fin 0 h' (Heap.lt_size e) he hit hk)
    | s z =>
      obtain ⟨tk, rfl⟩ := r2
      exact call_enumerate_str fun h' he hit hsz hk => wpAny_pyIter_enum he (fin tk h' trivial he hit hk)) hs rfl))⟩
def numD (ds : List D) : List D := pairsD ((List.range ds.length).map fun i => D.int (i : Nat)) ds
section
variable {K : PySem.W.Frag} {ρ ρ' : Env} {σ σ' : St} {H H' Hs : Hp} {h h2 : Hd} {d d2 : D} {v : V}
theorem src_enumG {k : Kd} {ds : List D} (hd : itD d = .ok ds) (e1 : kdOf d v = some k) : Src K O W (numD ds) h.ws (IteG K k) (Hold K O h d v) where
  go := fun P0 i ρ σ H S ok hi => by
    obtain ⟨vs, a1, a2⟩ := ok.kd S hd e1
    unfold numD at hi
    rw [pairsD_len, ← a2.length] at hi
    have hi : i < vs.length := by simpa using hi
    exact ⟨vs, vs[i], a1, List.getElem?_eq_getElem hi⟩
  stop := fun P0 ρ σ H S ok => by
    obtain ⟨vs, a1, a2⟩ := ok.kd S hd e1
    exact ⟨vs, a1, by unfold numD; rw [pairsD_len, ← a2.length]; simp⟩
  yld := fun P0 i ρ σ H x H' d S ok hq y => by
    obtain ⟨vs, a1, a2⟩ := ok.kd S hd e1
    have hi := (List.getElem?_eq_some_iff.mp hq).1
    unfold numD at hi hq
    rw [pairsD_len] at hi
    have hi : i < ds.length := by simpa using hi
    obtain ⟨x1, y1, q1, q2, rfl⟩ := pairsD_get hq
    obtain ⟨v2, q4, r2⟩ := a2.get q2
    obtain ⟨T, u, rfl, hT, rfl, e3⟩ := y
    have e3 := e3 _ a1
    rw [q4] at e3; cases e3
    rw [List.getElem?_map, List.getElem?_range hi] at q1
    cases q1
    exact pair_rep S.dom hT (by unfold Rep; rfl) r2
  keep := fun P0 ρ σ H ρ' σ' H' S k w hw ok => ok.keep S k w hw
  mem := fun P0 ρ σ H ok => ok.mem
  grow := fun P0 P1 ρ σ H H' S w k ok => ok.grow S w k
end
def cEnumG (m : AM) : IM := fun ρ => do
  let (hs, ρ1) ← m ρ
  match hs with
  | [h] => do
    let x ← (h.d ρ1).nox
    let ds ← (itD x).nox
    if szOk (numD ds).length = true then pure ((numD ds, h.ws), ρ1) else .stk
  | _ => .stk
theorem ci_enumG {p tpos : Pos} {elts : List Expr} {kk : Nat} (hm : X.mg "enumerate" = none) (ha : CA X P0 O W E [a] ms) (hg : Gl X "enumerate" := by rfl) (hs : starEach [a] X.env = [(false, eval a X.env)] := by rfl) :
    CI X P0 O W E (.Tuple elts kk tpos) (.Call (.Name "enumerate" p) [a] [] pos) (cEnumG ms) := PI.imp (pi_enumG hg hm ha hs) fun σ H _ ⟨ρ, S, h⟩ => by
  refine ⟨ρ, S, h.of_bind.mono fun ⟨hs, ρ1⟩ q vs H1 S1 k1 r1 => ?_⟩
  match hs, r1, q with
  | [h], r1, q =>
    obtain ⟨v, ws, rfl, t1, t2⟩ := r1
    have t2 : ws = [] := t2
    subst t2
    obtain ⟨x, ex, q1⟩ := Res.of_nox (show Res E W σ H ((h.d ρ1).nox >>= _) _ from q)
    obtain ⟨ds, e1, q3⟩ := q1.of_nox
    clear q q1
    by_cases c : szOk (numD ds).length = true
    · rw [if_pos c] at q3
      obtain ⟨c1, vs1, rfl, f1, _, g1⟩ := (t1.d S1 ex).kd e1
      exact ⟨c1, vs1, rfl, f1, q3 _ H1 _ S1 k1 (src_enumG e1 g1) (t1.hold ex) (of_decide_eq_true c)⟩
    · rw [if_neg c] at q3
      exact q3.elim
  | [], _, q => exact q.elim
  | _ :: _ :: _, _, q => exact q.elim
end
section
variable {ρ : Y.Env}
@[simp] theorem e_enumG {m : AM} : cEnumG m ρ = (m ρ >>= fun p => match p.1 with | [h] => ((h.d p.2).nox >>= fun x => (itD x).nox >>= fun ds => if szOk (numD ds).length = true then R.ok ((numD ds, h.ws), p.2) else .stk) | _ => .stk) := by
  unfold cEnumG; congr
@[simp] theorem numD_len {ds : List D} : (numD ds).length = ds.length := by unfold numD; rw [pairsD_len]; simp
end
end Y

set_option Elab.async false
set_option linter.all false
set_option maxRecDepth 100000
namespace Y
open PySem PySem.Spec PyProof.Rows L2
section
variable {K : PySem.W.Frag} {X : Cx} {P0 : Pr} {O W U : List Nat} {E : EK} {XE : XK} {e : Expr} {ma : EM} {pos : Pos}
end
end Y

set_option Elab.async false
set_option linter.all false
set_option maxRecDepth 100000
namespace Y
open PySem PySem.Spec PyProof.Rows L2
section
variable {P : Program} {w : World} {A : Around} {E : Value → Shared → Prop} {s : Shared}
end
end Y

set_option Elab.async false
set_option linter.all false
set_option maxRecDepth 100000
namespace Y
open PySem PySem.Spec PyProof.Rows L2
def dedupI : List Int → List Int
  | [] => []
  | x :: xs => if x ∈ xs then dedupI xs else x :: dedupI xs
@[simp] theorem mem_dedupI : ∀ {xs : List Int} {k : Int}, k ∈ dedupI xs ↔ k ∈ xs
  | [], k => by simp [dedupI]
  | x :: xs, k => by
    unfold dedupI
    split
    · rename_i h
      rw [mem_dedupI, List.mem_cons]
      exact ⟨.inr, fun z => z.elim (fun z => z ▸ h) id⟩
    · rw [List.mem_cons, mem_dedupI, List.mem_cons]
def setI (xs : List Int) : List Int := sortI (dedupI xs)
theorem setI_mem {xs : List Int} {k : Int} : k ∈ setI xs ↔ k ∈ xs := by rw [setI, (sortI_perm _).mem_iff, mem_dedupI]
section
variable {X : Cx}
end
def seqI : D → Option (List Int)
  | .lst ds => intsOf ds
  | .tup ds => intsOf ds
  | .arg ns => some ns
  | _ => none
section
variable {K : PySem.W.Frag} {X : Cx} {P0 : Pr} {O W : List Nat} {E : EK} {a e : Expr} {ma : EM} {pos : Pos}
theorem RepW.seqI {H : Hp} {d : D} {P : Pr} {v : V} {ns : List Int} (r : RepW K H d P v) (e : seqI d = some ns) : ∃ l, v = .ref l ∧ (SqL K H l (ns.map V.int) ∨ SqT K H l (ns.map V.int)) := by
  cases d <;> simp only [Y.seqI, reduceCtorEq, Option.some.injEq] at e
  · obtain ⟨l, vs, rfl, t1, t2⟩ := r.tup
    rw [ints_rep e t2] at t1
    exact ⟨l, rfl, .inr (SqT.of t1)⟩
  · obtain ⟨l, vs, rfl, t1, t2⟩ := r.lst
    rw [ints_rep e t2] at t1
    exact ⟨l, rfl, .inl (SqL.of t1)⟩
  · subst e
    obtain ⟨l, rfl, t1⟩ := r.arg
    exact ⟨l, rfl, .inl t1⟩
end
variable {ρ : Y.Env}
@[simp] theorem seqI_l {ns : List Int} : seqI (.lst (ns.map D.int)) = some ns := ints_map ns
@[simp] theorem seqI_t {ns : List Int} : seqI (.tup (ns.map D.int)) = some ns := ints_map ns
end Y

set_option Elab.async false
set_option linter.all false
set_option maxRecDepth 100000
namespace Y
open PySem PySem.Spec PyProof.Rows L2
section
variable {K : PySem.W.Frag} {X : Cx} {P0 : Pr} {O W U : List Nat} {E : EK} {a b e : Expr} {sts : List Stmt} {ma mb : EM} {pos : Pos}
theorem cs_stk : CSs X P0 O W U E sts (fun _ => .stk) := ⟨fun pins s σ H D I ⟨ρ, S, h⟩ => h.elim⟩
def indexD : D → D → R D
  | .lst ds, y => if (dOk (.lst ds) && dOk y) = true then (match ds.findIdx? fun z => eqP z y with | some j => .ok (.int j) | none => .stk) else .stk
  | .str x, .str y => (match Builtin.Str.occurrences x y 0 x.length 1 with | i :: _ => .ok (.int (i : Nat)) | [] => .stk)
  | _, _ => .stk
def cIndex (a b : EM) : EM := fun ρ => do
  let (h1, ρ1) ← a ρ
  let x0 ← (h1.d ρ1).nox
  match x0 with
  | .str x => do
    let (h2, ρ2) ← b ρ1
    let y ← (h2.d ρ2).nox
    let z ← (indexD (.str x) y).nox
    pure (.fr z, ρ2)
  | .lst _ => do
    let (h2, ρ2) ← b ρ1
    let x ← (h1.d ρ2).nox
    let y ← (h2.d ρ2).nox
    let z ← (indexD x y).nox
    pure (.fr z, ρ2)
  | _ => .stk
theorem dps_find {y : D} : ∀ {ds : List D} {j : Nat}, (ds.findIdx? fun z => eqP z y) = some j → (∃ z, (toPys ds)[j]? = some z ∧ PyData.eqv z (toPy y) = true) ∧ ∀ (m : Nat) (z : PyData), m < j → (toPys ds)[m]? = some z → PyData.eqv z (toPy y) = false
  | [], j, h => by simp at h
  | d :: ds, j, h => by
    rw [List.findIdx?_cons] at h
    by_cases c : eqP d y = true
    · rw [if_pos c] at h
      cases h
      exact ⟨⟨toPy d, by unfold toPys; rfl, c⟩, fun m z hm => by omega⟩
    · rw [if_neg c] at h
      cases e : ds.findIdx? fun z => eqP z y with
      | none => rw [e] at h; cases h
      | some i =>
        rw [e] at h
        cases h
        obtain ⟨⟨z, e1, e2⟩, e3⟩ := dps_find e
        refine ⟨⟨z, by unfold toPys; simpa using e1, e2⟩, fun m z hm hz => ?_⟩
        unfold toPys at hz
        cases m with
        | zero => simp at hz; subst hz; exact Bool.not_eq_true _ ▸ c
        | succ m => exact e3 m z (by have hm : m + 1 < i + 1 := hm; omega) (by simpa using hz)
theorem ce_index {apos : Pos} (hu : X.A.units + 65 < cLine) (ha : CEx X P0 O W E a ma) (hb : CEx X P0 O W E b mb) (hs : starEach [b] X.env = (false, eval b X.env) :: starEach [] X.env := by rfl) (hs2 : starEach [b] X.env = [(false, eval b X.env)] := by rfl) (hpl : (backTo pos (starEach [] X.env)).any (·.1) = false := by rfl)
    (hbase : attributeBase a "index" X.env (eval a X.env) = eval a X.env := by rfl) (hline : (apos.endLine == pos.line) = true := by rfl) (hfew : Few X pos [b] := by rfl) : CEx X P0 O W E (.Call (.Attribute a "index" apos) [b] [] pos) (cIndex ma mb) :=
  PE.imp (PE.or (pe_bm PySem.F.plainAttrs_list PySem.F.slot_list_index PySem.F.type_list_index (mt_indexD hu) ha (pa_cons hb pa_nil hs) hbase hfew hline hs hpl)
    (pe_m1 PySem.F.slot_str_index PySem.F.type_str_index mt_sindex ha hb hs2 hbase hline)) fun σ H Q ⟨ρ, S, h⟩ => by
    unfold cIndex at h
    cases em : ma ρ with
    | stk => rw [em] at h; exact h.elim
    | er c ds =>
      rw [em] at h
      exact .inl ⟨ρ, S, by rw [em]; exact h⟩
    | ok p =>
      obtain ⟨h1, ρ1⟩ := p
      rw [em] at h
      obtain ⟨x0, e0, h⟩ := Res.of_nox (show Res E W σ H ((h1.d ρ1).nox >>= _) _ from h)
      cases x0 <;> first | (exact h.elim) | skip
      · rename_i x
        refine .inr ⟨ρ, S, ?_⟩
        rw [em]
        intro v H1 S1 k1 r1
        obtain rfl := (r1.d S1 e0).str
        have h : Res E W σ H (mb ρ1 >>= fun q => (q.1.d q.2).nox >>= fun y => (indexD (.str x) y).nox >>= fun z => R.ok (Hd.fr z, q.2)) _ := h
        refine ⟨⟨x, rfl⟩, ρ1, S1, (h.of_bind.keep k1).mono fun ⟨h2, ρ2⟩ q w H2 S2 k2 r2 => ?_⟩
        obtain ⟨y, e2, q⟩ := q.of_nox
        obtain ⟨z, e3, q⟩ := q.of_nox
        have rw2 := r2.d S2 e2
        cases y <;> simp only [indexD, reduceCtorEq] at e3
        rename_i y
        obtain rfl := rw2.str
        split at e3
        · rename_i i rest eo
          cases e3
          exact ⟨x, y, i, rest, rfl, rfl, eo, (out_of (K := X.K) S2 (k1.trans k2) q).flat (by unfold Rep; rfl) rfl⟩
        · cases e3
      · rename_i ds0 _
        refine .inl ⟨ρ, S, ?_⟩
        rw [em]
        intro v H1 S1 k1 r1
        obtain ⟨l, vs, rfl, t1, t2⟩ := (r1.d S1 e0).lst
        have h : Res E W σ H (mb ρ1 >>= fun q => (h1.d q.2).nox >>= fun x => (q.1.d q.2).nox >>= fun y => (indexD x y).nox >>= fun z => R.ok (Hd.fr z, q.2)) _ := h
        refine ⟨.inl ⟨rfl, _, SqL.of t1⟩, ρ1, S1, (h.of_bind.keep k1).mono fun ⟨h2, ρ2⟩ q w H2 S2 k2 r2 => ?_⟩
        obtain ⟨x, e1, q⟩ := q.of_nox
        obtain ⟨y, e2, q⟩ := q.of_nox
        obtain ⟨z, e3, q⟩ := q.of_nox
        have rw1 := (r1.keep S1 k2).d S2 e1
        have rw2 := r2.d S2 e2
        have o := out_of (K := X.K) S2 (k1.trans k2) q
        cases x <;> simp only [indexD, reduceCtorEq] at e3
        · obtain ⟨_, _, e, _⟩ := rw1
        · rename_i ds _
          split at e3
          · rename_i c
            rw [Bool.and_eq_true] at c
            split at e3
            · rename_i j ej
              cases e3
              obtain ⟨⟨z, g1, g2⟩, g3⟩ := dps_find ej
              exact ⟨l, w, toPy y, toPys ds, j, z, rfl, rfl, by have q := rw1.dp c.1; unfold toPy at q; exact q, rw2.dp c.2, by have q := c.1; unfold dOk toPy at q; exact q, c.2, g1, g2, g3, o.flat (by unfold Rep; rfl) rfl⟩
            · cases e3
          · cases e3
end
variable {ρ : Y.Env}
@[simp] theorem e_index {a b : EM} : cIndex a b ρ = (a ρ >>= fun p => (p.1.d p.2).nox >>= fun x0 => match x0 with
    | .str x => (b p.2 >>= fun q => (q.1.d q.2).nox >>= fun y => (indexD (.str x) y).nox >>= fun z => R.ok (.fr z, q.2))
    | .lst _ => (b p.2 >>= fun q => (p.1.d q.2).nox >>= fun x => (q.1.d q.2).nox >>= fun y => (indexD x y).nox >>= fun z => R.ok (.fr z, q.2))
    | _ => .stk) := by
  unfold cIndex; congr
end Y

set_option Elab.async false
set_option linter.all false
set_option maxRecDepth 100000
namespace Y
open PySem PySem.Spec PyProof.Rows L2
theorem chkO_ws {O W : List Nat} {ρ : Y.Env} (h : (W.all fun i => O.contains i && shAt i ρ) = true) : chkO O W ρ ρ = .ok () := by
  unfold chkO
  rw [if_pos]
  intro j d e
  by_cases c : j ∈ W
  · have := List.all_eq_true.mp h j c
    rw [Bool.and_eq_true] at this
    obtain ⟨h1, h2⟩ := this
    unfold shAt at h2
    rw [e] at h2
    exact .inr (.inl ⟨by simpa using h1, h2⟩)
  · exact .inl ⟨e, c⟩
theorem nls_map {α : Type} {f : α → D} {xs : List α} (h : ∀ x ∈ xs, (f x).nl = true) : nls (xs.map f) = true := nls_all fun d hd => by
  obtain ⟨x, hx, rfl⟩ := List.mem_map.mp hd
  exact h x hx
end Y

set_option Elab.async false
set_option linter.all false
set_option maxRecDepth 100000
namespace Y
open PySem PySem.Spec PyProof.Rows L2
def cCallR (g : List D → R Hd) (m : AM) : EM := fun ρ => do
  let (hs, ρ1) ← m ρ
  let ds ← (dsOf hs ρ1).nox
  let h ← g ds
  match h with
  | .fr d => if d.nl = true then pure (.fr d, ρ1) else .stk
  | .vl d => if d.nl = true then pure (.vl d, ρ1) else .stk
  | .ow _ => .stk
section
variable {X : Cx} {P0 : Pr} {O W : List Nat} {E : EK} {XE : XK} {e : Expr} {es : List Expr} {ms : AM} {pos : Pos} {k np : Nat} {name : Str}
theorem reps_of_at {K : PySem.W.Frag} {H : Hp} {P : Pr} {ds : List D} {vs : List V} (hl : vs.length = ds.length) (h : ∀ (i : Nat) (d : D) (v : V), ds[i]? = some d → vs[i]? = some v → Rep K H d P v) : Reps K H ds P vs := Reps.of_get hl h
theorem tM_callR {g : List D → R Hd} (hE : ∀ c ds H, E c ds H → exE X.mg XE c ds H) (σ : St) (H : Hp) (Q : VK) (h : tM X.K P0 O W E (cCallR g ms) σ H Q) (hl : ALen ms np) : tCall (spD X.K X.mg np [] (pureF g)) [] XE (tMs X.K P0 O W E ms) σ H Q := by
  obtain ⟨ρ, S, h⟩ := h
  refine ⟨ρ, S, ?_⟩
  cases em : ms ρ with
  | stk => unfold cCallR at h; rw [em] at h; exact h.elim
  | er c ds => unfold cCallR at h; rw [em] at h; exact h
  | ok p =>
    obtain ⟨hs, ρ1⟩ := p
    unfold cCallR at h
    rw [em] at h
    intro vs H1 S1 k1 r1
    obtain ⟨ds, e1, q⟩ := Res.of_nox (show Res E W σ H ((dsOf hs ρ1).nox >>= _) _ from h)
    obtain ⟨dl, dg⟩ := dsOf_at e1
    have lv : vs.length = np := by rw [HdRs.len r1]; exact hl ρ hs ρ1 em
    have ld : ds.length = np := by rw [dl]; exact hl ρ hs ρ1 em
    rw [List.append_nil]
    generalize hP : (fun b => FA P0 O σ b ∧ ¬ ∃ (i : Nat), i ∈ O ∧ Hd.ow i ∈ hs ∧ σ[i]? = some (some (V.ref b)) : Pr) = P1
    have sub : ∀ b, P1 b → FA P0 O σ b := fun b z => by subst hP; exact z.1
    have rr : Reps X.K H1 ds P1 vs := reps_of_at (by rw [lv, ld]) fun i d v ed ev => by
      obtain ⟨h0, e2, r⟩ := HdRs.at r1 ev
      have hd := dg i h0 d e2 ed
      cases h0 with
      | fr d' => cases hd; exact r.1.less S1.dom sub
      | vl d' => cases hd; exact Rep.less S1.dom r sub
      | ow j =>
        obtain ⟨w, h1, h2⟩ := S1.own j d (look_some hd) r.1
        rw [r.2] at h1; cases h1
        refine h2.rep S1.dom sub fun a ea => ⟨fun z => ?_, .inr ⟨j, r.1, by rw [← ea]; exact r.2⟩⟩
        subst hP
        exact z.2 ⟨j, r.1, List.mem_of_getElem? e2, by rw [← ea]; exact r.2⟩
    refine ⟨lv, ds, P1, sim_args (fun b z => S1.dom b (sub b z)) rr, ld, ?_⟩
    have q := q.keep k1
    unfold pureF
    cases eg : g ds with
    | stk => rw [eg] at q; exact q.elim
    | er c xs =>
      rw [eg] at q
      exact fun H' kp => hE c xs H' (q H' (Keep.same kp.nil))
    | ok hd =>
      rw [eg] at q
      intro v H2 k2 _ r2
      have sm := Keep.nil k2
      cases hd with
      | ow j => exact q.elim
      | fr d =>
        have q : Res E W σ H1 (if d.nl = true then R.ok (Hd.fr d, ρ1) else .stk) _ := q
        by_cases c : d.nl = true
        · rw [if_pos c] at q
          refine q v H2 (S1.same sm) (k1.trans (Keep.same sm)) ⟨Rep.nl c r2.1, fun m => ?_⟩
          cases d <;> first | (simp [D.nl] at c; done) | (cases m; done)
        · rw [if_neg c] at q; exact q.elim
      | vl d =>
        have q : Res E W σ H1 (if d.nl = true then R.ok (Hd.vl d, ρ1) else .stk) _ := q
        by_cases c : d.nl = true
        · rw [if_pos c] at q
          have r2 : Rep X.K H2 d _ v := r2
          exact q v H2 (S1.same sm) (k1.trans (Keep.same sm)) (Rep.nl c r2)
        · rw [if_neg c] at q; exact q.elim
theorem ce_callR {g : List D → R Hd} {p : Pos} (G : Glo X.prog X.w X.K X.mg X.base name k np [] (pureF g)) (o : Out2 X E XE) (hr : Room k X.A) (ha : CA X P0 O W E (e :: es) ms) (hl : ALen ms np) (hg : Gl X name := by rfl) (hdb : (name == ("__debug__" : Str)) = false := by decide)
    (he : starEach (e :: es) X.env = (false, eval e X.env) :: starEach es X.env := by rfl) (hpl : (backTo pos (starEach es X.env)).any (·.1) = false := by rfl) : CEx X P0 O W E (.Call (.Name name p) (e :: es) [] pos) (cCallR g ms) := by
  obtain ⟨f, fd, ps, hm, hk, hb, _, F⟩ := G.ex
  exact PE.imp (pe_call F hr hg hm hk hb .nil o.pass ha hdb he hpl) fun σ H Q h => tM_callR o.ex σ H Q h hl
end
@[simp] theorem e_callR {g : List D → R Hd} {m : AM} {ρ : Y.Env} : cCallR g m ρ = (m ρ >>= fun p => (dsOf p.1 p.2).nox >>= fun ds => g ds >>= fun h => match h with | .fr d => (if d.nl = true then R.ok (.fr d, p.2) else .stk) | .vl d => (if d.nl = true then R.ok (.vl d, p.2) else .stk) | .ow _ => .stk) := by
  unfold cCallR; congr
end Y

set_option Elab.async false
set_option linter.all false
set_option maxRecDepth 100000
namespace Y.HR
open PySem PySem.Spec PyProof.Rows L2 _root_.HT PySem.W PySem.SeqAt PySem.AutoSeq1 PySem.MeetsSeq PySem.MeetsSeq2 PySem.MeetsSeq3
section
variable {prog : Program} {w : World} {A : Around} {E : Value → Shared → Prop} {s : Shared}
theorem sliceApplied_rev {sl : Addr} {vk : Value} {n : Nat} {Q : Int × Int × Nat → Shared → Prop} (hs : s.heap.IsSliceOf sl .none .none vk) (pk : IsPart vk (some (-1)))
    (h : Q ((n : Int) - 1, -1, n) s) : wpAny (model prog w) A (Builtin.Slice.sliceApplied (.ref sl) (pure (n : Int))) Q E s := by
  obtain ⟨os, hos, hcs, hds⟩ := id hs
  unfold Builtin.Slice.sliceApplied Builtin.Slice.sliceFields
  refine wpAny_bind (wpAny_bind (wpAny_field hos hds (x := .none) rfl (wpAny_bind (wpAny_field hos hds (x := .none) rfl (wpAny_bind (wpAny_field hos hds (x := vk) rfl (wpAny_pure ?_)))))))
  refine wpAny_bind (slicePart_ pk ?_)
  show wpAny _ _ (if ((-1 : Int) == 0) = true then _ else _) _ _ s
  rw [if_neg (by decide)]
  refine wpAny_bind (slicePart_none (wpAny_bind (slicePart_none (wpAny_bind (wpAny_pure ?_)))))
  show wpAny _ _ (pure ((n : Int) - 1, (-1 : Int), Builtin.Slice.slicePlaces ((n : Int) - 1) (-1) (-1))) _ _ s
  have e : Builtin.Slice.slicePlaces ((n : Int) - 1) (-1) (-1) = n := by
    unfold Builtin.Slice.slicePlaces
    have h1 : ¬ ((-1 : Int) > 0) := by omega
    simp only [h1, if_false]
    rw [show (- -1 : Int) = 1 by decide, Int.ediv_one]
    split <;> omega
  rw [e]
  exact wpAny_pure h
theorem fm_congr {α β : Type} {f g : α → Option β} : ∀ l : List α, (∀ m ∈ l, f m = g m) → l.filterMap f = l.filterMap g
  | [], _ => rfl
  | x :: l, h => by
    have ih := fm_congr l fun m hm => h m (by simp [hm])
    rw [List.filterMap_cons, List.filterMap_cons, h x (by simp), ih]
theorem pick_rev (xs : Array Value) : ((List.range xs.size).filterMap fun (m : Nat) => xs[((xs.size : Int) - 1 + (m : Int) * -1).toNat]?).toArray = xs.toList.reverse.toArray := by
  have e : ((List.range xs.size).filterMap fun (m : Nat) => xs[((xs.size : Int) - 1 + (m : Int) * -1).toNat]?) = ((List.range xs.size).map fun k => xs.size - 1 - k).filterMap (xs[·]?) := by
    rw [List.filterMap_map]
    refine fm_congr _ fun m hm => ?_
    have := List.mem_range.mp hm
    show _ = xs[xs.size - 1 - m]?
    have : ((xs.size : Int) - 1 + (m : Int) * -1).toNat = xs.size - 1 - m := by omega
    rw [this]
  rw [e, krv_range, List.filterMap_reverse, krv_all]
theorem getItem_tuple_rev {t sl : Addr} {items : Array Value} {vk : Value} {Q : Value → Shared → Prop} (ht : IsTup s.heap t items) (hs : s.heap.IsSliceOf sl .none .none vk) (pk : IsPart vk (some (-1)))
    (h : Q (.ref s.heap.objs.size) { s with heap := s.heap.push { cls := .type "tuple", data := .seq items.toList.reverse.toArray } })
    (hsz : items.size ≤ sizeLine) : wpAny (model prog w) A (getItem (.ref t) (.ref sl)) Q E s := by
  have htake : sizeOk (.seq items.toList.reverse.toArray) := by
    show items.toList.reverse.toArray.size ≤ sizeLine
    rw [List.size_toArray, List.length_reverse, Array.length_toList]
    exact hsz
  obtain ⟨os, hos, hcs, hds⟩ := id hs
  have hTs : s.TypeIs (.ref sl) "slice" := ⟨os, hos, hcs⟩
  unfold getItem
  try with_reducible refine wpAny_holding ?_
  first | refine wpAny_bind (wpAny_pure ?_) | skip
  refine wpAny_bind (wpAny_sequenceKey ht.typeIs (by decide) ?_)
  refine wpAny_bind (wpAny_callSpecial?_slot (name := Str.ofString "__getitem__") ht.typeIs PyProof.Rows.slot_tuple_getitem
    (wpAny_call_entry PyProof.Rows.slot_tuple_getitem ht.typeIs entry_tuple_getitem ?_ (args_tuple_getitem _ _)))
  show wpAny _ _ (Builtin.Tuple.tupleItemsOf (.ref t) >>= _) _ _ s
  refine wpAny_bind (tupleItemsOf_ ht ?_)
  refine wpAny_bind (wpAny_typeOf hTs ?_)
  rw [if_pos (by decide)]
  refine wpAny_bind (sliceApplied_rev hs pk ?_)
  have hno : ¬ ((((items.size : Int) - 1) == 0 && (-1 : Int) == 1 && items.size == items.size) = true) := by simp
  show wpAny _ _ (if (((items.size : Int) - 1) == 0 && (-1 : Int) == 1 && items.size == items.size) = true then _ else _) _ _ s
  rw [if_neg hno, pick_rev]
  first
    | exact wpAny_bind (m := Builtin.Tuple.tupleExact _) (wpAny_newObj_type (wpAny_pure ⟨_, rfl, wpAny_pure h⟩) htake)
    | exact wpAny_bind (m := Builtin.Tuple.tupleExact _) (wpAny_newObj_type (wpAny_bind (wpAny_pure (wpAny_pure ⟨_, rfl, wpAny_pure h⟩))) htake)
    | exact wpAny_bind (wpAny_bind (m := Builtin.Tuple.tupleExact _) (wpAny_newObj_type (wpAny_pure (wpAny_pure ⟨_, rfl, wpAny_pure h⟩)) htake))
    | exact wpAny_bind (wpAny_bind (m := Builtin.Tuple.tupleExact _) (wpAny_newObj_type (wpAny_pure ⟨_, rfl, wpAny_pure h⟩) htake))
end
end Y.HR
namespace Y
open PySem PySem.Spec PyProof.Rows L2
def RvR (X : Cx) (r : V → Hp → VK → Prop) : Prop :=
  ∀ (pins : List (Addr × Obj)) (s : Shared) (σ : St) (H : Hp) (x : V) (v vk : Value) (sl : Addr) (Q : VK), Inv X pins σ H s → RelV x v → s.heap.IsSliceOf sl .none .none vk → IsPart vk (some (-1)) → r x H Q →
    ∃ T id, typeLookup (.type T) "__getitem__" = pure (some (.builtin id)) ∧ s.TypeIs v T ∧ wpAny (model X.prog X.w) X.A (getItem v (.ref sl)) (EP X pins σ Q) X.xe s
theorem RvR.or {X : Cx} {r r' : V → Hp → VK → Prop} (h : RvR X r) (h' : RvR X r') : RvR X (fun x H Q => r x H Q ∨ r' x H Q) := by
  intro pins s σ H x v vk sl Q I rx hs pk q
  rcases q with q | q
  · exact h pins s σ H x v vk sl Q I rx hs pk q
  · exact h' pins s σ H x v vk sl Q I rx hs pk q
section
variable {X : Cx} {e k : Expr} {te : TE} {p2 pos : Pos}
def rRvT (K : PySem.W.Frag) : V → Hp → VK → Prop := fun x H Q => ∃ a xs, x = .ref a ∧ SqT K H a xs ∧ ∀ p, H p = none → Q (.ref p) (upd H p (.tup xs.reverse))
theorem rv_tup : RvR X (rRvT X.K) := by
  intro pins s σ H x v vk sl Q I rx hs pk h
  obtain ⟨a, xs, rfl, hx, q⟩ := h
  cases rx
  obtain ⟨its, r, ht, hz⟩ := I.tuple hx
  have hlen : its.toArray.size = xs.length := by rw [List.size_toArray]; exact r.length.symm
  refine ⟨"tuple", _, PyProof.Rows.slot_tuple_getitem.lookup, ht.typeIs, ?_⟩
  refine HR.getItem_tuple_rev ht hs pk ?_ (by rw [hlen]; exact hz)
  refine ⟨.ref s.heap.objs.size, _, I.laid (t' := s.toks) (o := .tup xs.reverse) (fun b ob q => Heap.get?_push_of_some _ q) (Nat.le_refl _) ?_, rfl, q _ (I.hok.fresh (Nat.le_refl _))⟩
  exact ⟨by rw [List.length_reverse]; exact hz, _, r.reverse, IsTup.new _ _⟩
def rRvL (K : PySem.W.Frag) : V → Hp → VK → Prop := fun x H Q => ∃ a xs, x = .ref a ∧ SqL K H a xs ∧ ∀ p, H p = none → Q (.ref p) (upd H p (.lst xs.reverse))
theorem rv_list : RvR X (rRvL X.K) := by
  intro pins s σ H x v vk sl Q I rx hs pk h
  obtain ⟨a, xs, rfl, hx, q⟩ := h
  cases rx
  obtain ⟨its, r, ht, hz⟩ := I.list hx
  have hlen := r.length
  refine ⟨"list", _, slot_list_getitem.lookup, ht.isList.typeIs, ?_⟩
  refine wpAny_getItem_list_slice ht.isList hs .none .none pk (by simp) ?_ (by rw [List.size_toArray] <;> omega)
  rw [PySem.W.krv_pick]
  refine ⟨.ref s.heap.objs.size, _, I.laid (t' := s.toks) (o := .lst xs.reverse) (fun b ob q => Heap.get?_push_of_some _ q) (Nat.le_refl _) ?_, rfl, q _ (I.hok.fresh (Nat.le_refl _))⟩
  exact ⟨by rw [List.length_reverse]; exact hz, _, 0, r.reverse, Heap.get?_push_size _ rfl⟩
def tRv (r : V → Hp → VK → Prop) (te : TE) (tk : TO) : TE := fun σ H Q => te σ H fun x H1 => tk σ H1 fun l H2 => l = some (-1) ∧ r x H2 Q
theorem pe_rev {r : V → Hp → VK → Prop} {tk : TO} (hr : RvR X r) (he : PE X e te) (hk : PO X (some k) tk) : PE X (.Subscript e (.Slice none none (some k) p2) pos) (tRv r te tk) := by
  refine ⟨fun pins s σ H Q I h => ?_⟩
  refine Subscript_ (thn (he.run pins s σ H _ I h) fun v s1 ⟨x, H1, I1, r1, q1⟩ => ?_)
  refine wpAny_Slice ?_
  rw [evalPart_none]
  refine wpAny_pure ?_
  refine wpAny_pure ?_
  refine thn (hk.run pins s1 σ H1 _ I1 q1) fun vk s3 ⟨l, H3, I3, pk, e3, q3⟩ => ?_
  subst e3
  have I4 : Inv X pins σ H3 { s3 with heap := s3.heap.push { cls := .type "slice", data := .fields #[.none, .none, vk] } } := I3.kept (t' := s3.toks) fun b ob q => Heap.get?_push_of_some _ q
  obtain ⟨T, id, hT, ht, hg⟩ := hr pins { s3 with heap := s3.heap.push { cls := .type "slice", data := .fields #[.none, .none, vk] } } σ H3 x v vk s3.heap.objs.size Q I4 r1 (Heap.IsSliceOf.new ..) pk q3
  show wpAny (model X.prog X.w) X.A (subscriptTail e (.Slice none none (some k) p2) v (.ref s3.heap.objs.size)) (EP X pins σ Q) X.xe { s3 with heap := s3.heap.push { cls := .type "slice", data := .fields #[.none, .none, vk] } }
  exact tail_any (ops := [v, .ref s3.heap.objs.size]) ht hT hg (by with_unfolding_all rfl)
theorem Reps.revs {K : PySem.W.Frag} {H : Hp} {P : Pr} : ∀ {ds : List D} {vs : List V}, Reps K H ds P vs → Reps K H ds.reverse P vs.reverse
  | [], _, h => by rw [h.nil_iff]; exact Reps.nil
  | d :: ds, _, h => by
    obtain ⟨v, ws, rfl, h1, h2⟩ := h.cons_iff
    rw [List.reverse_cons, List.reverse_cons]
    exact (Reps.revs h2).append (Reps.cons h1 Reps.nil)
def revD : D → R D
  | .tup ds => .ok (.tup ds.reverse)
  | .lst ds => .ok (.lst ds.reverse)
  | _ => .stk
def cRev (a : EM) (k : OM) : EM := fun ρ => do
  let (h, ρ1) ← a ρ
  let (l, ρ2) ← k ρ1
  let d ← (h.d ρ2).nox
  let z ← (if l = some (-1) then revD d else .stk).nox
  pure (.fr z, ρ2)
variable {P0 : Pr} {O W : List Nat} {E : EK} {ma : EM} {mk : OM}
theorem ce_rev (ha : CEx X P0 O W E e ma) (hk : CO X P0 O W E (some k) mk) : CEx X P0 O W E (.Subscript e (.Slice none none (some k) p2) pos) (cRev ma mk) := PE.imp (pe_rev (rv_list.or rv_tup) ha hk) fun σ H Q ⟨ρ, S, h⟩ => by
  refine ⟨ρ, S, h.of_bind.mono fun ⟨h1, ρ1⟩ q x H1 S1 k1 r1 => ⟨ρ1, S1, (q.keep k1).of_bind.mono fun ⟨l, ρ2⟩ q2 H2 S2 k2 => ?_⟩⟩
  obtain ⟨dx, e1, q4⟩ := q2.of_nox
  obtain ⟨dz, e3, q5⟩ := q4.of_nox
  by_cases c : l = some (-1)
  · refine ⟨c, ?_⟩
    rw [if_pos c] at e3
    have rx := (r1.keep S1 k2).d S2 e1
    have out := out_of S2 (k1.trans k2) q5
    unfold revD at e3
    split at e3
    · cases e3
      obtain ⟨p, vs, rfl, t1, t2⟩ := rx.tup
      exact .inr ⟨p, vs, rfl, SqT.of t1, fun p hp => out.newT S2.dom (Reps.revs t2) hp⟩
    · cases e3
      obtain ⟨p, vs, rfl, t1, t2⟩ := rx.lst
      exact .inl ⟨p, vs, rfl, SqL.of t1, fun p hp => out.newL S2.dom (Reps.revs t2) hp⟩
    · cases e3
  · rw [if_neg c] at e3
    cases e3
end
@[simp] theorem e_rev {a : EM} {k : OM} {ρ : Env} : cRev a k ρ = (a ρ >>= fun p => k p.2 >>= fun q => (p.1.d q.2).nox >>= fun d => (if q.1 = some (-1) then revD d else .stk).nox >>= fun z => R.ok (.fr z, q.2)) := id rfl
@[simp] theorem d_revT {x : List D} : revD (.tup x) = .ok (.tup x.reverse) := id rfl
@[simp] theorem d_revL {x : List D} : revD (.lst x) = .ok (.lst x.reverse) := id rfl
@[simp] theorem d_mulS {x : Str} {k : Int} : mulD (.str x) (.int k) = if k < 2 ^ 20 ∧ -(2 ^ 20) < k ∧ szOk (x.length * k.toNat) = true then .ok (.str (repS k x)) else .stk := id rfl
@[simp] theorem d_mulT {x : List D} {k : Int} : mulD (.tup x) (.int k) = if x.isEmpty = false ∧ -(2 ^ 20) < k ∧ k ≤ 1000 ∧ x.length ≤ 1000 then .ok (.tup (List.replicate k.toNat x).flatten) else .stk := id rfl
@[simp] theorem d_mulL {x : List D} {k : Int} : mulD (.lst x) (.int k) = if k < 2 ^ 20 ∧ -(2 ^ 20) < k ∧ szOk (x.length * k.toNat) = true then .ok (.lst (List.replicate k.toNat x).flatten) else .stk := id rfl
end Y

set_option Elab.async false
set_option linter.all false
set_option maxRecDepth 100000
namespace Y
open PySem PySem.Spec PyProof.Rows L2
section
variable {K : PySem.W.Frag} {P0 : Pr} {O W U : List Nat} {ρ : Y.Env} {σ : L2.St} {H : Hp}
theorem RepO.less2 {d : D} {P P' : Pr} {v : V} (hm : ∀ b, P b → isMut (H b)) (h : RepO K H d P v) (hp : ∀ b, P' b → P b) : RepO K H d P' v := h.mono hm (fun _ _ e _ => e) (fun b z => .inl (hp b z)) fun _ _ _ e => e
theorem Sim.openL (S : Sim K P0 O W ρ σ H) {i : Nat} {p : Addr} (hi : i ∉ O) (hl : i < ρ.length) (hp : H p = none) : Sim K P0 (i :: O) W (ρ.set i (some (.lst []))) (σ.set i (some (.ref p))) (upd H p (.lst [])) := by
  have hs : i < σ.length := Nat.lt_of_lt_of_le hl S.len
  have np : ¬ FA P0 O σ p := fun z => by have := S.dom p z; rw [hp] at this; exact this
  have gs : ∀ {j : Nat} {b : Addr}, j ∈ i :: O → (σ.set i (some (V.ref p)))[j]? = some (some (.ref b)) → (j = i ∧ b = p) ∨ (j ∈ O ∧ j ≠ i ∧ σ[j]? = some (some (.ref b))) := fun {j b} hj e => by
    by_cases hij : i = j
    · subst hij
      rw [List.getElem?_set_self hs] at e
      cases e
      exact .inl ⟨rfl, rfl⟩
    · rw [List.getElem?_set_ne hij] at e
      exact .inr ⟨(List.mem_cons.mp hj).resolve_left fun z => hij z.symm, fun z => hij z.symm, e⟩
  have fa : ∀ b, FA P0 (i :: O) (σ.set i (some (V.ref p))) b → FA P0 O σ b ∨ b = p := fun b z => by
    rcases z with z | ⟨j, hj, e⟩
    · exact .inl (.inl z)
    · rcases gs hj e with ⟨_, e⟩ | ⟨h1, _, h2⟩
      · exact .inr e
      · exact .inl (.inr ⟨j, h1, h2⟩)
  have sm : Same H (upd H p (.lst [])) := Same.new hp
  refine ⟨fun j hj => List.mem_cons_of_mem _ (S.sub j hj), by simpa using S.len, fun b z => ?_, fun j d e n => ?_, fun j d e n => ?_, fun j k a hj hk e1 e2 => ?_, fun a z hz => ?_⟩
  · by_cases hb : b = p
    · rw [hb, upd_same]; trivial
    · rw [upd_ne hb]
      rcases fa b z with z | z
      · exact S.dom b z
      · exact absurd z hb
  · have hij : i ≠ j := fun z => n (by simp [z])
    rw [List.getElem?_set_ne hij] at e ⊢
    obtain ⟨v, h1, h2⟩ := S.val j d e fun z => n (List.mem_cons_of_mem _ z)
    exact ⟨v, h1, h2.mono d S.dom (fun b o e _ => sm b o e) fun b z => (fa b z).imp id fun e => by rw [e]; exact hp⟩
  · by_cases hij : i = j
    · subst hij
      rw [List.getElem?_set_self hl] at e
      cases e
      exact ⟨_, List.getElem?_set_self hs, p, [], rfl, upd_same, Reps.nil⟩
    · rw [List.getElem?_set_ne hij] at e ⊢
      obtain ⟨v, h1, h2⟩ := S.own j d e ((List.mem_cons.mp n).resolve_left fun z => hij z.symm)
      exact ⟨v, h1, h2.mono S.dom (fun b o e _ => sm b o e) (fun b z => (fa b z).imp id fun e => by rw [e]; exact hp) fun a o _ e => sm a o e⟩
  · rcases gs hj e1 with ⟨a1, a2⟩ | ⟨a1, a2, a3⟩
    · rcases gs hk e2 with ⟨b1, b2⟩ | ⟨b1, b2, b3⟩
      · rw [a1, b1]
      · exact absurd (.inr ⟨k, b1, by rw [← a2]; exact b3⟩) np
    · rcases gs hk e2 with ⟨b1, b2⟩ | ⟨b1, b2, b3⟩
      · exact absurd (.inr ⟨j, a1, by rw [← b2]; exact a3⟩) np
      · exact S.sep j k a a1 b1 a3 b3
  · obtain ⟨j, hj, e⟩ := z
    rcases gs hj e with ⟨_, e⟩ | ⟨h1, _, h2⟩
    · exact np (.inl (by rw [← e]; exact hz))
    · exact S.sep0 a ⟨j, h1, h2⟩ hz
end
theorem Res.chg {E : EK} {O O1 : List Nat} {σ σ1 : L2.St} {H H1 : Hp} {α : Type} {r : R α} {k : α → Prop} (h : Res E O σ H r k) (f : ∀ H', Keep O1 σ1 H1 H' → Keep O σ H H') : Res E O1 σ1 H1 r k := by
  cases r with
  | ok a => exact h
  | er c ds => exact fun H' kp => h H' (f H' kp)
  | stk => exact h
section
variable {X : Cx} {P0 : Pr} {O W U : List Nat} {E : EK} {st2 : Stmt} {m : SM}
end
end Y

set_option Elab.async false
set_option linter.all false
set_option maxRecDepth 100000
namespace Y
open PySem PySem.Spec PyProof.Rows L2
section
variable {K : PySem.W.Frag} {H : Hp} {P : Pr}
end
section
variable {X : Cx} {P0 : Pr} {Oc : List Nat} {E : EK} {XE : XK} {e : Expr} {es : List Expr} {ms : AM} {pos : Pos} {k np : Nat} {name : Str}
end
end Y

set_option Elab.async false
set_option linter.all false
set_option maxRecDepth 100000
namespace Y
open PySem PySem.Spec PyProof.Rows L2
section
variable {κ : Type} [DecidableEq κ]
def findD : List κ → List D → κ → Option D
  | k' :: ks, d :: ds, k => if k' = k then some d else findD ks ds k
  | _, _, _ => none
theorem findD_rep {K : PySem.W.Frag} {H : Hp} {P : Pr} {k : κ} : ∀ {ks : List κ} {ds : List D} {vs : List V}, Reps K H ds P vs → ks.length = vs.length →
    (∀ d, findD ks ds k = some d → ∃ v, valV (ks.zip vs) k = some v ∧ Rep K H d P v) ∧ (findD ks ds k = none → valV (ks.zip vs) k = none)
  | [], ds, vs, h, hl => by
    have : vs = [] := List.eq_nil_of_length_eq_zero hl.symm
    subst this
    exact ⟨fun d e => by simp [findD] at e, fun _ => rfl⟩
  | k' :: ks, [], vs, h, hl => by
    have : vs = [] := h.nil_iff
    subst this
    simp at hl
  | k' :: ks, d' :: ds, vs, h, hl => by
    obtain ⟨v, ws, rfl, h1, h2⟩ := h.cons_iff
    obtain ⟨i1, i2⟩ := findD_rep (k := k) (ks := ks) h2 (by simpa using hl)
    by_cases e : k' = k
    · refine ⟨fun d q => ?_, fun q => ?_⟩
      · rw [findD, if_pos e] at q
        cases q
        exact ⟨v, by rw [List.zip_cons_cons]; exact valV_pos e, h1⟩
      · rw [findD, if_pos e] at q; cases q
    · refine ⟨fun d q => ?_, fun q => ?_⟩
      · rw [findD, if_neg e] at q
        obtain ⟨w, w1, w2⟩ := i1 d q
        exact ⟨w, by rw [List.zip_cons_cons, valV_neg e]; exact w1, w2⟩
      · rw [findD, if_neg e] at q
        rw [List.zip_cons_cons, valV_neg e]
        exact i2 q
end
def keyOf : D → Option Key
  | .int i => some (.inl i)
  | .str x => some (.inr x)
  | _ => none
def keysOf : List D → Option (List Key)
  | [] => some []
  | d :: ds => match keyOf d with
    | some k => (keysOf ds).map (k :: ·)
    | none => none
theorem keyOf_rep {K : PySem.W.Frag} {H : Hp} {P : Pr} {d : D} {v : V} {k : Key} (h : RepW K H d P v) (e : keyOf d = some k) : v = kV k := by
  cases d <;> simp only [keyOf, Option.some.injEq, reduceCtorEq] at e
  · subst e; rw [h.int]; rfl
  · subst e; rw [h.str]; rfl
theorem keysOf_rep {K : PySem.W.Frag} {H : Hp} {P : Pr} : ∀ {ds : List D} {vs : List V} {ks : List Key}, Reps K H ds P vs → keysOf ds = some ks → vs = ks.map kV
  | [], vs, ks, h, e => by simp [keysOf] at e; subst e; exact h.nil_iff
  | d :: ds, vs, ks, h, e => by
    obtain ⟨v, ws, rfl, h1, h2⟩ := h.cons_iff
    unfold keysOf at e
    cases q : keyOf d with
    | none => rw [q] at e; cases e
    | some k =>
      rw [q] at e
      cases r : keysOf ds with
      | none => rw [r] at e; cases e
      | some ks' =>
        rw [r] at e
        cases e
        have i := keysOf_rep h2 r
        have j : v = kV k := by
          cases d <;> simp only [keyOf, Option.some.injEq, reduceCtorEq] at q
          · subst q; unfold Rep at h1; rw [h1]; rfl
          · subst q; unfold Rep at h1; rw [h1]; rfl
        rw [i, j]; rfl
/-- what d holds at the key: none where it holds nothing -/
def getDic : D → D → R (Option D)
  | .dik ks ds, y => match keyOf y with
    | some k => .ok (findD ks ds k)
    | none => .stk
  | .dit ks ds, .tup ys => match keysOf ys with
    | some k => .ok (findD ks ds k)
    | none => .stk
  | _, _ => .stk
section
variable {K : PySem.W.Frag} {H : Hp} {P : Pr}
theorem getDic_rep {dx dy : D} {x y : V} {o : Option D} (rx : RepW K H dx P x) (ry : RepW K H dy P y) (e : getDic dx dy = .ok o) :
    ∃ a r, x = .ref a ∧ DGet H a y r ∧ r.isSome = o.isSome ∧ ∀ d, o = some d → ∃ v, r = some v ∧ Rep K H d P v := by
  unfold getDic at e
  split at e
  · rename_i ks ds
    obtain ⟨a, vs, rfl, hl, rd, rs⟩ := rx
    cases q : keyOf dy with
    | none => rw [q] at e; cases e
    | some k =>
      rw [q] at e
      cases e
      obtain ⟨f1, f2⟩ := findD_rep (k := k) rs hl
      refine ⟨a, valV (ks.zip vs) k, rfl, .inl ⟨_, k, rd, keyOf_rep ry q, rfl⟩, ?_, f1⟩
      cases z : findD ks ds k with
      | none => rw [f2 z]; rfl
      | some d => obtain ⟨v, v1, _⟩ := f1 d z; rw [v1]; rfl
  · rename_i ks ds ys
    obtain ⟨a, vs, rfl, hl, rd, rs⟩ := rx
    obtain ⟨b, us, rfl, h1, h2⟩ := ry.tup
    cases q : keysOf ys with
    | none => rw [q] at e; cases e
    | some k =>
      rw [q] at e
      cases e
      obtain ⟨f1, f2⟩ := findD_rep (k := k) rs hl
      have eu := keysOf_rep h2 q
      subst eu
      refine ⟨a, valV (ks.zip vs) k, rfl, .inr ⟨_, k, b, rd, rfl, h1, rfl⟩, ?_, f1⟩
      cases z : findD ks ds k with
      | none => rw [f2 z]; rfl
      | some d => obtain ⟨v, v1, _⟩ := f1 d z; rw [v1]; rfl
  · cases e
end
def cDIn (neg : Bool) (b a : EM) : EM := fun ρ => do
  let (h2, ρ1) ← b ρ
  let (h1, ρ2) ← a ρ1
  let x ← (h1.d ρ2).nox
  let y ← (h2.d ρ2).nox
  let o ← (getDic x y).nox
  pure (.fr (.bl (if neg = true then !o.isSome else o.isSome)), ρ2)
section
variable {X : Cx} {P0 : Pr} {O W : List Nat} {E : EK} {a b : Expr} {ma mb : EM} {pos : Pos}
theorem ce_din (hu : X.A.units + 1 < cLine) (hb : CEx X P0 O W E b mb) (ha : CEx X P0 O W E a ma) (hm : behindInMarks .In a = false := by rfl) : CEx X P0 O W E (.Compare b [.In] [a] pos) (cDIn false mb ma) := PE.imp (pe_cmp (pc_din hu hb ha) hm) fun σ H Q ⟨ρ, S, h⟩ => by
  refine ⟨ρ, S, h.of_bind.mono fun ⟨h2, ρ1⟩ q y H1 S1 k1 r2 => ⟨ρ1, S1, (q.keep k1).of_bind.mono fun ⟨h1, ρ2⟩ q2 x H2 S2 k2 r1 => ?_⟩⟩
  obtain ⟨dx, e1, q3⟩ := q2.of_nox
  obtain ⟨dy, e2, q4⟩ := q3.of_nox
  obtain ⟨o, e3, q5⟩ := q4.of_nox
  have rx := r1.d S2 e1
  have ry := (r2.keep S1 k2).d S2 e2
  obtain ⟨c, r, rfl, g, i, _⟩ := getDic_rep rx ry e3
  refine ⟨c, r, rfl, g, ?_⟩
  rw [i]
  exact (out_of (K := X.K) S2 (k1.trans k2) q5).bl
end
section
variable {K : PySem.W.Frag} {P0 : Pr} {O W U : List Nat} {ρ : Y.Env} {σ : L2.St} {H : Hp}
theorem Sim.newO (S : Sim K P0 O W ρ σ H) {i : Nat} {p : Addr} {d : D} {o : HO} (hi : i ∈ O) (hl : i < ρ.length) (hp : H p = none) (ho : isMut (some o)) (r : ∀ P, RepO K (upd H p o) d P (.ref p)) : Sim K P0 O W (ρ.set i (some d)) (σ.set i (some (.ref p))) (upd H p o) := by
  have hs : i < σ.length := Nat.lt_of_lt_of_le hl S.len
  have np : ¬ FA P0 O σ p := fun z => by have := S.dom p z; rw [hp] at this; exact this
  have gs : ∀ {j : Nat} {b : Addr}, j ∈ O → (σ.set i (some (V.ref p)))[j]? = some (some (.ref b)) → (j = i ∧ b = p) ∨ (j ≠ i ∧ σ[j]? = some (some (.ref b))) := fun {j b} hj e => by
    by_cases hij : i = j
    · subst hij
      rw [List.getElem?_set_self hs] at e
      cases e
      exact .inl ⟨rfl, rfl⟩
    · rw [List.getElem?_set_ne hij] at e
      exact .inr ⟨fun z => hij z.symm, e⟩
  have fa : ∀ b, FA P0 O (σ.set i (some (V.ref p))) b → FA P0 O σ b ∨ b = p := fun b z => by
    rcases z with z | ⟨j, hj, e⟩
    · exact .inl (.inl z)
    · rcases gs hj e with ⟨_, e⟩ | ⟨_, h2⟩
      · exact .inr e
      · exact .inl (.inr ⟨j, hj, h2⟩)
  have sm : Same H (upd H p o) := Same.new hp
  refine ⟨S.sub, by simpa using S.len, fun b z => ?_, fun j d' e n => ?_, fun j d' e n => ?_, fun j k a hj hk e1 e2 => ?_, fun a z hz => ?_⟩
  · by_cases hb : b = p
    · rw [hb, upd_same]; exact ho
    · rw [upd_ne hb]
      rcases fa b z with z | z
      · exact S.dom b z
      · exact absurd z hb
  · have hij : i ≠ j := fun z => n (by rw [← z]; exact hi)
    rw [List.getElem?_set_ne hij] at e ⊢
    obtain ⟨v, h1, h2⟩ := S.val j d' e n
    exact ⟨v, h1, h2.mono d' S.dom (fun b o e _ => sm b o e) fun b z => (fa b z).imp id fun e => by rw [e]; exact hp⟩
  · by_cases hij : i = j
    · subst hij
      rw [List.getElem?_set_self hl] at e
      cases e
      exact ⟨_, List.getElem?_set_self hs, r _⟩
    · rw [List.getElem?_set_ne hij] at e ⊢
      obtain ⟨v, h1, h2⟩ := S.own j d' e n
      exact ⟨v, h1, h2.mono S.dom (fun b o e _ => sm b o e) (fun b z => (fa b z).imp id fun e => by rw [e]; exact hp) fun a o _ e => sm a o e⟩
  · rcases gs hj e1 with ⟨a1, a2⟩ | ⟨a2, a3⟩
    · rcases gs hk e2 with ⟨b1, b2⟩ | ⟨b2, b3⟩
      · rw [a1, b1]
      · exact absurd (.inr ⟨k, hk, by rw [← a2]; exact b3⟩) np
    · rcases gs hk e2 with ⟨b1, b2⟩ | ⟨b2, b3⟩
      · exact absurd (.inr ⟨j, hj, by rw [← b2]; exact a3⟩) np
      · exact S.sep j k a hj hk a3 b3
  · obtain ⟨j, hj, e⟩ := z
    rcases gs hj e with ⟨_, e⟩ | ⟨_, h2⟩
    · exact np (.inl (by rw [← e]; exact hz))
    · exact S.sep0 a ⟨j, hj, h2⟩ hz
end
theorem tr_new {K : PySem.W.Frag} {P0 : Pr} {O W U : List Nat} {ρ : Y.Env} {σ : L2.St} {H : Hp} (S : Sim K P0 O W ρ σ H) {i : Nat} {p : Addr} {o : HO} (hi : i ∈ O) (hu : i ∉ U) (hl : i < ρ.length) (hp : H p = none) : Tr O U σ H (σ.set i (some (.ref p))) (upd H p o) where
  keep := fun b u e _ => by rw [upd_ne (ne_of_none e hp)]; exact e
  some := fun b e => by
    by_cases hb : b = p
    · rw [hb, upd_same]; intro z; cases z
    · rw [upd_ne hb]; exact e
  own := fun b ⟨j, hj, e⟩ => by
    by_cases hij : i = j
    · subst hij
      rw [List.getElem?_set_self (Nat.lt_of_lt_of_le hl S.len)] at e
      cases e
      exact .inr hp
    · rw [List.getElem?_set_ne hij] at e
      exact .inl ⟨j, hj, e⟩
  unch := fun j hj => List.getElem?_set_ne fun z => hu (by rw [z]; exact hj)
/-- tup: its keys will be tuples -/
def sDicNew (tup : Bool) (i : Nat) : SM := fun ρ => if i < ρ.length then .ok (.nx, ρ.set i (some (if tup = true then .dit [] [] else .dik [] []))) else .stk
section
variable {X : Cx} {P0 : Pr} {O W U : List Nat} {E : EK}
theorem cs_dicnew {tup : Bool} {i : Nat} {x : Str} {p p2 p3 : Pos} (hN : X.N.Nodup) (hi : i ∈ O := by decide) (hu : i ∉ U := by decide) (hx : X.N[i]? = some x := by rfl) (hl : Loc X.env.scope x := by first | exact Or.inl rfl | exact Or.inr rfl)
    (hf : X.fn x = true ∨ X.env.scope.names.lookup x = some .local := by first | exact .inl rfl | exact .inr rfl)
    (hs : swapsWithSole [.Name x p] (.Dict [] [] p2) p3.line X.env = pure false := by rfl) (hw : swappedStores [.Name x p] (.Dict [] [] p2) X.env = pure none := by rfl) :
    CS X P0 O W U E (.Assign [.Name x p] (.Dict [] [] p2) p3) (sDicNew tup i) := by
  cases tup with
  | false =>
    refine PS.imp (ps_asg pe_dnewK (pg_name hN hx hl hf) hs hw) fun D σ H ⟨ρ, S, h⟩ => fun q hq => ?_
    have h : Res E O σ H (if i < ρ.length then R.ok (Fl.nx, ρ.set i (some (.dik [] []))) else .stk) _ := h
    by_cases hlen : i < ρ.length
    · rw [if_pos hlen] at h
      exact h _ _ (S.newO hi hlen hq trivial fun P => ⟨q, [], rfl, rfl, upd_same, Reps.nil⟩) (tr_new S hi hu hlen hq) (by simp)
    · rw [if_neg hlen] at h; exact h.elim
  | true =>
    refine PS.imp (ps_asg pe_dnewT (pg_name hN hx hl hf) hs hw) fun D σ H ⟨ρ, S, h⟩ => fun q hq => ?_
    have h : Res E O σ H (if i < ρ.length then R.ok (Fl.nx, ρ.set i (some (.dit [] []))) else .stk) _ := h
    by_cases hlen : i < ρ.length
    · rw [if_pos hlen] at h
      exact h _ _ (S.newO hi hlen hq trivial fun P => ⟨q, [], rfl, rfl, upd_same, Reps.nil⟩) (tr_new S hi hu hlen hq) (by simp)
    · rw [if_neg hlen] at h; exact h.elim
end
end Y

set_option Elab.async false
set_option linter.all false
set_option maxRecDepth 100000
namespace Y
open PySem PySem.Spec PyProof.Rows L2
section
variable {κ : Type} [DecidableEq κ]
def setD : List κ → List D → κ → D → List D
  | k' :: ks, d' :: ds, k, d => (if k' = k then d else d') :: setD ks ds k d
  | _, _, _, _ => []
def setV : List κ → List V → κ → V → List V
  | k' :: ks, d' :: ds, k, d => (if k' = k then d else d') :: setV ks ds k d
  | _, _, _, _ => []
theorem setV_len {k : κ} {v : V} : ∀ {ks : List κ} {vs : List V}, ks.length = vs.length → (setV ks vs k v).length = ks.length
  | [], _, _ => rfl
  | _ :: _, [], h => by simp at h
  | _ :: ks, _ :: vs, h => by simp [setV, setV_len (ks := ks) (vs := vs) (by simpa using h)]
theorem set_rep {K : PySem.W.Frag} {H : Hp} {P : Pr} {k : κ} {d : D} {v : V} (r : Rep K H d P v) : ∀ {ks : List κ} {ds : List D} {vs : List V}, Reps K H ds P vs → ks.length = vs.length → Reps K H (setD ks ds k d) P (setV ks vs k v)
  | [], ds, vs, h, hl => by
    have : vs = [] := List.eq_nil_of_length_eq_zero hl.symm
    subst this
    cases ds <;> exact Reps.nil
  | k' :: ks, [], vs, h, hl => by
    have : vs = [] := h.nil_iff
    subst this
    simp at hl
  | k' :: ks, d' :: ds, vs, h, hl => by
    obtain ⟨w, ws, rfl, h1, h2⟩ := h.cons_iff
    have ih := set_rep (k := k) r (ks := ks) h2 (by simpa using hl)
    show Reps K H ((if k' = k then d else d') :: setD ks ds k d) P ((if k' = k then v else w) :: setV ks ws k v)
    by_cases e : k' = k
    · rw [if_pos e, if_pos e]; exact Reps.cons r ih
    · rw [if_neg e, if_neg e]; exact Reps.cons h1 ih
theorem map_put {k : κ} {v : V} : ∀ {ks : List κ} {vs : List V}, (ks.zip vs).map (fun kv => if kv.1 = k then (kv.1, v) else kv) = ks.zip (setV ks vs k v)
  | [], _ => rfl
  | _ :: _, [] => rfl
  | k' :: ks, w :: vs => by
    have ih := map_put (k := k) (v := v) (ks := ks) (vs := vs)
    rw [List.zip_cons_cons, List.map_cons, ih]
    show _ = (k' :: ks).zip ((if k' = k then v else w) :: setV ks vs k v)
    rw [List.zip_cons_cons]
    by_cases e : k' = k
    · rw [if_pos e, if_pos e]
    · rw [if_neg e, if_neg e]
theorem any_zip {k : κ} : ∀ {ks : List κ} {vs : List V}, ks.length = vs.length → ((ks.zip vs).any fun kv => decide (kv.1 = k)) = decide (k ∈ ks)
  | [], vs, h => by
    have : vs = [] := List.eq_nil_of_length_eq_zero h.symm
    subst this
    simp
  | _ :: _, [], h => by simp at h
  | k' :: ks, w :: vs, h => by
    have ih := any_zip (k := k) (ks := ks) (vs := vs) (by simpa using h)
    rw [List.zip_cons_cons, List.any_cons, ih, Bool.eq_iff_iff]
    simp only [Bool.or_eq_true, decide_eq_true_eq, List.mem_cons]
    exact ⟨fun h => h.imp (fun h => h.symm) id, fun h => h.imp (fun h => h.symm) id⟩
theorem zip_snoc {k : κ} {v : V} : ∀ {ks : List κ} {vs : List V}, ks.length = vs.length → ks.zip vs ++ [(k, v)] = (ks ++ [k]).zip (vs ++ [v])
  | [], vs, h => by
    have : vs = [] := List.eq_nil_of_length_eq_zero h.symm
    subst this
    rfl
  | _ :: _, [], h => by simp at h
  | k' :: ks, w :: vs, h => by
    have ih := zip_snoc (k := k) (v := v) (ks := ks) (vs := vs) (by simpa using h)
    rw [List.zip_cons_cons, List.cons_append, ih]
    rfl
def putKs (ks : List κ) (k : κ) : List κ := if k ∈ ks then ks else ks ++ [k]
def putDs (ks : List κ) (ds : List D) (k : κ) (d : D) : List D := if k ∈ ks then setD ks ds k d else ds ++ [d]
def putVs (ks : List κ) (vs : List V) (k : κ) (v : V) : List V := if k ∈ ks then setV ks vs k v else vs ++ [v]
theorem put_zip {k : κ} {v : V} {ks : List κ} {vs : List V} (hl : ks.length = vs.length) : putK (ks.zip vs) k v = (putKs ks k).zip (putVs ks vs k v) ∧ (putKs ks k).length = (putVs ks vs k v).length := by
  unfold putK putKs putVs
  rw [any_zip hl]
  by_cases c : k ∈ ks
  · rw [if_pos (decide_eq_true c), if_pos c, if_pos c, map_put]
    exact ⟨rfl, (setV_len hl).symm⟩
  · rw [if_neg (by simpa using c), if_neg c, if_neg c, zip_snoc hl]
    exact ⟨rfl, by simp [hl]⟩
theorem put_reps {K : PySem.W.Frag} {H : Hp} {P : Pr} {k : κ} {d : D} {v : V} {ks : List κ} {ds : List D} {vs : List V} (r : Rep K H d P v) (h : Reps K H ds P vs) (hl : ks.length = vs.length) : Reps K H (putDs ks ds k d) P (putVs ks vs k v) := by
  unfold putDs putVs
  by_cases c : k ∈ ks
  · rw [if_pos c, if_pos c]; exact set_rep r h hl
  · rw [if_neg c, if_neg c]; exact h.append (Reps.cons r Reps.nil)
end
def putDic : D → D → D → R D
  | .dik ks ds, y, d => match keyOf y with
    | some k => if szOk (ks.length + 1) = true then .ok (.dik (putKs ks k) (putDs ks ds k d)) else .stk
    | none => .stk
  | .dit ks ds, .tup ys, d => match keysOf ys with
    | some k => if szOk (ks.length + 1) = true then .ok (.dit (putKs ks k) (putDs ks ds k d)) else .stk
    | none => .stk
  | _, _, _ => .stk
def dicAt (i : Nat) (ρ : Y.Env) : R D := match ρ[i]? with
  | some (some (.dik ks ds)) => .ok (.dik ks ds)
  | some (some (.dit ks ds)) => .ok (.dit ks ds)
  | _ => .stk
def sDPutS (i : Nat) (mk mv : EM) : SM := fun ρ => do
  let (h, ρ1) ← mv ρ
  let d ← h.v.nox
  let _ ← (dicAt i ρ1).nox
  let (h2, ρ2) ← mk ρ1
  let k ← h2.v.nox
  let x ← (dicAt i ρ2).nox
  let z ← (putDic x k d).nox
  pure (.nx, ρ2.set i (some z))
section
variable {K : PySem.W.Frag} {X : Cx} {P0 : Pr} {O W U : List Nat} {E : EK} {e k : Expr} {ma mk : EM}
theorem dicAt_ok {i : Nat} {ρ : Y.Env} {x : D} (h : dicAt i ρ = .ok x) : ρ[i]? = some (some x) := by
  unfold dicAt at h
  split at h
  · rename_i q; cases h; exact q
  · rename_i q; cases h; exact q
  · cases h
theorem dicAt_ref {ρ : Y.Env} {σ : L2.St} {H : Hp} (S : Sim K P0 O W ρ σ H) {i : Nat} {x : D} (hi : i ∈ O) (h : dicAt i ρ = .ok x) : ∃ a, σ[i]? = some (some (.ref a)) := by
  have q := dicAt_ok h
  obtain ⟨v, h1, h2⟩ := S.own i x q hi
  cases x with
  | dik ks ds => obtain ⟨a, vs, rfl, _⟩ := h2; exact ⟨a, h1⟩
  | dit ks ds => obtain ⟨a, vs, rfl, _⟩ := h2; exact ⟨a, h1⟩
  | _ => unfold dicAt at h; rw [q] at h; cases h
theorem cs_dput {i : Nat} {x : Str} {p sp pos : Pos} (hu : X.A.units + 1 < cLine) (h : CEx X P0 O W E e ma) (hk : CEx X P0 O W E k mk) (hi : i ∈ O := by decide) (hx : X.N[i]? = some x := by rfl) (hv : Vis X.env.scope x := by first | exact Or.inl rfl | exact Or.inr (Or.inl rfl) | exact Or.inr (Or.inr rfl)) (hd : (x == ("__debug__" : Str)) = false := by decide) (hcd : (x == ("__classdict__" : Str)) = false := by decide)
    (hs : swapsWith e (some (.Subscript (.Name x p) k sp)) pos.line X.env = pure false := by rfl) :
    CS X P0 O W U E (.Assign [.Subscript (.Name x p) k sp] e pos) (sDPutS i mk ma) := PS.imp (ps_dput hu (pe_var (i := i) hx hv hd hcd) hk h hs) fun D σ H ⟨ρ, S, h⟩ => by
  refine ⟨ρ, S, (h.of_bind.down S.sub).mono fun ⟨hd, ρ1⟩ q v H1 S1 k1 r1 => ?_⟩
  obtain ⟨d, e1, q1⟩ := q.of_nox
  obtain ⟨x0, e0, q2⟩ := q1.of_nox
  obtain ⟨l, h1⟩ := dicAt_ref S1 hi e0
  refine ⟨.ref l, h1, ρ1, S1, ((q2.of_bind.down S1.sub).keep k1).mono fun ⟨hd2, ρ2⟩ q3 w H2 S2 k2 r2 => ?_⟩
  obtain ⟨dk, e2, q4⟩ := q3.of_nox
  obtain ⟨x1, e3, q5⟩ := Res.of_nox (show Res E O σ H ((dicAt i ρ2).nox >>= _) _ from q4)
  obtain ⟨z, e4, q6⟩ := Res.of_nox (show Res E O σ H ((putDic x1 dk d).nox >>= _) _ from q5)
  have rk := r2.v e2
  have rv := S1.rep k2 (r1.v e1)
  obtain ⟨v1, g1, g2⟩ := S2.own i x1 (dicAt_ok e3) hi
  rw [h1] at g1
  cases g1
  have pa : FA P0 O σ l := .inr ⟨i, hi, h1⟩
  have up : ∀ (o : HO) b u, H2 b = some u → ¬ FA P0 O σ b → upd H2 l o b = some u := fun o b u e n => by rw [upd_ne fun z => n (by rw [z]; exact pa)]; exact e
  unfold putDic at e4
  split at e4
  · rename_i ks ds
    obtain ⟨a, vs, ea, hl, hH, rs⟩ := g2
    cases ea
    cases qk : keyOf dk with
    | none => rw [qk] at e4; cases e4
    | some kk =>
      rw [qk] at e4
      simp only at e4
      split at e4
      · rename_i zs
        cases e4
        obtain ⟨pz, pl⟩ := put_zip (k := kk) (v := v) hl
        have ew : w = kV kk := keyOf_rep (rk.weak S2.dom) qk
        subst ew
        refine ⟨l, _, rfl, DPut.k hH (by rw [List.length_zip, ← hl, Nat.min_self]; exact of_decide_eq_true zs), ?_⟩
        rw [pz]
        exact q6 σ _ (S2.ownW hi h1 trivial ⟨l, _, rfl, pl, upd_same, (put_reps rv rs hl).mono _ S2.dom (up _) fun b z => .inl z⟩) (Tr.ownW S.sub (k1.trans k2) hi h1) rfl
      · cases e4
  · rename_i ks ds ys
    obtain ⟨a, vs, ea, hl, hH, rs⟩ := g2
    cases ea
    cases qk : keysOf ys with
    | none => rw [qk] at e4; cases e4
    | some kk =>
      rw [qk] at e4
      simp only at e4
      split at e4
      · rename_i zs
        cases e4
        obtain ⟨pz, pl⟩ := put_zip (k := kk) (v := v) hl
        unfold Rep at rk
        obtain ⟨b, us, rfl, b1, b2⟩ := rk
        have eu := keysOf_rep b2 qk
        subst eu
        refine ⟨l, _, rfl, DPut.t hH b1 (by rw [List.length_zip, ← hl, Nat.min_self]; exact of_decide_eq_true zs), ?_⟩
        rw [pz]
        exact q6 σ _ (S2.ownW hi h1 trivial ⟨l, _, rfl, pl, upd_same, (put_reps rv rs hl).mono _ S2.dom (up _) fun b z => .inl z⟩) (Tr.ownW S.sub (k1.trans k2) hi h1) rfl
      · cases e4
  · cases e4
end
end Y

set_option Elab.async false
set_option linter.all false
set_option maxRecDepth 100000
namespace Y
open PySem PySem.Spec PyProof.Rows L2
section
variable {X : Cx} {P0 : Pr} {O W U : List Nat} {E : EK} {XE : XK} {a b c e : Expr} {es : List Expr} {ma mb mc : EM} {ms : AM} {pos : Pos} {k np : Nat} {name : Str} {st : Stmt} {sts : List Stmt} {m n : SM}
variable {i : Nat} {ad : Addr}
end
section
variable {K : PySem.W.Frag} {P0 : Pr} {O W U : List Nat} {ρ : Env} {σ : St} {H : Hp}
theorem Sim.unset (S : Sim K P0 O W ρ σ H) {i : Nat} (hi : i ∉ O) (x : Option V) : Sim K P0 O W (ρ.set i none) (σ.set i x) H := by
  have no : ∀ {j : Nat} {d : D}, (ρ.set i none)[j]? = some (some d) → i ≠ j ∧ ρ[j]? = some (some d) := fun {j d} e => by
    by_cases hj : i = j
    · subst hj
      have h1 : i < ρ.length := by have := (List.getElem?_eq_some_iff.mp e).1; simpa using this
      rw [List.getElem?_set_self h1] at e; cases e
    · rw [List.getElem?_set_ne hj] at e; exact ⟨hj, e⟩
  refine S.move (by simpa using S.len) (fun j hj => ?_) (fun j hj d' e => (no e).2) fun j d' e n => ?_
  · exact List.getElem?_set_ne (fun (e : i = j) => hi (by rw [e]; exact hj))
  · obtain ⟨h1, h2⟩ := no e
    rw [List.getElem?_set_ne h1]
    exact S.val j d' h2 n
theorem Tr.unset {i : Nat} {x : Option V} (hi : i ∉ O) (hu : i ∉ U) : Tr O U σ H (σ.set i x) H :=
  ⟨fun _ _ e _ => e, fun _ e => e, fun b ⟨j, hj, z⟩ => .inl ⟨j, hj, by rwa [List.getElem?_set_ne fun (y : i = j) => hi (y ▸ hj)] at z⟩, fun j hj => List.getElem?_set_ne fun (y : i = j) => hu (y ▸ hj)⟩
theorem Tr.fewer {U' : List Nat} {σ' : St} {H' : Hp} (t : Tr O U σ H σ' H') (h : ∀ i ∈ U', i ∈ U) : Tr O U' σ H σ' H' := ⟨t.keep, t.some, t.own, fun i hi => t.unch i (h i hi)⟩
end
section
variable {X : Cx} {P0 : Pr} {O W U : List Nat} {E : EK}
end
end Y

set_option Elab.async false
set_option linter.all false
set_option maxRecDepth 100000
namespace Y
open PySem PySem.Spec PyProof.Rows L2
theorem all_cons {α : Type} {p : α → Prop} {c : α} {cl : List α} (h : p c) (t : ∀ c ∈ cl, p c) : ∀ x ∈ c :: cl, p x := List.forall_mem_cons.mpr ⟨h, t⟩
variable {ρ : Y.Env}
end Y

set_option Elab.async false
set_option linter.all false
set_option maxRecDepth 100000
namespace Y
open PySem PySem.Spec PyProof.Rows L2
def DicU : HO → Prop
  | .dK _ => True
  | .dT _ => True
  | _ => False
theorem Rd.only {H : Hp} {a b : Addr} {u o : HO} (hu : DicU u) (r : Rd H a u) (e : H b = Option.some o) (n1 : ¬ DicU o) (n2 : ∀ x w, o = .frz x w → ¬ DicU w) : b ≠ a := by
  rintro rfl
  rcases r with r | ⟨x, r⟩
  · rw [e] at r; cases r; exact n1 hu
  · rw [e] at r; cases r; exact n2 _ _ rfl hu
section
variable {K : PySem.W.Frag} {H H' : Hp} {a : Addr} {u : HO}
theorem Rd.move (hu : DicU u) (k : ∀ b, b ≠ a → H' b = H b) (r : Rd H a u) (r' : Rd H' a u) {b : Addr} {o : HO} (n2 : ∀ x w, o ≠ .frz x w) (h : Rd H b o) : Rd H' b o := by
  by_cases e : b = a
  · subst e
    have : o = u := by
      rcases r with r | ⟨x, r⟩ <;> rcases h with h | ⟨y, h⟩ <;> rw [r] at h <;> cases h <;> first | rfl | exact absurd rfl (n2 _ _) | exact hu.elim
    rw [this]; exact r'
  · rcases h with h | ⟨y, h⟩
    · exact .inl (by rw [k b e]; exact h)
    · exact .inr ⟨y, by rw [k b e]; exact h⟩
mutual
theorem Rep.rd (hu : DicU u) (k : ∀ b, b ≠ a → H' b = H b) (r : Rd H a u) (r' : Rd H' a u) : ∀ {d : D} {P : Pr} {v : V}, Rep K H d P v → Rep K H' d P v
  | .non, _, _, h => by unfold Rep at h ⊢; exact h
  | .bl _, _, _, h => by unfold Rep at h ⊢; exact h
  | .int _, _, _, h => by unfold Rep at h ⊢; exact h
  | .str _, _, _, h => by unfold Rep at h ⊢; exact h
  | .tup ds, P, v, h => by
    unfold Rep at h ⊢
    obtain ⟨b, vs, e, h1, h2⟩ := h
    exact ⟨b, vs, e, by rw [k b (Rd.only hu r h1 id fun _ _ z => by cases z)]; exact h1, Reps.rd hu k r r' h2⟩
  | .lst ds, P, v, h => by
    unfold Rep at h ⊢
    obtain ⟨b, vs, e, h0, h1, h2⟩ := h
    exact ⟨b, vs, e, h0, by rw [k b (Rd.only hu r h1 id fun _ _ z => by cases z)]; exact h1, Reps.rd hu k r r' h2⟩
  | .arg ns, P, v, h => by
    unfold Rep at h ⊢
    obtain ⟨b, e, h⟩ := h
    refine ⟨b, e, ?_⟩
    rcases h with ⟨h0, h1⟩ | h
    · exact .inl ⟨h0, Rd.move hu k r r' (fun _ _ z => by cases z) h1⟩
    · exact .inr h
  | .dik ks ds, P, v, h => by
    unfold Rep at h ⊢
    obtain ⟨b, vs, e, h0, hl, h1, h2⟩ := h
    exact ⟨b, vs, e, h0, hl, Rd.move hu k r r' (fun _ _ z => by cases z) h1, Reps.rd hu k r r' h2⟩
  | .dit ks ds, P, v, h => by
    unfold Rep at h ⊢
    obtain ⟨b, vs, e, h0, hl, h1, h2⟩ := h
    exact ⟨b, vs, e, h0, hl, Rd.move hu k r r' (fun _ _ z => by cases z) h1, Reps.rd hu k r r' h2⟩
theorem Reps.rd (hu : DicU u) (k : ∀ b, b ≠ a → H' b = H b) (r : Rd H a u) (r' : Rd H' a u) : ∀ {ds : List D} {P : Pr} {vs : List V}, Reps K H ds P vs → Reps K H' ds P vs
  | [], _, _, h => by rw [h.nil_iff]; exact Reps.nil
  | d :: ds, P, vs, h => by
    obtain ⟨v, ws, rfl, h1, h2⟩ := h.cons_iff
    exact Reps.cons (Rep.rd hu k r r' h1) (Reps.rd hu k r r' h2)
end
variable {P0 : Pr} {O W U : List Nat} {ρ : Y.Env} {σ : L2.St}
theorem Sim.rd (S : Sim K P0 O W ρ σ H) (hu : DicU u) (k : ∀ b, b ≠ a → H' b = H b) (r : Rd H a u) (r' : Rd H' a u) (n : ¬ FA P0 O σ a) : Sim K P0 O W ρ σ H' where
  sub := S.sub
  len := S.len
  dom := fun b z => by rw [k b fun e => n (e ▸ z)]; exact S.dom b z
  val := fun i d e h => let ⟨v, h1, h2⟩ := S.val i d e h; ⟨v, h1, h2.rd hu k r r'⟩
  own := fun i d e h => by
    obtain ⟨v, h1, h2⟩ := S.own i d e h
    have na : ∀ b, v = .ref b → b ≠ a := fun b e z => n (.inr ⟨i, h, by rw [h1, e, z]⟩)
    refine ⟨v, h1, ?_⟩
    cases d with
    | lst ds => obtain ⟨b, vs, e, g1, g2⟩ := h2; exact ⟨b, vs, e, by rw [k b (na b e)]; exact g1, g2.rd hu k r r'⟩
    | dik ks ds => obtain ⟨b, vs, e, hl, g1, g2⟩ := h2; exact ⟨b, vs, e, hl, by rw [k b (na b e)]; exact g1, g2.rd hu k r r'⟩
    | dit ks ds => obtain ⟨b, vs, e, hl, g1, g2⟩ := h2; exact ⟨b, vs, e, hl, by rw [k b (na b e)]; exact g1, g2.rd hu k r r'⟩
    | non => exact h2
    | bl _ => exact h2
    | int _ => exact h2
    | str _ => exact h2
    | tup _ => exact h2
    | arg _ => exact h2
  sep := S.sep
  sep0 := S.sep0
end
section
variable {P : Program} {w : World} {K : PySem.W.Frag} {d : Addr} {o : Obj} {es : Array DictEntry} {ep : Nat}
end
def keyD : Key → D
  | .inl i => .int i
  | .inr x => .str x
theorem rep_key {K : PySem.W.Frag} {H : Hp} {P : Pr} (k : Key) : Rep K H (keyD k) P (kV k) := by
  cases k <;> (show Rep K H _ P _; unfold keyD Rep; rfl)
theorem reps_keys {K : PySem.W.Frag} {H : Hp} {P : Pr} : ∀ k : List Key, Reps K H (k.map keyD) P (k.map kV)
  | [] => Reps.nil
  | k :: ks => Reps.cons (rep_key k) (reps_keys ks)
section
variable {K : PySem.W.Frag} {O W : List Nat} {a : Addr} {o : Obj} {ds : List D} {vs : List V}
theorem zip_at {α β : Type} {ks : List α} {ds : List β} {i : Nat} {p : α × β} (h : (ks.zip ds)[i]? = some p) : ks[i]? = some p.1 ∧ ds[i]? = some p.2 := by
  obtain ⟨k, d⟩ := p
  exact List.getElem?_zip_eq_some.mp h
end

theorem PS.or {X : Cx} {st : Stmt} {t t' : TS} (h : PS X st t) (h' : PS X st t') : PS X st fun D σ H => t D σ H ∨ t' D σ H :=
  ⟨fun pins s σ H D I q => q.elim (h.run pins s σ H D I) (h'.run pins s σ H D I)⟩
section
variable {K : PySem.W.Frag} {P0 : Pr} {O W U : List Nat} {E : EK} {ρ : Y.Env} {σ : L2.St} {H : Hp} {m : SM} {D : Ends} {a : Addr} {u : HO}
end
section
variable {X : Cx} {P0 : Pr} {O W U : List Nat} {E : EK} {m : SM}
end
end Y

set_option Elab.async false
set_option linter.all false
set_option maxRecDepth 100000
namespace Y
open PySem PySem.Spec PyProof.Rows L2
section
variable {X : Cx} {pins : List (Addr × Obj)} {σ : L2.St} {H : Hp} {s : Shared}
end
variable {ρ : Y.Env}
@[simp] theorem e_dicnew {tup : Bool} {i : Nat} : sDicNew tup i ρ = if i < ρ.length then .ok (.nx, ρ.set i (some (if tup = true then .dit [] [] else .dik [] []))) else .stk := id rfl
@[simp] theorem e_dicAtK {i : Nat} : dicAt i ρ = (match ρ[i]? with | some (some (.dik ks ds)) => .ok (.dik ks ds) | some (some (.dit ks ds)) => .ok (.dit ks ds) | _ => .stk) := id rfl
@[simp] theorem e_dput {i : Nat} {mk mv : EM} : sDPutS i mk mv ρ = (mv ρ >>= fun p => p.1.v.nox >>= fun d => (dicAt i p.2).nox >>= fun _ => mk p.2 >>= fun q => q.1.v.nox >>= fun k => (dicAt i q.2).nox >>= fun x => (putDic x k d).nox >>= fun z => R.ok (.nx, q.2.set i (some z))) := id rfl
@[simp] theorem e_din {neg : Bool} {a b : EM} : cDIn neg b a ρ = (b ρ >>= fun p => a p.2 >>= fun q => (q.1.d q.2).nox >>= fun x => (p.1.d q.2).nox >>= fun y => (getDic x y).nox >>= fun o => R.ok (.fr (.bl (if neg = true then !o.isSome else o.isSome)), q.2)) := id rfl
@[simp] theorem d_putK {ks : List Key} {ds : List D} {i : Int} {d : D} : putDic (.dik ks ds) (.int i) d = if szOk (ks.length + 1) = true then .ok (.dik (putKs ks (.inl i)) (putDs ks ds (.inl i) d)) else .stk := id rfl
@[simp] theorem d_getK {ks : List Key} {ds : List D} {i : Int} : getDic (.dik ks ds) (.int i) = .ok (findD ks ds (.inl i)) := id rfl
end Y

set_option Elab.async false
set_option linter.all false
set_option maxRecDepth 100000
set_option maxHeartbeats 4000000
namespace Y
open PySem PySem.Spec PyProof.Rows L2
section
variable {X : Cx} {pins : List (Addr × Obj)} {σ : L2.St} {H : Hp} {s : Shared}
theorem rawT {d : Addr} {kvs : List (List Key × V)} (I : Inv X pins σ H s) (h : Rd H d (.dT kvs)) :
    (d == sysModules) = false ∧ kvs.length ≤ sizeLine ∧ ∃ (es : Array DictEntry) (ep : Nat), s.heap.DictRaw d es ep ∧ es.size = kvs.length ∧
      ∀ (i : Nat) (hi : i < es.size) (k : List Key) (v : V), kvs[i]? = some (k, v) → ∃ q, es[i].key = .ref q ∧ H q = some (.tup (k.map kV)) ∧ RelV v es[i].val := by
  have t := h.ok I.hok
  rcases t with ⟨hz, hs, xs, pr, o', es, ep, e1, ex, dt, ent, -⟩
  have l1 : es.size = xs.length := by have := congrArg List.length ent; simpa using this
  refine ⟨hs, hz, es, ep, ⟨o', e1, ex, dt⟩, l1.trans (Paired.length pr).symm, fun i hi k v e => ?_⟩
  obtain ⟨b, eb, c1, c2, c3⟩ := paired_get pr e
  have c := congrArg (fun l => l[i]?) ent
  simp only [List.getElem?_map, eb, Option.map_some] at c
  have c4 : es[i] = entryOfKey (tupleKind (mixKind X.prog X.w)) b := by
    have c5 : es.toList[i]? = some es[i] := by rw [Array.getElem?_toList, Array.getElem?_eq_getElem hi]
    rw [c5] at c
    exact Option.some.inj c
  refine ⟨b.2.1, by rw [c4]; rfl, c2, by rw [c4]; exact c3⟩
theorem keyV_of {q : Addr} {ns : List Int} (h : H q = some (.tup (ns.map V.int))) : keyV H (.ref q) = ns := by
  show (match H q with | some (.tup ws) => ws.map intV | _ => []) = ns
  rw [h]
  exact ints_back ns
def rSortDT : List V → Hp → VK → Prop := fun vs H Q => ∃ (a : Addr) (kvs : List (List Key × V)) (ks : List (List Int)), vs = [V.ref a] ∧ Rd H a (.dT kvs) ∧ kvs.map (·.1) = ks.map (·.map Sum.inl) ∧ (2 ≤ ks.length → ∀ k ∈ ks, k ≠ []) ∧
  ∀ ys p, ys.map (keyV H) = sortL ks → (∀ y ∈ ys, ∃ t, y = V.ref t ∧ H t = some (.tup ((keyV H y).map V.int))) → H p = none → Q (.ref p) (upd H p (.lst ys))
theorem kV_ints (ns : List Int) : (ns.map (Sum.inl : Int → Key)).map kV = ns.map V.int := by rw [List.map_map]; rfl
theorem cr_sortDT (hc : X.calm = true) : CallR X (.builtin "sorted") rSortDT := by
  intro pins s σ H vs us Q I r ⟨a, kvs, ks, e0, hd, hks, hne, q⟩
  subst e0
  obtain ⟨u, e3, ru⟩ := vals1 r
  subst e3
  cases (show u = Value.ref a from ru)
  obtain ⟨hs, hz, es, ep, raw, hsz, ent⟩ := rawT I hd
  have lk : ks.length = kvs.length := by have := congrArg List.length hks; simpa using this.symm
  refine Calls.call_function_entry PyProof.Rows.kind_sorted PyProof.Rows.plain_sorted PyProof.Rows.entry_sorted (PyProof.Rows.args_sorted1 _) ?_
  unfold Builtin.«sorted»
  refine wpAny_bind (m := checkCount "sorted" 1 1 _) (wpAny_pure ?_)
  refine wpAny_bind (PySem.W.kdu_collect (A := X.A.in1) (KdlSrc.rawDict (es := es) (ep := ep) hs) (I.ok.hd hc) raw (by rw [hsz]; exact hz) fun h' tk acc hk hacc => ?_)
  have la : acc.toList.length = ks.length := by rw [Array.length_toList, hacc.1, hsz, lk]
  have I1 : Inv X pins σ H { s with heap := h', toks := tk } := I.kept hk
  -- each collected value is a key's tuple
  have each : ∀ (j : Nat) (v : Value), acc.toList[j]? = Option.some v → ∃ q, v = Value.ref q ∧ ∃ k, ks[j]? = some k ∧ H q = some (.tup (k.map V.int)) := fun j v e => by
    obtain ⟨hj, e1⟩ := hacc.2 j v (by rw [← Array.getElem?_toList]; exact e)
    have hj2 : j < kvs.length := by rw [← hsz]; exact hj
    obtain ⟨q, e2, e3, _⟩ := ent j hj kvs[j].1 kvs[j].2 (List.getElem?_eq_getElem hj2)
    have e4 : (kvs.map (·.1))[j]? = some kvs[j].1 := by rw [List.getElem?_map, List.getElem?_eq_getElem hj2]; rfl
    rw [hks, List.getElem?_map] at e4
    cases e5 : ks[j]? with
    | none => rw [e5] at e4; cases e4
    | some k =>
      rw [e5] at e4
      have e6 : k.map Sum.inl = kvs[j].1 := Option.some.inj e4
      exact ⟨q, by rw [e1, e2], k, rfl, by rw [e3, ← e6, kV_ints]⟩
  have each2 : ∀ v ∈ acc.toList, ∃ q, v = Value.ref q ∧ keyV H (backV v) ∈ ks ∧ H q = some (.tup ((keyV H (backV v)).map V.int)) := fun v hv => by
    obtain ⟨j, hj, rfl⟩ := List.mem_iff_getElem.mp hv
    obtain ⟨q, e, k, e1, e2⟩ := each j _ (List.getElem?_eq_getElem hj)
    have e3 : keyV H (backV acc.toList[j]) = k := by rw [e]; exact keyV_of e2
    rw [e3]
    exact ⟨q, e, List.mem_of_getElem? e1, e2⟩
  have keys : acc.toList.map (fun v => keyV H (backV v)) = ks := by
    refine List.ext_getElem? fun j => ?_
    rw [List.getElem?_map]
    cases e : acc.toList[j]? with
    | none =>
      rw [List.getElem?_eq_none_iff] at e
      rw [Option.map_none, List.getElem?_eq_none (by omega)]
    | some v =>
      obtain ⟨q, e1, k, e2, e3⟩ := each j v e
      rw [e2, Option.map_some, e1]
      exact congrArg some (keyV_of e3)
  refine wpAny_bind (wpAny_newList ?_ (by rw [la, lk]; exact hz))
  have hoL : (h'.push (seqObj "list" acc.toList.toArray 0)).get? h'.objs.size = some (seqObj "list" acc.toList.toArray 0) := Heap.get?_push_size _ rfl
  show wpAny _ _ _ _ _ { s with heap := h'.push (seqObj "list" acc.toList.toArray 0), toks := tk }
  refine wpAny_bind (wpAny_holding (wpAny_call_entry PyProof.Rows.slot_list_sort ⟨_, hoL, rfl⟩ PyProof.Rows.entry_list_sort
    (SrtO.list_sort_ord (ltL_swo fun v => keyV H (backV v)) hoL (by rw [la, lk]; exact hz) (fun h2 => ?_) fun out hs1 hs2 => ⟨_, rfl, ?_⟩) (PyProof.Rows.args_list_sort _)))
  · refine tup_sortable (by omega) (fun v hv => ?_) fun o e => ?_
    · obtain ⟨q, e, m, hq⟩ := each2 v hv
      refine ⟨?_, hne (by omega) _ m⟩
      obtain ⟨_, its2, r2, o, ho, hc2, n, hd2⟩ := I1.hok _ _ hq
      rw [e] at hq ⊢
      exact ⟨q, o, _, n, rfl, Heap.get?_push_of_some _ ho, hc2, hd2, by rw [List.toList_toArray]; rw [e] at r2; exact ints_vals r2⟩
    · cases e.symm.trans hoL
      exact fun c => absurd (Value.type.inj c) (by decide)
  · obtain ⟨e', he'⟩ := PyProof.Rows.sortedHeap_at (vs := acc.toList) (out := out.toArray) hoL
    have pm := hs2.perm
    have ho : ∀ u ∈ out, ∃ q, u = Value.ref q ∧ H q = some (.tup ((keyV H (backV u)).map V.int)) := fun u hu => by
      obtain ⟨q, e, _, h⟩ := each2 u (pm.mem_iff.mp hu)
      exact ⟨q, e, h⟩
    have lo : (out.map backV).length ≤ sizeLine := by rw [List.length_map, pm.length_eq, la, lk]; exact hz
    refine wpAny_pure ⟨_, rfl, .ref h'.objs.size, upd H h'.objs.size (.lst (out.map backV)), I1.laid (t' := tk) (fun b u e => ?_) (Nat.le_refl _)
      (show ObjOk X.prog X.w _ _ _ (.lst (out.map backV)) from ⟨lo, out, e', vals_back fun u hu => (ho u hu).imp fun q h => h.1, he'⟩), rfl, q _ _ ?_ (fun y hy => ?_) (I1.hok.fresh (Nat.le_refl _))⟩
    · have hb : b < h'.objs.size := Heap.lt_size e
      rw [PyProof.Rows.sortedHeap_old (Nat.ne_of_lt hb) (by rw [size_push']; exact Nat.lt_succ_of_lt hb)]
      exact Heap.get?_push_of_some _ e
    · rw [List.map_map]
      refine sortL_of ?_ (List.pairwise_map.mpr hs1)
      have := pm.map (keyV H ∘ backV)
      rw [show acc.toList.map (keyV H ∘ backV) = ks from keys] at this
      exact this
    · obtain ⟨u, hu, rfl⟩ := List.mem_map.mp hy
      obtain ⟨q, rfl, h⟩ := ho u hu
      exact ⟨q, rfl, h⟩
end
end Y

set_option Elab.async false
set_option linter.all false
set_option maxRecDepth 100000
set_option maxHeartbeats 4000000
namespace Y
open PySem PySem.Spec PyProof.Rows L2
section
variable {K : PySem.W.Frag} {X : Cx} {H : Hp} {P : Pr}
theorem map_fst_zip {ds : List D} {vs : List V} (hl : vs.length = ds.length) : (ds.zip vs).map (·.1) = ds := by
  have := List.map_fst_zip (l₁ := ds) (l₂ := vs) (by omega)
  exact this
end
def intsK : List Key → Option (List Int)
  | [] => some []
  | .inl i :: ks => (intsK ks).map (i :: ·)
  | .inr _ :: _ => none
def intsKs : List (List Key) → Option (List (List Int))
  | [] => some []
  | k :: ks => match intsK k, intsKs ks with
    | some n, some ns => some (n :: ns)
    | _, _ => none
theorem intsK_of : ∀ {ks : List Key} {ns : List Int}, intsK ks = some ns → ks = ns.map Sum.inl
  | [], ns, e => by cases e; rfl
  | .inl i :: ks, ns, e => by
    unfold intsK at e
    cases q : intsK ks with
    | none => rw [q] at e; cases e
    | some m => rw [q] at e; cases e; rw [intsK_of q]; rfl
  | .inr _ :: _, ns, e => by cases e
theorem intsKs_of : ∀ {ks : List (List Key)} {ns : List (List Int)}, intsKs ks = some ns → ks = ns.map (·.map Sum.inl)
  | [], ns, e => by cases e; rfl
  | k :: ks, ns, e => by
    unfold intsKs at e
    cases q : intsK k with
    | none => rw [q] at e; simp at e
    | some m =>
      cases q2 : intsKs ks with
      | none => rw [q, q2] at e; simp at e
      | some ms =>
        rw [q, q2] at e
        cases e
        rw [intsK_of q, intsKs_of q2]
        rfl
def sortDD : List D → R D
  | [.dit ks _] => match intsKs ks with
    | some ns => if sortOk ns = true then .ok (.lst ((sortL ns).map fun x => D.tup (x.map D.int))) else .stk
    | none => .stk
  | [.dik ks _] => match intsK ks with
    | some ns => if ns.length < 64 then .ok (.lst ((sortI ns).map D.int)) else .stk
    | none => .stk
  | _ => .stk
section
variable {X : Cx}
theorem zip_fst {κ : Type} {ks : List κ} {vs : List V} (hl : ks.length = vs.length) : (ks.zip vs).map (·.1) = ks := by
  have := List.map_fst_zip (l₁ := ks) (l₂ := vs) (by omega)
  exact this
theorem cd_sortDD (hc : X.calm = true) : CallR X (.builtin "sorted") (rDs X.K sortDD) := by
  intro pins s σ H xs us Q I r ⟨P, ds, dz, hm, rs, e, out⟩
  unfold sortDD at e
  split at e
  · rename_i ks vs0
    cases q : intsKs ks with
    | none => rw [q] at e; cases e
    | some ns =>
      rw [q] at e
      simp only at e
      split at e
      · rename_i ok
        cases e
        obtain ⟨v, rfl, r1⟩ := rs.get1
        obtain ⟨a, vs, rfl, hl, rd, h2⟩ := r1
        have ek := intsKs_of q
        refine cr_sortDT hc pins s σ H _ us Q I r ⟨a, _, ns, rfl, rd, by rw [zip_fst hl]; exact ek, fun h2' k hk z => ?_, fun ys p es hy hp => ?_⟩
        · unfold sortOk at ok
          rw [decide_eq_false (by omega), Bool.false_or, List.all_eq_true] at ok
          have := ok k hk
          rw [z] at this
          cases this
        · have sm : Same H (upd H p (.lst ys)) := Same.new hp
          refine out _ _ sm ?_ fun _ b eb => by cases eb; exact hp
          rw [← es, List.map_map]
          refine Rep.newL hm ?_ hp
          have : ∀ (zs : List V), (∀ z ∈ zs, z ∈ ys) → Reps X.K H (zs.map ((fun x => D.tup (x.map D.int)) ∘ keyV H)) P zs := fun zs => by
            induction zs with
            | nil => intro _; exact Reps.nil
            | cons z zs ih =>
              intro hz
              obtain ⟨t, e1, e2⟩ := hy z (hz z (by simp))
              refine Reps.cons ?_ (ih fun y hy => hz y (by simp [hy]))
              show Rep X.K _ (D.tup ((keyV H z).map D.int)) P z
              unfold Rep
              exact ⟨t, _, e1, e2, reps_ints _⟩
          exact this ys fun z hz => hz
      · cases e
  · rename_i ks vs0
    cases q : intsK ks with
    | none => rw [q] at e; cases e
    | some ns =>
      rw [q] at e
      simp only at e
      split at e
      · rename_i ok
        cases e
        obtain ⟨v, rfl, r1⟩ := rs.get1
        obtain ⟨a, vs, rfl, hl, rd, h2⟩ := r1
        have ek := intsK_of q
        refine call_sortedDI hc pins s σ H _ us Q I r ⟨a, _, ns, rfl, rd, by rw [zip_fst hl]; exact ek, ok, fun ys p pm pw hp => ?_⟩
        have ey : ys = sortI ns := sortI_of pm pw
        rw [ey]
        exact out.newL hm (reps_ints _) hp
      · cases e
  · cases e
end
end Y

set_option Elab.async false
set_option linter.all false
set_option maxRecDepth 100000
namespace Y
open PySem PySem.Spec PyProof.Rows L2
def D1 (p : Addr) (Q : VK) (x y : V) (H2 : Hp) : Prop := H2 p = some (.dT []) ∧ ∃ (q : Addr) (k : List Key), x = .ref q ∧ H2 q = some (.tup (k.map kV)) ∧ Q (.ref p) (upd H2 p (.dT [(k, y)]))
end Y

set_option Elab.async false
set_option linter.all false
set_option maxRecDepth 100000
namespace Y
open PySem PySem.Spec PyProof.Rows L2
section
variable {K : PySem.W.Frag} {X : Cx} {P0 : Pr} {O W U : List Nat} {E : EK} {pos : Pos}
end
section
variable {X : Cx} {P0 : Pr} {O W : List Nat} {E : EK} {a b : Expr} {ma mb : EM} {pos : Pos}
theorem ct_din (hu : X.A.units + 1 < cLine) (hb : CEx X P0 O W E b mb) (ha : CEx X P0 O W E a ma) (hm : behindInMarks .In a = false := by rfl) : CT X P0 O W E (.Compare b [.In] [a] pos) (cBl (cDIn false mb ma)) := PT.imp (pt_cmp (pc_din hu hb ha) hm) fun σ H Q h => by
  obtain ⟨ρ, S, h⟩ := tM_bl σ H Q h
  refine ⟨ρ, S, h.of_bind.mono fun ⟨h2, ρ1⟩ q y H1 S1 k1 r2 => ⟨ρ1, S1, (q.keep k1).of_bind.mono fun ⟨h1, ρ2⟩ q2 x H2 S2 k2 r1 => ?_⟩⟩
  obtain ⟨dx, e1, q3⟩ := q2.of_nox
  obtain ⟨dy, e2, q4⟩ := q3.of_nox
  obtain ⟨o, e3, q5⟩ := q4.of_nox
  have rx := r1.d S2 e1
  have ry := (r2.keep S1 k2).d S2 e2
  obtain ⟨c, r, rfl, g, i, _⟩ := getDic_rep rx ry e3
  refine ⟨c, r, rfl, g, ?_⟩
  rw [i]
  exact (out_of (K := X.K) S2 (k1.trans k2) q5).bl
end
@[simp] theorem d_sortDT {ks : List (List Int)} {ds : List D} : sortDD [.dit (ks.map (·.map (Sum.inl : Int → Key))) ds] = if sortOk ks = true then .ok (.lst ((sortL ks).map fun x => D.tup (x.map D.int))) else .stk := by
  have h1 : ∀ n : List Int, intsK (n.map (Sum.inl : Int → Key)) = some n := fun n => by
    induction n with
    | nil => rfl
    | cons x xs ih => rw [List.map_cons]; unfold intsK; rw [ih]; rfl
  have h2 : ∀ ns : List (List Int), intsKs (ns.map (·.map (Sum.inl : Int → Key))) = some ns := fun ns => by
    induction ns with
    | nil => rfl
    | cons x xs ih => rw [List.map_cons]; unfold intsKs; rw [ih, h1]
  show (match intsKs (ks.map (·.map (Sum.inl : Int → Key))) with | some ns => _ | none => _) = _
  rw [h2]
end Y

set_option Elab.async false
set_option linter.all false
set_option maxRecDepth 100000
namespace Y
open PySem PySem.Spec PyProof.Rows L2
/-- only objects of A are changed, only the slots vs -/
structure Stp (A : Pr) (vs : List Nat) (σ : L2.St) (H : Hp) (σ' : L2.St) (H' : Hp) : Prop where
  keep : ∀ b o, H b = some o → ¬ A b → H' b = some o
  mu : ∀ b, A b → isMut (H' b)
  sl : ∀ j, j ∉ vs → σ'[j]? = σ[j]?
  len : σ'.length = σ.length
def tRestK (i : Nat) (R : Pr → V → Hp → Prop) (vs qs : List Nat) (u : TS) : TS := fun D σ H => ∃ A v, (∀ b, A b → isMut (H b)) ∧ σ[i]? = some (some v) ∧ R A v H ∧ (∀ j ∈ vs, j < σ.length) ∧ (∀ q ∈ qs, ∃ w, σ[q]? = some (some w)) ∧ ∀ σ' H', Stp A vs σ H σ' H' → u D σ' H'
def knownB (ρ : Y.Env) (q : Nat) : Bool := match ρ[q]? with | some (some _) => true | _ => false
noncomputable def sScr (O W : List Nat) (g : List D → R Hd) (m : AM) (i : Nat) (t : BM) (mr : EM) (tr : D → Bool) (vs qs : List Nat) (n : SM) : SM := fun ρ => do
  let (hs, ρ1) ← m ρ
  let ds ← (vsOf hs).nox
  if nls ds = true then (do
    let h ← g ds
    let d ← h.v.nox
    if tr d = true ∧ i < ρ1.length ∧ (vs.all fun j => decide (j < ρ1.length)) = true then (do
      let (k, ρ2) ← t (ρ1.set i (some d))
      if k = true then sRet mr ρ2 else if (qs.all fun q => knownB ρ2 q) = true then (do
        let _ ← (chkO O W (ρ1.set i none) (wipeE ρ2 (i :: vs))).nox
        n (wipeE ρ2 (i :: vs))) else .stk) else .stk) else .stk
section
variable {K : PySem.W.Frag} {P0 : Pr} {O W U : List Nat} {ρ ρ1 ρ2 : Y.Env} {σ σ1 σ3 : L2.St} {H H1 H2 H3 : Hp} {i : Nat} {vs : List Nat}
/-- what the state is apart from the new objects A -/
theorem Sim.apart (S1 : Sim K P0 O W ρ1 σ H1) (S2 : Sim K P0 O W ρ2 σ H2) (kp : ∀ b o, H1 b = some o → ¬ OA W σ b → H2 b = some o) {A : Pr} (hA : ∀ b, A b → H1 b = none ∧ isMut (H2 b))
    (c : ∀ (j : Nat) d, ρ2[j]? = some (some d) → (ρ1[j]? = some (some d) ∧ j ∉ W) ∨ (j ∈ O ∧ d.shallow = true) ∨ d.nl = true) : Sim K (fun b => P0 b ∨ A b) O W ρ2 σ H2 := by
  have fa : ∀ b, FA (fun b => P0 b ∨ A b) O σ b → FA P0 O σ b ∨ H1 b = none := fun b z => by
    rcases z with (z | z) | z
    · exact .inl (.inl z)
    · exact .inr (hA b z).1
    · exact .inl (.inr z)
  have kf : ∀ b o, H1 b = some o → ¬ FA P0 O σ b → H2 b = some o := fun b o e n => kp b o e fun z => n (.inr (S1.oaw z))
  refine ⟨S2.sub, S2.len, fun b z => ?_, fun j d e n => ?_, fun j d e n => ?_, S2.sep, fun a z y => ?_⟩
  · rcases z with (z | z) | z
    · exact S2.dom b (.inl z)
    · exact (hA b z).2
    · exact S2.dom b (.inr z)
  · rcases c j d e with ⟨e0, _⟩ | ⟨z, _⟩ | nl
    · obtain ⟨w, h1, h2⟩ := S1.val j d e0 n
      exact ⟨w, h1, h2.mono d S1.dom kf fa⟩
    · exact absurd z n
    · obtain ⟨w, h1, h2⟩ := S2.val j d e n
      exact ⟨w, h1, h2.nl nl⟩
  · rcases c j d e with ⟨e0, hw⟩ | ⟨_, sh⟩ | nl
    · obtain ⟨w, h1, h2⟩ := S1.own j d e0 n
      refine ⟨w, h1, h2.mono S1.dom kf fa fun a o e1 e2 => ?_⟩
      subst e1
      refine kp a o e2 fun ⟨x, hx, ex⟩ => ?_
      have := S1.sep x j a (S1.sub x hx) n ex h1
      exact hw (this ▸ hx)
    · obtain ⟨w, h1, h2⟩ := S2.own j d e n
      exact ⟨w, h1, h2.shallow sh⟩
    · obtain ⟨w, h1, h2⟩ := S2.own j d e n
      refine ⟨w, h1, ?_⟩
      cases d <;> first | exact h2 | (simp [D.nl] at nl)
  · rcases y with y | y
    · exact S2.sep0 a z y
    · have q := S1.dom a (.inr z)
      rw [(hA a y).1] at q
      exact q
/-- .. those are changed -/
theorem Sim.stp {A : Pr} (S : Sim K (fun b => P0 b ∨ A b) O W ρ2 σ H2) (st : Stp A vs σ H2 σ3 H3) (hv : ∀ j ∈ vs, j ∉ O) (hw : ∀ j ∈ vs, ρ2[j]? = some none ∨ ρ2[j]? = none) : Sim K P0 O W ρ2 σ3 H3 := by
  have sO : ∀ j ∈ O, σ3[j]? = σ[j]? := fun j hj => st.sl j fun z => hv j z hj
  have oa : ∀ b, OA O σ3 b ↔ OA O σ b := OA_of sO
  have fa : ∀ b, FA P0 O σ3 b → FA (fun b => P0 b ∨ A b) O σ b := fun b z => by
    rcases z with z | z
    · exact .inl (.inl z)
    · exact .inr ((oa b).mp z)
  have kf : ∀ b o, H2 b = some o → ¬ FA (fun b => P0 b ∨ A b) O σ b → H3 b = some o := fun b o e n => st.keep b o e fun z => n (.inl (.inr z))
  have noA : ∀ b, OA O σ b → ¬ A b := fun b z y => S.sep0 b z (.inr y)
  have nj : ∀ j d, ρ2[j]? = some (some d) → j ∉ vs := fun j d e z => by
    rcases hw j z with q | q <;> (rw [q] at e; cases e)
  refine ⟨S.sub, by rw [st.len]; exact S.len, fun b z => ?_, fun j d e n => ?_, fun j d e n => ?_, fun x y a hx hy e1 e2 => S.sep x y a hx hy (by rw [← sO x hx]; exact e1) (by rw [← sO y hy]; exact e2), fun a z y => S.sep0 a ((oa a).mp z) (.inl y)⟩
  · by_cases c : A b
    · exact st.mu b c
    · have q := S.dom b (fa b z)
      cases e : H2 b with
      | none => rw [e] at q; exact q.elim
      | some o => rw [st.keep b o e c, ← e]; exact q
  · obtain ⟨w, h1, h2⟩ := S.val j d e n
    exact ⟨w, by rw [st.sl j (nj j d e)]; exact h1, h2.mono d S.dom kf fun b z => .inl (fa b z)⟩
  · obtain ⟨w, h1, h2⟩ := S.own j d e n
    refine ⟨w, by rw [sO j n]; exact h1, h2.mono S.dom kf (fun b z => .inl (fa b z)) fun a o e1 e2 => ?_⟩
    subst e1
    exact st.keep a o e2 (noA a ⟨j, n, h1⟩)
end
/-- what must be known of the new data -/
structure Rdy (tr : D → Bool) (R : PySem.W.Frag → Pr → V → Hp → Prop) : Prop where
  of : ∀ (K : PySem.W.Frag) (H : Hp) (d : D) (v : V) (P : Pr), (∀ b, P b → isMut (H b)) → tr d = true → Rep K H d P v → R K (fun b => ¬ P b ∧ isMut (H b)) v H
section
variable {X : Cx} {P0 : Pr} {O W U : List Nat} {E : EK} {XE : XK} {c e e2 : Expr} {es : List Expr} {ms : AM} {mr : EM} {pos pos2 p p2 p3 px : Pos} {k np i : Nat} {name x : Str} {t : BM} {n : SM} {tl : List Stmt} {tr : D → Bool} {R : PySem.W.Frag → Pr → V → Hp → Prop} {vs qs : List Nat}
/-- f(..), no argument holds a list: the result, new throughout -/
def tDeep (K : PySem.W.Frag) (P0 : Pr) (O W : List Nat) (E : EK) (g : List D → Y.R Hd) (m : AM) : TE := fun σ H Q => ∃ ρ, Sim K P0 O W ρ σ H ∧
  Res E W σ H (do
    let (hs, ρ1) ← m ρ
    let ds ← (vsOf hs).nox
    if nls ds = true then (do
      let h ← g ds
      let d ← h.v.nox
      pure (d, ρ1)) else .stk) fun a => ∀ v H1 H', Sim K P0 O W a.2 σ H1 → Keep W σ H H1 → Same H1 H' → Rep K H' a.1 (fun b => isMut (H1 b)) v → Q v H'
theorem tM_deep {g : List D → Y.R Hd} (hE : ∀ c ds H, E c ds H → exE X.mg XE c ds H) (hl : ALen ms np) (σ : St) (H : Hp) (Q : VK) (h : tDeep X.K P0 O W E g ms σ H Q) : tCall (spD X.K X.mg np [] (pureF g)) [] XE (tMs X.K P0 O W E ms) σ H Q := by
  obtain ⟨ρ, S, h⟩ := h
  refine ⟨ρ, S, ?_⟩
  cases em : ms ρ with
  | stk => rw [em] at h; exact h.elim
  | er c ds => rw [em] at h; exact h
  | ok p =>
    obtain ⟨hs, ρ1⟩ := p
    rw [em] at h
    intro vs H1 S1 k1 r1
    obtain ⟨ds, e1, q⟩ := Res.of_nox (show Res E W σ H ((vsOf hs).nox >>= _) _ from h)
    by_cases nl : nls ds = true
    · have q : Res E W σ H (if nls ds = true then (do
        let h ← g ds
        let d ← h.v.nox
        pure (d, ρ1)) else .stk) _ := q
      rw [if_pos nl] at q
      have rr := (HdRs.vs r1 e1).nl (P' := fun b => isMut (H1 b)) nl
      have lv : vs.length = np := by rw [HdRs.len r1]; exact hl ρ hs ρ1 em
      rw [List.append_nil]
      refine ⟨lv, ds, fun b => isMut (H1 b), sim_args (fun _ z => z) rr, by rw [← rr.length]; exact lv, ?_⟩
      have q := q.keep k1
      unfold pureF
      cases eg : g ds with
      | stk => rw [eg] at q; exact q.elim
      | er c xs =>
        rw [eg] at q
        exact fun H' kp => hE c xs H' (q H' (Keep.same kp.nil))
      | ok hd =>
        rw [eg] at q
        intro v H2 k2 _ r2
        have sm := Keep.nil k2
        have dom : ∀ b, isMut (H1 b) → isMut (H2 b) := fun b z => by
          cases e : H1 b with
          | none => rw [e] at z; exact z.elim
          | some o => rw [sm b o e, ← e]; exact z
        cases hd with
        | ow j => exact q.elim
        | fr d => exact q v H1 H2 S1 k1 sm (r2.1.less (fun b z => dom b ((FA_nil b).mp z)) fun b z => .inl z)
        | vl d => exact q v H1 H2 S1 k1 sm (Rep.less (fun b z => dom b ((FA_nil b).mp z)) r2 fun b z => .inl z)
    · have q : Res E W σ H (if nls ds = true then (do
        let h ← g ds
        let d ← h.v.nox
        pure (d, ρ1)) else .stk) _ := q
      rw [if_neg nl] at q
      exact q.elim
theorem wipe_none : ∀ {vs : List Nat} {ρ : Y.Env} {j : Nat}, j ∈ vs → (wipeE ρ vs)[j]? = some none ∨ (wipeE ρ vs)[j]? = none
  | v :: vs, ρ, j, h => by
    show ((wipeE ρ vs).set v none)[j]? = some none ∨ ((wipeE ρ vs).set v none)[j]? = none
    by_cases c : v = j
    · subst c
      by_cases l : v < (wipeE ρ vs).length
      · exact .inl (List.getElem?_set_self l)
      · exact .inr (List.getElem?_eq_none (by simpa using l))
    · rw [List.getElem?_set_ne c]
      exact wipe_none ((List.mem_cons.mp h).resolve_left fun z => c z.symm)
theorem cs_scr {g : List D → Y.R Hd} (hN : X.N.Nodup) (G : Glo X.prog X.w X.K X.mg X.base name k np [] (pureF g)) (o : Out2 X E XE) (hr : Room k X.A) (ha : CA X P0 O W E (e :: es) ms) (hl : ALen ms np) (ht : CT X P0 O W E c t) (hret : CEx X P0 O W E e2 mr) (rdy : Rdy tr R)
    (hT : PSs X tl (tRestK i (R X.K) vs qs (tSt X.K P0 O W U E n))) (hi : i ∉ O := by decide) (hu : i ∉ U := by decide) (hv : ∀ j ∈ vs, j ∉ O := by decide) (hvu : ∀ j ∈ vs, j ∉ U := by decide) (hx : X.N[i]? = some x := by rfl) (hlx : Loc X.env.scope x := by first | exact Or.inl rfl | exact Or.inr rfl)
    (hf : X.fn x = true ∨ X.env.scope.names.lookup x = some .local := by first | exact .inl rfl | exact .inr rfl) (hg : Gl X name := by rfl) (hdb : (name == ("__debug__" : Str)) = false := by decide)
    (he : starEach (e :: es) X.env = (false, eval e X.env) :: starEach es X.env := by rfl) (hpl : (backTo pos (starEach es X.env)).any (·.1) = false := by rfl)
    (hs : swapsWithSole [.Name x px] (.Call (.Name name p) (e :: es) [] pos) pos2.line X.env = pure false := by rfl) (hw : swappedStores [.Name x px] (.Call (.Name name p) (e :: es) [] pos) X.env = pure none := by rfl) :
    CSs X P0 O W U E (.Assign [.Name x px] (.Call (.Name name p) (e :: es) [] pos) pos2 :: .If c [.Return (some e2) p2] [] p3 :: tl) (sScr O W g ms i t mr tr vs qs n) := by
  obtain ⟨f, fd, ps, hm, hk, hb, _, F⟩ := G.ex
  refine PSs.imp (pss_cons (ps_asg (PE.imp (pe_call F hr hg hm hk hb .nil o.pass ha hdb he hpl) fun σ H Q h => tM_deep o.ex hl σ H Q h) (pg_name hN hx hlx hf) hs hw) (pss_cons (ps_if ht (pss_one (ps_ret hret)) pss_nil) hT)) fun D σ H ⟨ρ, S, h⟩ => ?_
  refine ⟨ρ, S, ?_⟩
  cases em : ms ρ with
  | stk => unfold sScr at h; rw [em] at h; exact h.elim
  | er c' ds => unfold sScr at h; rw [em] at h; exact Res.down S.sub h
  | ok pp =>
    obtain ⟨hs', ρ1⟩ := pp
    unfold sScr at h
    rw [em] at h
    obtain ⟨ds, e1, q⟩ := Res.of_nox (show Res E O σ H ((vsOf hs').nox >>= _) _ from h)
    show Res E W σ H ((vsOf hs').nox >>= _) _
    rw [e1]
    by_cases nl : nls ds = true
    case neg =>
      have q : Res E O σ H (if nls ds = true then _ else .stk) _ := q
      rw [if_neg nl] at q
      exact q.elim
    have q : Res E O σ H (if nls ds = true then _ else .stk) _ := q
    rw [if_pos nl] at q
    show Res E W σ H (if nls ds = true then _ else .stk) _
    rw [if_pos nl]
    cases eg : g ds with
    | stk => rw [eg] at q; exact q.elim
    | er c' xs => rw [eg] at q; exact Res.down S.sub (show Res E O σ H (.er c' xs) _ from q)
    | ok hd =>
      rw [eg] at q
      obtain ⟨d, e2', q⟩ := Res.of_nox (show Res E O σ H (hd.v.nox >>= _) _ from q)
      show Res E W σ H (hd.v.nox >>= _) _
      rw [e2']
      by_cases tt : tr d = true ∧ i < ρ1.length ∧ (vs.all fun j => decide (j < ρ1.length)) = true
      case neg =>
        have q : Res E O σ H (if tr d = true ∧ i < ρ1.length ∧ (vs.all fun j => decide (j < ρ1.length)) = true then _ else .stk) _ := q
        rw [if_neg tt] at q
        exact q.elim
      have q : Res E O σ H (if tr d = true ∧ i < ρ1.length ∧ (vs.all fun j => decide (j < ρ1.length)) = true then _ else .stk) _ := q
      rw [if_pos tt] at q
      intro v H1 H2 S1 k1 sm r
      have iW : i ∉ W := fun z => hi (S.sub i z)
      have dom2 : ∀ b, isMut (H1 b) → isMut (H2 b) := fun b z => by
        cases e : H1 b with
        | none => rw [e] at z; exact z.elim
        | some o => rw [sm b o e, ← e]; exact z
      have S1' := S1.same sm
      have S2 := S1'.set hi (r.less dom2 fun b z => S1.dom b z)
      have oa1 : ∀ b, OA O (σ.set i (some v)) b ↔ OA O σ b := OA_of fun j hj => List.getElem?_set_ne fun (y : i = j) => hi (y ▸ hj)
      have oaW : ∀ b, OA W (σ.set i (some v)) b ↔ OA W σ b := OA_of fun j hj => List.getElem?_set_ne fun (y : i = j) => iW (y ▸ hj)
      have t1 : Tr O U σ H (σ.set i (some v)) H2 := (Tr.of S.sub (k1.trans (Keep.same sm))).trans ⟨fun _ _ e _ => e, fun _ e => e, fun b z => .inl ((oa1 b).mp z), fun j hj => List.getElem?_set_ne fun (y : i = j) => hu (y ▸ hj)⟩
      have l1 : (σ.set i (some v)).length = σ.length := by simp
      cases et : t (ρ1.set i (some d)) with
      | stk => rw [et] at q; exact q.elim
      | er c' xs =>
        rw [et] at q
        refine ⟨ρ1.set i (some d), S2, ?_⟩
        rw [et]
        exact Res.down S.sub (Res.keepT (show Res E O σ H (.er c' xs) _ from q) t1)
      | ok pr =>
      obtain ⟨kb, ρ2⟩ := pr
      rw [et] at q
      refine ⟨ρ1.set i (some d), S2, ?_⟩
      rw [et]
      intro H3 S3 k2
      have t2 : Tr O U σ H (σ.set i (some v)) H3 := t1.trans (Tr.of S.sub k2)
      have k12 : ∀ b o, H1 b = some o → ¬ OA W (σ.set i (some v)) b → H3 b = some o := fun b o e n => k2.keep b o (sm b o e) n
      cases kb with
      | true =>
        have q2 : Res E O σ H (sRet mr ρ2) _ := q
        refine ⟨ρ2, S3, (Res.down S.sub ((Res.keepT q2 t2).of_bind)).mono fun ⟨hd', ρ3⟩ q3 v' H4 S4 k4 r4 => ?_⟩
        exact q3 _ H4 S4 (t2.trans (Tr.of S.sub k4)) (by simp) v' (r4.back fun b z => t2.some b z)
      | false =>
        by_cases kq : (qs.all fun q => knownB ρ2 q) = true
        case neg =>
          have q : Res E O σ H (if (qs.all fun q => knownB ρ2 q) = true then _ else .stk) _ := q
          rw [if_neg kq] at q
          exact q.elim
        have q : Res E O σ H (if (qs.all fun q => knownB ρ2 q) = true then _ else .stk) _ := q
        rw [if_pos kq] at q
        have q2 : Res E O σ H ((chkO O W (ρ1.set i none) (wipeE ρ2 (i :: vs))).nox >>= fun _ => n (wipeE ρ2 (i :: vs))) _ := q
        obtain ⟨_, e3, q3⟩ := q2.of_nox
        have ck := chkO_ok e3
        have mu1 : ∀ b, OA W (σ.set i (some v)) b → isMut (H1 b) := fun b z => S1.dom b (.inr (S1.oaw ((oaW b).mp z)))
        have mu3 : ∀ b, isMut (H1 b) → isMut (H3 b) := fun b z => by
          by_cases c : OA W (σ.set i (some v)) b
          · exact S3.dom b (.inr (S3.oaw c))
          · cases e : H1 b with
            | none => rw [e] at z; exact z.elim
            | some o => rw [k12 b o e c, ← e]; exact z
        have r3 : Rep X.K H3 d (fun b => isMut (H1 b)) v := r.of_same dom2 fun b o e n => k2.keep b o e fun z => n (mu1 b z)
        have hA : ∀ b, (¬ isMut (H1 b) ∧ isMut (H3 b)) → H1 b = none ∧ isMut (H3 b) := fun b z => by
          refine ⟨?_, z.2⟩
          cases e : H1 b with
          | none => rfl
          | some o =>
            have : H3 b = some o := k12 b o e fun y => z.1 (mu1 b y)
            exact absurd (by rw [e, ← this]; exact z.2) z.1
        refine ⟨fun b => ¬ isMut (H1 b) ∧ isMut (H3 b), v, fun b z => z.2, List.getElem?_set_self (Nat.lt_of_lt_of_le tt.2.1 S1.len), rdy.of X.K H3 d v _ mu3 tt.1 r3, fun j hj => by
          have := of_decide_eq_true (List.all_eq_true.mp tt.2.2 j hj)
          rw [l1]
          exact Nat.lt_of_lt_of_le this S1.len, fun q' hq => ?_, fun σ' H' st => ?_⟩
        · have z := List.all_eq_true.mp kq q' hq
          unfold knownB at z
          cases ek : ρ2[q']? with
          | none => rw [ek] at z; cases z
          | some o => cases o with
            | none => rw [ek] at z; cases z
            | some dq =>
              by_cases qO : q' ∈ O
              · obtain ⟨w, h1, _⟩ := S3.own q' dq ek qO
                exact ⟨w, h1⟩
              · obtain ⟨w, h1, _⟩ := S3.val q' dq ek qO
                exact ⟨w, h1⟩
        have Sa : Sim X.K (fun b => P0 b ∨ (¬ isMut (H1 b) ∧ isMut (H3 b))) O W (wipeE ρ2 (i :: vs)) (σ.set i (some v)) H3 := Sim.apart (S1.unset hi (some v)) (S3.wipe (i :: vs)) k12 hA ck
        have Sf := Sa.stp st hv fun j hj => wipe_none (List.mem_cons_of_mem i hj)
        have kH1 : ∀ b o, H b = some o → ¬ OA O σ b → H1 b = some o := fun b o e n => k1.keep b o e fun z => n (S.oaw z)
        have t3 : Tr O U σ H σ' H' := {
          keep := fun b o e n => by
            have h1 := kH1 b o e n
            refine st.keep b o (k12 b o h1 fun z => n (S.oaw ((oaW b).mp z))) fun z => ?_
            have := (hA b z).1
            rw [h1] at this
            cases this
          some := fun b e => by
            by_cases c : ¬ isMut (H1 b) ∧ isMut (H3 b)
            · exact (st.mu b c).some
            · have := t2.some b e
              cases z : H3 b with
              | none => exact absurd z this
              | some o => rw [st.keep b o z c]; intro y; cases y
          own := fun b ⟨j, hj, z⟩ => by
            rw [st.sl j fun y => hv j y hj] at z
            exact .inl ((oa1 b).mp ⟨j, hj, z⟩)
          unch := fun j hj => by
            rw [st.sl j fun y => hvu j y hj]
            exact List.getElem?_set_ne fun (y : i = j) => hu (y ▸ hj) }
        have l3 : σ'.length = σ.length := st.len.trans l1
        refine ⟨wipeE ρ2 (i :: vs), Sf, (Res.keepT q3 t3).mono fun ⟨f2, ρ3⟩ q4 σ4 H4 S4 t4 l4 => ?_⟩
        exact (q4 σ4 H4 S4 (t3.trans t4) (l4.trans l3)).back fun b z => t3.some b z
/-- x[k]'s list is given other items, few more -/
def tMut (i : Nat) (k : Nat) (qs : List Nat) : TS := fun D σ H => ∃ a vs b xs, σ[i]? = some (some (V.ref a)) ∧ H a = some (.tup vs) ∧ vs[k]? = some (.ref b) ∧ H b = some (.lst xs) ∧ xs.length < sizeLine ∧ (∀ q ∈ qs, ∃ w, σ[q]? = some (some w)) ∧
  ∀ zs : List V, zs.length ≤ xs.length + 1 → D.nx σ (upd H b (.lst zs))
theorem tMut_ix {D : Ends} {σ : L2.St} {H : Hp} {qs : List Nat} {k : Nat} {Q : V → Hp → Prop} (h : ∃ a vs b, σ[i]? = some (some (V.ref a)) ∧ H a = some (.tup vs) ∧ vs[k]? = some (.ref b) ∧ Q (.ref b) H) : tOp (rIx X.K) (tVar i) (tC (.int (k : Nat))) σ H Q := by
  obtain ⟨a, vs, b, h1, h2, h3, q⟩ := h
  have hk := (List.getElem?_eq_some_iff.mp h3).1
  exact ⟨.ref a, h1, .inr (.inl ⟨a, vs, (k : Nat), .ref b, rfl, rfl, SqT.of h2, atI_of (j := k) rfl h3, q⟩)⟩
theorem tm_clear {qs : List Nat} {kI : Nat} {p1 p4 p5 ap cp pos3 : Pos} {ck : Nat} (hx : X.N[i]? = some x) (hvx : Vis X.env.scope x) (hd : (x == ("__debug__" : Str)) = false) (hcd : (x == ("__classdict__" : Str)) = false)
    (hbase : attributeBase (.Subscript (.Name x p1) (.Constant (.int (kI : Nat)) ck p5) p4) "clear" X.env (eval (.Subscript (.Name x p1) (.Constant (.int (kI : Nat)) ck p5) p4) X.env) = eval (.Subscript (.Name x p1) (.Constant (.int (kI : Nat)) ck p5) p4) X.env := by rfl) (hline : (ap.endLine == cp.line) = true := by rfl)
    (hsw : swapsWith (.Call (.Attribute (.Subscript (.Name x p1) (.Constant (.int (kI : Nat)) ck p5) p4) "clear" ap) [] [] cp) none pos3.line X.env = pure false := by rfl) :
    PS X (.Expr (.Call (.Attribute (.Subscript (.Name x p1) (.Constant (.int (kI : Nat)) ck p5) p4) "clear" ap) [] [] cp) pos3) (tMut i kI qs) :=
  PS.imp (ps_expr (pe_bm0 PySem.F.plainAttrs_list PySem.F.slot_list_clear PySem.F.type_list_clear mt_clear (pe_ix ix_seq (pe_var (i := i) hx hvx hd hcd) pe_int fun _ _ => rfl) hbase hline) hsw) fun D σ H ⟨a, vs, b, xs, h1, h2, h3, h4, h5, h6, q⟩ =>
    tMut_ix (D := D) (qs := qs) ⟨a, vs, b, h1, h2, h3, .inl ⟨rfl, xs, SqL.of h4⟩, b, xs, rfl, rfl, h4, q _ (by simp)⟩
end
@[simp] theorem e_scr {O W : List Nat} {g : List D → Y.R Hd} {m : AM} {i : Nat} {t : BM} {mr : EM} {tr : D → Bool} {vs qs : List Nat} {n : SM} {ρ : Y.Env} : sScr O W g m i t mr tr vs qs n ρ = (m ρ >>= fun p => (vsOf p.1).nox >>= fun ds => if nls ds = true then (g ds >>= fun h => h.v.nox >>= fun d => if tr d = true ∧ i < p.2.length ∧ (vs.all fun j => decide (j < p.2.length)) = true then (t (p.2.set i (some d)) >>= fun q => if q.1 = true then sRet mr q.2 else if (qs.all fun k => knownB q.2 k) = true then ((chkO O W (p.2.set i none) (wipeE q.2 (i :: vs))).nox >>= fun _ => n (wipeE q.2 (i :: vs))) else .stk) else .stk) else .stk) := id rfl
end Y

set_option Elab.async false
set_option linter.all false
set_option maxRecDepth 100000
namespace Y
open PySem PySem.Spec PyProof.Rows L2
section
variable {X : Cx} {pins : List (Addr × Obj)} {σ : L2.St} {H : Hp} {s : Shared} {a b : Addr} {r : Value} {d : V} {k : List Key} {A : Around} {E : Value → Shared → Prop}
theorem d_setdT {kvs : List (List Key × V)} {Q : Value → Shared → Prop} (hu : A.units + 1 < cLine) (I : Inv X pins σ H s) (e : H a = some (.dT kvs)) (eb : H b = some (.tup (k.map kV))) (rd : RelV d r) (hl : kvs.length < sizeLine)
    (h1 : ∀ v, valV kvs k = some v → ∀ (w' : Value) (s' : Shared), Inv X pins σ H s' → RelV v w' → Q w' s') (h2 : valV kvs k = none → ∀ (w' : Value) (s' : Shared), Inv X pins σ (upd H a (.dT (putK kvs k d))) s' → RelV d w' → Q w' s') :
    wpAny (model X.prog X.w) A (call (.builtin "dict.setdefault") [.ref a, .ref b, r]) Q E s := by
  obtain ⟨z, hd, xs, rel, dd⟩ := dt_of I.hok e
  have hz : xs.length ≤ sizeLine := by rw [← Paired.length rel]; exact z
  refine call_setdefault_heap (hsz := hz) (tupleKind_room_in1 hu) (key_of I.hok eb) hd dd (fun p hp => ?_) fun hn h' dd' hs => ?_
  · have q := rel.val k
    rw [hp] at q
    cases q0 : valV kvs k with
    | none => rw [q0] at q; exact (show False from q).elim
    | some v0 => rw [q0] at q; exact h1 v0 q0 _ _ (I.tok _) q
  · have q := rel.val k
    rw [hn] at q
    cases q0 : valV kvs k with
    | some v0 => rw [q0] at q; exact (show False from q).elim
    | none =>
      have hl2 : (putK kvs k d).length ≤ sizeLine := by have := length_putK kvs k d; omega
      refine h2 q0 _ _ ?_ rd
      obtain ⟨q, es, ep, hq, h2, h3, h4, _, h5⟩ := dd'
      refine d_write I (by rw [e]; exact True.intro) hs ⟨q, hq⟩ ⟨hl2, hd, _, (rel.put k eb rd).keeps fun c ys ec => ?_, q, es, ep, hq, h2, h3, h4, h5⟩
      rw [upd_ne (ne_of ec e (fun z => nomatch z))]
      exact ec
end
def tDSetdT (td ty tx : TE) : TE := fun σ H Q => td σ H fun x H1 => ∃ a, x = .ref a ∧ IsD H1 a ∧ ty σ H1 fun y H2 => tx σ H2 fun z H3 => ∃ (kvs : List (List Key × V)) (k : List Key) (b : Addr), H3 a = some (.dT kvs) ∧ y = .ref b ∧ H3 b = some (.tup (k.map kV)) ∧ kvs.length < sizeLine ∧
  (∀ v, valV kvs k = some v → Q v H3) ∧ (valV kvs k = none → Q z (upd H3 a (.dT (putK kvs k z))))
section
variable {X : Cx} {o e f : Expr} {td ty tx : TE} {apos cpos : Pos}
theorem pe_dsetdT (hu : X.A.units + 1 < cLine) (ho : PE X o td) (he : PE X e ty) (hf : PE X f tx) (m : M2 X o "setdefault" apos e f cpos) : PE X (.Call (.Attribute o "setdefault" apos) [e, f] [] cpos) (tDSetdT td ty tx) := by
  refine ⟨fun pins s σ H Q I h => ?_⟩
  refine wpAny_Call_method m.base m.few m.line PySem.F.plainAttrs_dict PySem.F.slot_dict_setdefault PySem.F.type_dict_setdefault (thn (ho.run pins s σ H _ I h) fun u s1 ⟨x, H1, I1, rx, a, ex, d, q1⟩ => ?_)
  subst ex
  obtain rfl : u = Value.ref a := rx
  obtain ⟨t1, t2, _⟩ := isD_at I1 d
  refine ⟨t1, t2, ?_⟩
  rw [m.trees]
  refine Calls.callWith_builtin rfl (Calls.evalArgs_plain (Calls.spliced_cons (thn (he.run pins s1 σ H1 _ I1 q1) fun iv s2 ⟨y, H2, I2, ry, q2⟩ =>
    Calls.spliced_cons (thn (hf.run pins s2 σ H2 _ I2 q2) fun fv s3 ⟨z, H3, I3, rz, kvs, k, b, ea, ey, eb, hl, q3, q4⟩ => Calls.spliced_nil ?_))))
  subst ey
  obtain rfl : iv = Value.ref b := ry
  exact d_setdT hu I3 ea eb rz hl (fun v hv w' s4 I4 rw' => ⟨v, _, I4, rw', q3 v hv⟩) fun hn w' s4 I4 rw' => ⟨z, _, I4, rw', q4 hn⟩
end
abbrev Grp := List (List Key × List Int)
def gAdd (k : List Key) (s : Int) : Grp → Grp
  | [] => [(k, [s])]
  | (k', l) :: g => if k' = k then (k', l ++ [s]) :: g else (k', l) :: gAdd k s g
def grp (ts : List (List Key × Int)) : Grp := ts.foldl (fun g t => gAdd t.1 t.2 g) []
def dGrp (g : Grp) : D := .dit (g.map (·.1)) (g.map fun p => .lst (p.2.map D.int))
def trip : D → Option (List Key × Int)
  | .tup [.int a, .int b, .int s] => some ([.inl a, .inl b], s)
  | _ => none
def trips : List D → Option (List (List Key × Int))
  | [] => some []
  | d :: ds => match trip d, trips ds with
    | some t, some ts => some (t :: ts)
    | _, _ => none
theorem trips_get : ∀ {ds : List D} {ts : List (List Key × Int)} {i : Nat} {d : D}, trips ds = some ts → ds[i]? = some d → ∃ t, ts[i]? = some t ∧ trip d = some t
  | [], ts, i, d, _, e => by simp at e
  | x :: ds, ts, i, d, h, e => by
    unfold trips at h
    cases q : trip x with
    | none => rw [q] at h; simp at h
    | some t =>
      cases q2 : trips ds with
      | none => rw [q, q2] at h; simp at h
      | some ts' =>
        rw [q, q2] at h
        cases h
        cases i with
        | zero => simp at e; subst e; exact ⟨t, rfl, q⟩
        | succ i => simpa using trips_get (i := i) q2 (by simpa using e)
theorem trips_len : ∀ {ds : List D} {ts : List (List Key × Int)}, trips ds = some ts → ts.length = ds.length
  | [], ts, h => by cases h; rfl
  | x :: ds, ts, h => by
    unfold trips at h
    cases q : trip x with
    | none => rw [q] at h; simp at h
    | some t =>
      cases q2 : trips ds with
      | none => rw [q, q2] at h; simp at h
      | some ts' => rw [q, q2] at h; cases h; simp [trips_len q2]
/-- the groups lie in objects of their own, new since H1 -/
def GOk (H1 Hx : Hp) : Grp → List Addr → Prop
  | [], bs => bs = []
  | (_, l) :: g, bs => ∃ b r, bs = b :: r ∧ H1 b = none ∧ Hx b = some (.lst (l.map V.int)) ∧ b ∉ r ∧ GOk H1 Hx g r
def kvG : Grp → List Addr → List (List Key × V)
  | (k, _) :: g, b :: bs => (k, .ref b) :: kvG g bs
  | _, _ => []
section
variable {H1 Hx Hy : Hp}
theorem GOk.keep : ∀ {g : Grp} {bs : List Addr}, GOk H1 Hx g bs → (∀ b ∈ bs, Hy b = Hx b) → GOk H1 Hy g bs
  | [], bs, h, _ => h
  | (_, l) :: g, bs, ⟨b, r, e, h1, h2, h3, h4⟩, k => ⟨b, r, e, h1, by rw [k b (by simp [e])]; exact h2, h3, h4.keep fun c hc => k c (by simp [e, hc])⟩
theorem GOk.mem : ∀ {g : Grp} {bs : List Addr}, GOk H1 Hx g bs → ∀ b ∈ bs, H1 b = none ∧ ∃ l, Hx b = some (.lst l)
  | [], bs, h, b, hb => by
    have h : bs = [] := h
    rw [h] at hb
    cases hb
  | (_, l) :: g, bs, ⟨b0, r, e, h1, h2, h3, h4⟩, b, hb => by
    rw [e] at hb
    rcases List.mem_cons.mp hb with rfl | hb
    · exact ⟨h1, _, h2⟩
    · exact h4.mem b hb
theorem GOk.get {k : List Key} {s : Int} : ∀ {g : Grp} {bs : List Addr} {v : V}, GOk H1 Hx g bs → valV (kvG g bs) k = some v → ∃ b l, v = .ref b ∧ b ∈ bs ∧ Hx b = some (.lst (l.map V.int)) ∧ (∃ k', (k', l) ∈ g) ∧ GOk H1 (upd Hx b (.lst (l.map V.int ++ [.int s]))) (gAdd k s g) bs ∧ kvG (gAdd k s g) bs = kvG g bs
  | [], bs, v, h, e => by cases e
  | (k', l) :: g, bs, v, ⟨b, r, eb, h1, h2, h3, h4⟩, e => by
    subst eb
    unfold gAdd
    by_cases c : k' = k
    · have e : valV ((k', V.ref b) :: kvG g r) k = some v := e
      rw [valV_pos c] at e
      cases e
      rw [if_pos c]
      refine ⟨b, l, rfl, by simp, h2, ⟨k', by simp⟩, ⟨b, r, rfl, h1, by rw [upd_same, List.map_append]; rfl, h3, h4.keep fun c hc => upd_ne fun z => h3 (by rw [← z]; exact hc)⟩, rfl⟩
    · have e : valV ((k', V.ref b) :: kvG g r) k = some v := e
      rw [valV_neg c] at e
      obtain ⟨b2, l2, e1, e2, e3, ⟨k2, ek⟩, e4, e5⟩ := h4.get (s := s) e
      rw [if_neg c]
      refine ⟨b2, l2, e1, by simp [e2], e3, ⟨k2, by simp [ek]⟩, ⟨b, r, rfl, h1, by rw [upd_ne fun z => h3 (by rw [z]; exact e2)]; exact h2, h3, e4⟩, ?_⟩
      show (k', V.ref b) :: kvG (gAdd k s g) r = (k', V.ref b) :: kvG g r
      rw [e5]
theorem putK_cons {k k' : List Key} {v w : V} {r : List (List Key × V)} (c : ¬ k' = k) (hn : valV r k = none) : putK ((k', w) :: r) k v = (k', w) :: putK r k v := by
  have a1 : (r.any fun kv => decide (kv.1 = k)) = false := by rw [valV_any, hn]; rfl
  unfold putK
  rw [List.any_cons, a1]
  have : decide (k' = k) = false := decide_eq_false c
  simp [this]
theorem GOk.snoc {k : List Key} {s : Int} {p : Addr} (hp1 : H1 p = none) (hp : Hx p = some (.lst [.int s])) : ∀ {g : Grp} {bs : List Addr}, GOk H1 Hx g bs → p ∉ bs → valV (kvG g bs) k = none → GOk H1 Hx (gAdd k s g) (bs ++ [p]) ∧ kvG (gAdd k s g) (bs ++ [p]) = putK (kvG g bs) k (.ref p)
  | [], bs, h, np, e => by
    have h : bs = [] := h
    subst h
    exact ⟨⟨p, [], rfl, hp1, hp, by simp, rfl⟩, rfl⟩
  | (k', l) :: g, bs, ⟨b, r, eb, h1, h2, h3, h4⟩, np, e => by
    subst eb
    have c : ¬ k' = k := fun c => by
      have e : valV ((k', V.ref b) :: kvG g r) k = none := e
      rw [valV_pos c] at e
      cases e
    have e : valV ((k', V.ref b) :: kvG g r) k = none := e
    rw [valV_neg c] at e
    obtain ⟨i1, i2⟩ := GOk.snoc hp1 hp (s := s) h4 (fun z => np (by simp [z])) e
    unfold gAdd
    rw [if_neg c]
    refine ⟨⟨b, r ++ [p], rfl, h1, h2, fun z => ?_, i1⟩, ?_⟩
    · rcases List.mem_append.mp z with z | z
      · exact h3 z
      · rw [List.mem_singleton] at z
        exact np (by simp [z])
    · show (k', V.ref b) :: kvG (gAdd k s g) (r ++ [p]) = putK ((k', V.ref b) :: kvG g r) k (.ref p)
      rw [i2, putK_cons c e]
theorem GOk.len : ∀ {g : Grp} {bs : List Addr}, GOk H1 Hx g bs → (kvG g bs).length = g.length ∧ bs.length = g.length
  | [], bs, h => by
    have h : bs = [] := h
    subst h
    exact ⟨rfl, rfl⟩
  | (k, l) :: g, bs, ⟨b, r, e, _, _, _, h⟩ => by
    subst e
    have := h.len
    exact ⟨by show (kvG g r).length + 1 = _; rw [this.1]; rfl, by simp [this.2]⟩
theorem kvG_zip : ∀ {g : Grp} {bs : List Addr}, bs.length = g.length → kvG g bs = (g.map (·.1)).zip (bs.map V.ref)
  | [], bs, h => by cases bs <;> rfl
  | (k, l) :: g, [], h => by simp at h
  | (k, l) :: g, b :: bs, h => by
    show (k, V.ref b) :: kvG g bs = _
    rw [kvG_zip (by simpa using h), List.map_cons, List.map_cons, List.zip_cons_cons]
theorem GOk.reps {K : PySem.W.Frag} {P : Pr} (hP : ∀ b, P b → H1 b ≠ none) : ∀ {g : Grp} {bs : List Addr}, GOk H1 Hx g bs → Reps K Hx (g.map fun p => .lst (p.2.map D.int)) P (bs.map V.ref)
  | [], bs, h => by
    have h : bs = [] := h
    subst h
    exact Reps.nil
  | (k, l) :: g, bs, ⟨b, r, e, h1, h2, _, h⟩ => by
    subst e
    refine Reps.cons ?_ (h.reps hP)
    unfold Rep
    exact ⟨b, _, rfl, fun z => hP b z h1, h2, reps_ints l⟩
end
theorem gAdd_len {k : List Key} {s : Int} : ∀ {g : Grp}, (gAdd k s g).length ≤ g.length + 1
  | [] => by simp [gAdd]
  | (k', l) :: g => by
    unfold gAdd
    split
    · simp
    · simpa using gAdd_len (g := g)
theorem gAdd_le {k : List Key} {s : Int} {m : Nat} : ∀ {g : Grp}, (∀ p ∈ g, p.2.length ≤ m) → ∀ p ∈ gAdd k s g, p.2.length ≤ m + 1
  | [], _, p, hp => by simp [gAdd] at hp; subst hp; simp
  | (k', l) :: g, h, p, hp => by
    unfold gAdd at hp
    split at hp
    · rcases List.mem_cons.mp hp with rfl | hp
      · have := h (k', l) (by simp)
        simpa using this
      · have := h p (by simp [hp])
        omega
    · rcases List.mem_cons.mp hp with rfl | hp
      · have := h (k', l) (by simp)
        exact Nat.le_succ_of_le this
      · exact gAdd_le (fun q hq => h q (by simp [hq])) p hp
theorem grp_snoc {ts : List (List Key × Int)} {i : Nat} {t : List Key × Int} (h : ts[i]? = some t) : grp (ts.take (i + 1)) = gAdd t.1 t.2 (grp (ts.take i)) := by
  unfold grp
  rw [List.take_add_one, h, List.foldl_append]
  rfl
section
variable {K : PySem.W.Frag} {P0 : Pr} {O W U : List Nat} {ρ : Y.Env} {σ σ3 : L2.St} {H1 H3 : Hp} {i : Nat} {sl : List Nat}
/-- an own slot's object was changed, all else that stood stands -/
theorem Sim.group (S : Sim K P0 O W ρ σ H1) {dd : Addr} (hi : i ∈ O) (hdd : σ[i]? = some (some (.ref dd))) (kp : ∀ b o, H1 b = some o → b ≠ dd → H3 b = some o) (mu : isMut (H3 dd)) (hsl : ∀ j ∈ sl, j ∉ O) (hσ : ∀ j, j ∉ sl → σ3[j]? = σ[j]?) (hl : σ3.length = σ.length)
    (o : Option D) (ho : ∀ d, o = some d → RepO K H3 d (FA P0 O σ) (.ref dd)) : Sim K P0 O W (wipeE (ρ.set i o) sl) σ3 H3 := by
  have sO : ∀ j ∈ O, σ3[j]? = σ[j]? := fun j hj => hσ j fun z => hsl j z hj
  have oa : ∀ b, OA O σ3 b ↔ OA O σ b := OA_of sO
  have fa : ∀ b, FA P0 O σ3 b ↔ FA P0 O σ b := fun b => or_congr Iff.rfl (oa b)
  have ddA : FA P0 O σ dd := .inr ⟨i, hi, hdd⟩
  have kf : ∀ b o, H1 b = some o → ¬ FA P0 O σ b → H3 b = some o := fun b o e n => kp b o e fun z => n (by rw [z]; exact ddA)
  have get : ∀ j d, (wipeE (ρ.set i o) sl)[j]? = some (some d) → j ∉ sl ∧ ((j = i ∧ o = some d) ∨ (j ≠ i ∧ ρ[j]? = some (some d))) := fun j d e => by
    obtain ⟨e1, e2⟩ := wipeE_some e
    refine ⟨e2, ?_⟩
    by_cases c : i = j
    · subst c
      have h1 : i < ρ.length := by have := (List.getElem?_eq_some_iff.mp e1).1; simpa using this
      rw [List.getElem?_set_self h1] at e1
      exact .inl ⟨rfl, by simpa using e1⟩
    · rw [List.getElem?_set_ne c] at e1
      exact .inr ⟨fun z => c z.symm, e1⟩
  refine ⟨S.sub, by rw [wipeE_length, List.length_set, hl]; exact S.len, fun b z => ?_, fun j d e n => ?_, fun j d e n => ?_, fun x y a hx hy e1 e2 => S.sep x y a hx hy (by rw [← sO x hx]; exact e1) (by rw [← sO y hy]; exact e2), fun a z y => S.sep0 a ((oa a).mp z) y⟩
  · have z := (fa b).mp z
    by_cases c : b = dd
    · rw [c]; exact mu
    · have q := S.dom b z
      cases e : H1 b with
      | none => rw [e] at q; exact q.elim
      | some o => rw [kp b o e c, ← e]; exact q
  · obtain ⟨e2, e3⟩ := get j d e
    rcases e3 with ⟨rfl, _⟩ | ⟨_, e3⟩
    · exact absurd hi n
    · obtain ⟨v, h1, h2⟩ := S.val j d e3 n
      exact ⟨v, by rw [hσ j e2]; exact h1, h2.mono d S.dom kf fun b z => .inl ((fa b).mp z)⟩
  · obtain ⟨e2, e3⟩ := get j d e
    rcases e3 with ⟨rfl, e3⟩ | ⟨ne, e3⟩
    · refine ⟨.ref dd, by rw [hσ j e2]; exact hdd, (ho d e3).mono (fun b z => ?_) (fun _ _ e _ => e) (fun b z => .inl ((fa b).mp z)) fun _ _ _ e => e⟩
      by_cases c : b = dd
      · rw [c]; exact mu
      · have q := S.dom b z
        cases e : H1 b with
        | none => rw [e] at q; exact q.elim
        | some o => rw [kp b o e c, ← e]; exact q
    · obtain ⟨v, h1, h2⟩ := S.own j d e3 n
      refine ⟨v, by rw [hσ j e2]; exact h1, h2.mono S.dom kf (fun b z => .inl ((fa b).mp z)) fun a o e4 e5 => kp a o e5 fun z => ?_⟩
      subst e4
      exact ne (S.sep j i a n hi h1 (by rw [z]; exact hdd))
end
noncomputable def sGroup (i : Nat) (im : IM) (sl : List Nat) : SM := fun ρ => do
  let ((ds, ws), ρ1) ← im ρ
  match ws, ρ1[i]?, trips ds with
  | [], some (some (.dit [] [])), some ts => if ts.length < 1000000 ∧ (sl.all fun j => decide (j < ρ1.length)) = true then pure (.nx, wipeE (ρ1.set i (some (dGrp (grp ts)))) sl) else .stk
  | _, _, _ => .stk
section
variable {X : Cx} {P0 : Pr} {O W U : List Nat} {E : EK} {tg iter : Expr} {pos pos3 p1 p2 p3 p4 p5 ap ap2 cp cp2 : Pos} {x ya yb ys : Str}
theorem set3 {ρ : Y.Env} {a b s : Nat} {x y z : D} (hnd : [a, b, s].Nodup) (la : a < ρ.length) (lb : b < ρ.length) (ls : s < ρ.length) : (setAll ρ [a, b, s] [x, y, z])[a]? = some (some x) ∧ (setAll ρ [a, b, s] [x, y, z])[b]? = some (some y) ∧ (setAll ρ [a, b, s] [x, y, z])[s]? = some (some z) := by
  simp only [List.nodup_cons, List.mem_cons, List.not_mem_nil, or_false, not_or, List.nodup_nil] at hnd
  obtain ⟨⟨n1, n2⟩, n3, _⟩ := hnd
  show (((ρ.set a (some x)).set b (some y)).set s (some z))[a]? = _ ∧ (((ρ.set a (some x)).set b (some y)).set s (some z))[b]? = _ ∧ (((ρ.set a (some x)).set b (some y)).set s (some z))[s]? = _
  refine ⟨?_, ?_, ?_⟩
  · rw [List.getElem?_set_ne (Ne.symm n2), List.getElem?_set_ne (Ne.symm n1), List.getElem?_set_self la]
  · rw [List.getElem?_set_ne (Ne.symm n3), List.getElem?_set_self (by simpa using lb)]
  · rw [List.getElem?_set_self (by simpa using ls)]
theorem trip_of {d : D} {t : List Key × Int} (h : trip d = some t) : ∃ A B S : Int, d = .tup [.int A, .int B, .int S] ∧ t = ([.inl A, .inl B], S) := by
  unfold trip at h
  split at h
  · cases h; exact ⟨_, _, _, rfl, rfl⟩
  · cases h
theorem cs_group {i a b s tk : Nat} {im : IM} {posE pq : Pos} (hu : X.A.units + 1 < cLine) (hp : PassesOwn (model X.prog X.w) X.A X.env X.xe) (hc : X.calm = true) (hi : CI X P0 O W E tg iter im) (hg : CG X P0 O W tg (tmTup [a, b, s]) [a, b, s])
    (hx : X.N[i]? = some x) (hvx : Vis X.env.scope x) (ha : X.N[a]? = some ya) (hva : Vis X.env.scope ya) (hb : X.N[b]? = some yb) (hvb : Vis X.env.scope yb) (hs' : X.N[s]? = some ys) (hvs : Vis X.env.scope ys)
    (hd : (x == ("__debug__" : Str)) = false) (hcd : (x == ("__classdict__" : Str)) = false) (hda : (ya == ("__debug__" : Str)) = false) (hcda : (ya == ("__classdict__" : Str)) = false) (hdb : (yb == ("__debug__" : Str)) = false) (hcdb : (yb == ("__classdict__" : Str)) = false) (hds : (ys == ("__debug__" : Str)) = false) (hcds : (ys == ("__classdict__" : Str)) = false)
    (hiO : i ∈ O := by decide) (hiU : i ∉ U := by decide) (ho : ∀ j ∈ [a, b, s], j ∉ O := by decide) (hu' : ∀ j ∈ U, j ∈ O := by decide) (hnd : [a, b, s].Nodup := by decide)
    (hs : ∀ z, foldedSetIterable iter X.env z = pure z := by intro _; rfl)
    (m : M2 X (.Name x p1) "setdefault" ap (.Tuple [.Name ya p2, .Name yb p3] tk p4) (.List [] p5) cp := by exact ⟨rfl, rfl, rfl, rfl⟩)
    (he : starEach [.Name ys pq] X.env = (false, eval (.Name ys pq) X.env) :: starEach [] X.env := by rfl) (hpl : (backTo cp2 (starEach [] X.env)).any (·.1) = false := by rfl)
    (hbase : attributeBase (.Call (.Attribute (.Name x p1) "setdefault" ap) [.Tuple [.Name ya p2, .Name yb p3] tk p4, .List [] p5] [] cp) "append" X.env (eval (.Call (.Attribute (.Name x p1) "setdefault" ap) [.Tuple [.Name ya p2, .Name yb p3] tk p4, .List [] p5] [] cp) X.env) = eval (.Call (.Attribute (.Name x p1) "setdefault" ap) [.Tuple [.Name ya p2, .Name yb p3] tk p4, .List [] p5] [] cp) X.env := by rfl)
    (hline : (ap2.endLine == cp2.line) = true := by rfl) (hfew : Few X cp2 [.Name ys pq] := by rfl)
    (he1 : starEach [.Name ya p2, .Name yb p3] X.env = (false, eval (.Name ya p2) X.env) :: starEach [.Name yb p3] X.env := by rfl) (he2 : starEach [.Name yb p3] X.env = (false, eval (.Name yb p3) X.env) :: starEach [] X.env := by rfl)
    (hsw : swapsWith (.Call (.Attribute (.Call (.Attribute (.Name x p1) "setdefault" ap) [.Tuple [.Name ya p2, .Name yb p3] tk p4, .List [] p5] [] cp) "append" ap2) [.Name ys pq] [] cp2) none posE.line X.env = pure false := by rfl) :
    CS X P0 O W U E (.For tg iter [.Expr (.Call (.Attribute (.Call (.Attribute (.Name x p1) "setdefault" ap) [.Tuple [.Name ya p2, .Name yb p3] tk p4, .List [] p5] [] cp) "append" ap2) [.Name ys pq] [] cp2) posE] [] pos) (sGroup i im [a, b, s]) := by
  refine PS.imp (ps_for hp hc hi hg (pss_one (ps_expr (pe_bm PySem.F.plainAttrs_list PySem.F.slot_list_append PySem.F.type_list_append mt_append
    (pe_dsetdT hu (pe_var (i := i) hx hvx hd hcd) (pe_tup (pa_cons (pe_var (i := a) ha hva hda hcda) (pa_cons (pe_var (i := b) hb hvb hdb hcdb) pa_nil he2) he1)) (pe_lst pa_nil) m)
    (pa_cons (pe_var (i := s) hs' hvs hds hcds) pa_nil he) hbase hfew hline he hpl) hsw)) hs) fun D σ H ⟨ρ, S, h⟩ => ?_
  refine ⟨ρ, S, (h.of_bind.down S.sub).mono fun ⟨⟨ds, ws⟩, ρ1⟩ q J H1 Ok S1 k1 src ok hz => ?_⟩
  cases ws with
  | cons _ _ => exact q.elim
  | nil =>
  cases e1 : ρ1[i]? with
  | none => simp only [e1] at q; exact q.elim
  | some o1 =>
  by_cases eo : o1 = some (.dit [] [])
  case neg =>
    exfalso
    simp only [e1] at q
    cases o1 with
    | none => exact q
    | some d1 =>
      cases d1 with
      | dit ks vs =>
        cases ks with
        | nil =>
          cases vs with
          | nil => exact eo rfl
          | cons _ _ => exact q
        | cons _ _ => exact q
      | _ => exact q
  subst eo
  cases e2 : trips ds with
  | none => simp only [e1, e2] at q; exact q.elim
  | some ts =>
  simp only [e1, e2] at q
  by_cases c : ts.length < 1000000 ∧ ([a, b, s].all fun j => decide (j < ρ1.length)) = true
  case neg => rw [if_neg c] at q; exact q.elim
  rw [if_pos c] at q
  have lt : ∀ j ∈ [a, b, s], j < ρ1.length := fun j hj => of_decide_eq_true (List.all_eq_true.mp c.2 j hj)
  have tl := trips_len e2
  obtain ⟨v, hv, dd, vs, rfl, hvl, hdd, _⟩ := S1.own i _ e1 hiO
  have hdd : H1 dd = some (.dT []) := by rw [hdd]; rfl
  have ddA : OA O σ dd := ⟨i, hiO, hv⟩
  have q : ∀ σ' H', Sim X.K P0 O W (wipeE (ρ1.set i (some (dGrp (grp ts)))) [a, b, s]) σ' H' → Tr O U σ H σ' H' → σ'.length = σ.length → D.nx σ' H' := q
  let I : Nat → L2.St → Hp → Prop := fun t σx Hx => t ≤ ds.length ∧ (∀ j, j ∉ [a, b, s] → σx[j]? = σ[j]?) ∧ σx.length = σ.length ∧ (∀ b o, H1 b = some o → b ≠ dd → Hx b = some o) ∧
    ∃ bs, GOk H1 Hx (grp (ts.take t)) bs ∧ Hx dd = some (.dT (kvG (grp (ts.take t)) bs)) ∧ (grp (ts.take t)).length ≤ t ∧ ∀ p ∈ grp (ts.take t), p.2.length ≤ t
  refine ⟨fun t k σx Hx => k = ds.length - t ∧ I t σx Hx, ⟨ds.length, by simp, Nat.zero_le _, fun _ _ => rfl, rfl, fun _ _ e _ => e, [], rfl, hdd, Nat.le_refl _, fun p hp => by simp [grp] at hp⟩, ?_⟩
  rintro t k σx Hx ⟨rfl, htl, hσ, hl, kp, bs, gok, hdx, g1, g2⟩
  have Sx : Sim X.K P0 O W (wipeE (ρ1.set i none) [a, b, s]) σx Hx := S1.group hiO hv kp (by rw [hdx]; trivial) ho hσ hl none fun d e => by cases e
  have sO : ∀ j ∈ O, σx[j]? = σ[j]? := fun j hj => hσ j fun z => ho j z hj
  have okx := src.keep P0 ρ1 σ H1 (wipeE (ρ1.set i none) [a, b, s]) σx Hx S1 (fun b o e n => kp b o e fun z => n (by rw [z]; exact .inr ddA)) (fun b z => .inl (z.imp id (OA_of sO b).mp)) (fun w hw => nomatch hw) ok
  by_cases hlt : t < ds.length
  · right
    refine ⟨src.go P0 t _ σx Hx Sx okx hlt, I (t + 1), fun σ' H' p' => ⟨ds.length - (t + 1), by omega, rfl, p'⟩, fun x' H' y => ?_⟩
    have gd : ds[t]? = some ds[t] := List.getElem?_eq_getElem hlt
    obtain ⟨sm, rx⟩ := src.yld P0 t _ σx Hx x' H' ds[t] Sx okx gd y
    obtain ⟨tt, et, etr⟩ := trips_get e2 gd
    obtain ⟨A, B, Sg, ed, ett⟩ := trip_of etr
    rw [ed] at rx
    subst ett
    have lρ : (wipeE (ρ1.set i none) [a, b, s]).length = ρ1.length := by rw [wipeE_length, List.length_set]
    refine ⟨wipeE (ρ1.set i none) [a, b, s], .tup [.int A, .int B, .int Sg], setAll (wipeE (ρ1.set i none) [a, b, s]) [a, b, s] [.int A, .int B, .int Sg], Sx.same sm, rx, rfl, fun σ2 S2 l2 ag => ?_⟩
    obtain ⟨ga, gb, gs⟩ := set3 (x := .int A) (y := .int B) (z := .int Sg) hnd (by rw [lρ]; exact lt a (by simp)) (by rw [lρ]; exact lt b (by simp)) (by rw [lρ]; exact lt s (by simp))
    obtain ⟨va, ea, ra⟩ := S2.val a _ ga (ho a (by simp))
    obtain ⟨vb, eb, rb⟩ := S2.val b _ gb (ho b (by simp))
    obtain ⟨vs, es, rs⟩ := S2.val s _ gs (ho s (by simp))
    unfold Rep at ra rb rs
    subst ra rb rs
    have ni : i ∉ [a, b, s] := fun z => ho i z hiO
    have hv2 : σ2[i]? = some (some (.ref dd)) := by rw [ag i ni, hσ i ni]; exact hv
    have hd' : H' dd = some (.dT (kvG (grp (ts.take t)) bs)) := sm dd _ hdx
    have gl := gok.len
    have gm := gok.mem
    refine ⟨.ref dd, hv2, dd, rfl, .inr ⟨_, .inl hd'⟩, .int A, ea, .int B, eb, by show 2 ≤ sizeLine; decide, fun q1 hq1 => ⟨by show 0 ≤ sizeLine; decide, fun q2 hq2 => ?_⟩⟩
    have n1 : dd ≠ q1 := ne_of_none hd' hq1
    have hq2' : H' q2 = none := by
      by_cases z : q2 = q1
      · rw [z]; exact hq1
      · rwa [upd_ne z] at hq2
    have n2 : dd ≠ q2 := ne_of_none hd' hq2'
    have n12 : q1 ≠ q2 := fun z => by rw [← z, upd_same] at hq2; cases hq2
    have old : ∀ c o, H' c = some o → upd (upd H' q1 (.tup [.int A, .int B])) q2 (.lst []) c = some o := fun c o e => by
      rw [upd_ne (ne_of_none e hq2'), upd_ne (ne_of_none e hq1)]; exact e
    have sz : sizeLine = 16777216 := by decide
    have hH1 : ∀ c, H1 c ≠ none → c ≠ dd → H' c ≠ none := fun c hc nc => by
      cases z : H1 c with
      | none => exact absurd z hc
      | some o => rw [sm c o (kp c o z nc)]; intro y; cases y
    have hq1n : H1 q1 = none := Classical.byContradiction fun z => hH1 q1 z (Ne.symm n1) hq1
    have hq2n : H1 q2 = none := Classical.byContradiction fun z => hH1 q2 z (Ne.symm n2) hq2'
    have bdd : ∀ c ∈ bs, c ≠ dd := fun c hc z => by
      have := (gm c hc).1
      rw [z, hdd] at this
      cases this
    have ts1 : ts[t]? = some ([.inl A, .inl B], Sg) := et
    have snoc := grp_snoc ts1
    have kpH : ∀ (Hn : Hp), (∀ c o, H' c = some o → H1 c ≠ none → c ≠ dd → Hn c = some o) → ∀ c o, H1 c = some o → c ≠ dd → Hn c = some o := fun Hn hk c o e nc => hk c o (sm c o (kp c o e nc)) (by rw [e]; intro z; cases z) nc
    refine ⟨kvG (grp (ts.take t)) bs, [.inl A, .inl B], q1, old dd _ hd', rfl, by rw [upd_ne n12, upd_same]; rfl, by rw [gl.1, sz]; omega, fun w hw => ?_, fun hn => ?_⟩
    · obtain ⟨b0, l0, rfl, b1, b2, ⟨k0, hk0⟩, _, _⟩ := gok.get (s := Sg) hw
      have gokP : GOk H1 (upd (upd H' q1 (.tup [.int A, .int B])) q2 (.lst [])) (grp (ts.take t)) bs := gok.keep fun c hc => by
        obtain ⟨_, l, e⟩ := gm c hc
        rw [e]; exact old c _ (sm c _ e)
      obtain ⟨b0', l0', eb0, b1', b2', ⟨k0', hk0'⟩, g3, g4⟩ := gokP.get (s := Sg) hw
      cases eb0
      have ll := g2 _ hk0'
      refine ⟨.inl ⟨rfl, _, SqL.of b2'⟩, .int Sg, es, b0, _, .int Sg, rfl, rfl, b2', by rw [List.length_map, sz]; have := ll; simp only at this; omega, ?_⟩
      refine ⟨by omega, fun j hj => by rw [ag j hj, hσ j hj], by rw [l2, hl], kpH _ fun c o e hc nc => ?_, bs, by rw [snoc]; exact g3, ?_, ?_, ?_⟩
      · rw [upd_ne fun z => hc (by rw [z]; exact (gm b0 b1).1)]
        exact old c o e
      · rw [snoc, g4, upd_ne (Ne.symm (bdd b0 b1))]
        exact old dd _ hd'
      · rw [snoc]; exact Nat.le_trans gAdd_len (by omega)
      · rw [snoc]; exact gAdd_le g2
    · have e4 : upd (upd (upd H' q1 (.tup [.int A, .int B])) q2 (.lst [])) dd (.dT (putK (kvG (grp (ts.take t)) bs) [.inl A, .inl B] (.ref q2))) q2 = some (.lst []) := by rw [upd_ne (Ne.symm n2), upd_same]
      refine ⟨.inl ⟨rfl, _, SqL.of e4⟩, .int Sg, es, q2, [], .int Sg, rfl, rfl, e4, by show 0 < sizeLine; decide, ?_⟩
      have gokP : GOk H1 (upd (upd (upd (upd H' q1 (.tup [.int A, .int B])) q2 (.lst [])) dd (.dT (putK (kvG (grp (ts.take t)) bs) [.inl A, .inl B] (.ref q2)))) q2 (.lst ([] ++ [.int Sg]))) (grp (ts.take t)) bs := gok.keep fun c hc => by
        obtain ⟨_, l, e⟩ := gm c hc
        rw [e, upd_ne (ne_of_none (sm c _ e) hq2'), upd_ne (bdd c hc)]
        exact old c _ (sm c _ e)
      have nq : q2 ∉ bs := fun z => by
        obtain ⟨_, l, e⟩ := gm q2 z
        rw [sm q2 _ e] at hq2'
        cases hq2'
      obtain ⟨g3, g4⟩ := GOk.snoc (k := [.inl A, .inl B]) (s := Sg) hq2n (by rw [upd_same]; rfl) gokP nq hn
      refine ⟨by omega, fun j hj => by rw [ag j hj, hσ j hj], by rw [l2, hl], kpH _ fun c o e hc nc => ?_, bs ++ [q2], by rw [snoc]; exact g3, ?_, ?_, ?_⟩
      · rw [upd_ne (ne_of_none e hq2'), upd_ne nc]
        exact old c o e
      · rw [snoc, g4, upd_ne n2, upd_same]
      · rw [snoc]; exact Nat.le_trans gAdd_len (by omega)
      · rw [snoc]; exact gAdd_le g2
  · left
    have et : t = ds.length := by omega
    have tk' : ts.take t = ts := List.take_of_length_le (by omega)
    rw [tk'] at gok hdx
    refine ⟨by rw [et]; exact src.stop P0 _ σx Hx Sx (by rw [et] at *; exact okx), ?_⟩
    have Sf : Sim X.K P0 O W (wipeE (ρ1.set i (some (dGrp (grp ts)))) [a, b, s]) σx Hx := S1.group hiO hv kp (by rw [hdx]; trivial) ho hσ hl _ fun d e => by
      cases e
      have gl := gok.len
      refine ⟨dd, bs.map V.ref, rfl, by rw [List.length_map, List.length_map, gl.2], by rw [hdx, kvG_zip gl.2], gok.reps fun b z => ?_⟩
      have := S1.dom b z
      intro y
      rw [y] at this
      exact this
    refine q σx Hx Sf ((Tr.of S.sub k1).trans ⟨fun b o e n => kp b o e fun z => n (by rw [z]; exact ddA), fun b e => ?_, fun b z => .inl ((OA_of sO b).mp z), fun j hj => sO j (hu' j hj)⟩) hl
    by_cases z : b = dd
    · rw [z, hdx]; intro y; cases y
    · cases w : H1 b with
      | none => exact absurd w e
      | some o => rw [kp b o w z]; intro y; cases y
end
@[simp] theorem e_group {i : Nat} {im : IM} {sl : List Nat} {ρ : Y.Env} : sGroup i im sl ρ = (im ρ >>= fun p => match p.1.2, p.2[i]?, trips p.1.1 with | [], some (some (.dit [] [])), some ts => if ts.length < 1000000 ∧ (sl.all fun j => decide (j < p.2.length)) = true then R.ok (.nx, wipeE (p.2.set i (some (dGrp (grp ts)))) sl) else .stk | _, _, _ => .stk) := id rfl
end Y

set_option Elab.async false
set_option linter.all false
set_option maxRecDepth 100000
namespace Y
open PySem PySem.Spec PyProof.Rows L2
section
variable {prog : Program} {w : World} {A : Around} {E : Value → Shared → Prop} {s : Shared}
end
section
variable {X : Cx}
end
end Y

set_option Elab.async false
set_option linter.all false
set_option maxRecDepth 100000
namespace Y
open PySem PySem.Spec PyProof.Rows L2
theorem SqL.laid {K : PySem.W.Frag} {H : Hp} {a D : Addr} {xs : List V} {o : HO} (h : SqL K H a xs) (n : H D = none) : SqL K (upd H D o) a xs := by
  rcases h with h | h
  · refine .inl (h.imp (fun e => ?_) fun ⟨o, e⟩ => ⟨o, ?_⟩)
    · rw [upd_ne (ne_of_none e n)]; exact e
    · rw [upd_ne (ne_of_none e n)]; exact e
  · exact .inr h
section
variable {X : Cx} {i j : Nat}
end
end Y

set_option Elab.async false
set_option linter.all false
set_option maxRecDepth 100000
namespace Y
open PySem PySem.Spec PyProof.Rows L2
theorem _root_.L2H.RoomH.units65 {k : Nat} {A : Around} (r : L2H.RoomH k A) : A.units + 65 < cLine := by have := r.un; omega
section
variable {X : Cx} {P0 : Pr} {O W U : List Nat} {i : Nat} {ad : Addr} {a b c e : Expr} {es : List Expr} {ma mb mc : EM} {ms : AM} {bm bn : BM} {pos : Pos}
end
end Y

set_option Elab.async false
set_option linter.all false
set_option maxRecDepth 100000
namespace Y
open PySem PySem.Spec PyProof.Rows L2
theorem _root_.L2H.RoomH.units {k : Nat} {A : Around} (r : L2H.RoomH k A) : A.units + 64 < cLine := by have := r.un; omega
section
variable {X : Cx} {P0 : Pr} {O W U : List Nat} {i j : Nat}
end
end Y

set_option Elab.async false
set_option linter.all false
set_option maxRecDepth 100000
namespace Y
open PySem PySem.Spec PyProof.Rows L2
section
variable {K : PySem.W.Frag} {O W : List Nat} {a : Addr} {o : Obj}
theorem src_keysT {ks : List (List Key)} {vs : List V} (hl : ks.length = vs.length) : Src K O W (ks.map fun k => .tup (k.map keyD)) [] (Itkt a o (ks.zip vs)) (fun P0 _ σ H => H a = some (.frz o (.dT (ks.zip vs))) ∧ ¬ FA P0 O σ a) where
  go := fun P0 i ρ σ H S ⟨h1, _⟩ hi => ⟨h1, by rw [List.length_zip]; simp at hi; omega⟩
  stop := fun P0 ρ σ H S ⟨h1, _⟩ => ⟨h1, by simp; omega⟩
  yld := fun P0 i ρ σ H x H' d S ⟨h1, h2⟩ hd' y => by
    obtain ⟨rfl, k, v, q, e1, rfl, hq⟩ := y
    obtain ⟨k1, _⟩ := zip_at e1
    rw [List.getElem?_map, k1] at hd'
    cases hd'
    exact ⟨Same.refl _, Rep.tup_of hq (reps_keys k)⟩
  keep := fun P0 ρ σ H ρ' σ' H' S k w _ ⟨h1, h2⟩ => ⟨k _ _ h1 h2, fun z => (w a z).elim h2 fun z => by rw [h1] at z; cases z⟩
  mem := fun _ _ _ _ _ w hw => nomatch hw
  grow := fun P0 P1 ρ σ H H' S w k ⟨h1, h2⟩ => ⟨k _ _ h1, fun z => by
    rcases z with z | z
    · rcases w a z with z | z
      · exact h2 (.inl z)
      · rw [h1] at z; cases z
    · exact h2 (.inr z)⟩
end
section
variable {X : Cx} {P0 : Pr} {O W U : List Nat} {E : EK} {tg e : Expr} {ma : EM}
end
variable {ρ : Env}
end Y

set_option Elab.async false
set_option linter.all false
set_option maxRecDepth 100000
namespace Y
open PySem PySem.Spec PyProof.Rows L2
section
variable {prog : Program} {w : World} {A : Around} {E : Value → Shared → Prop}
end
section
variable {X : Cx}
end
end Y

set_option Elab.async false
set_option linter.all false
set_option maxRecDepth 100000
namespace Y
open PySem PySem.Spec PyProof.Rows L2
section
variable {prog : Program} {w : World} {A : Around} {E : Value → Shared → Prop} {s : Shared} {z TI TO T i1 i2 : Addr} {fp1 fp2 : List Addr} {n1 n2 i : Nat} {P1 P2 : Nat → Value → Prop} {St1 St2 : Nat → Heap → Prop} {f : Bool} {oT : Obj}
theorem zipH_item {Q : Value → Shared → Prop} (S : ZipSep2 z TI TO i1 i2 fp1 fp2) (D1 : Draws prog w A i1 fp1 n1 P1 St1) (D2 : Draws prog w A i2 fp2 n2 P2 St2)
    (hz : IsZipHeld s.heap z TI TO T f) (hT : s.heap.get? T = some oT) (hTI : IsTupOf2 s.heap TI (.ref i1) (.ref i2)) (st1 : St1 i s.heap) (st2 : St2 i s.heap) (lt1 : i < n1) (lt2 : i < n2)
    (q : ∀ x1 x2 h' tk, P1 i x1 → P2 i x2 → IsZipHeld h' z TI TO T true → St1 (i + 1) h' → St2 (i + 1) h' → IsTupOf2 h' s.heap.objs.size x1 x2 → (∀ c o, c ≠ z → c ≠ i1 → c ≠ i2 → s.heap.get? c = some o → h'.get? c = some o) → Q (.ref s.heap.objs.size) { s with heap := h', toks := tk }) :
    wpAny (model prog w) A (Builtin.«zip.__next__» ⟨[.ref z], []⟩) (fun fin s' => ∃ v, fin = .done (.ret v) ∧ Q v s') E s := by
  obtain ⟨hp, g, d, tk0, os⟩ := s
  show wpAny _ _ (field (.ref z) 2 >>= _) _ _ _
  refine wpAny_bind (wpAny_field hz rfl (x := .bool false) rfl ?_)
  show wpAny _ _ (field (.ref z) 3 >>= _) _ _ _
  refine wpAny_bind (wpAny_field hz rfl (x := .ref TI) rfl ?_)
  refine wpAny_bind (wpAny_seqItems hTI rfl ?_)
  show wpAny _ _ (Builtin.SmallTypes.ownedTupleIsFree (.ref z) >>= _) _ _ _
  refine wpAny_bind (wpAny_tupleHeld_zip hz hT fun g0 hz0 hs0 => ?_)
  replace hs0 : Heap.SameBut z hp g0 := hs0
  simp only [Bool.false_eq_true, if_false]
  refine wpAny_bind ?_
  rw [← Array.forIn_toList]
  simp only [List.forIn_cons, List.forIn_nil]
  refine wpAny_bind (wpAny_bind (wpAny_holding ?_))
  show wpAny _ _ (Builtin.SmallTypes.nextOf (.ref i1) >>= _) _ _ ⟨g0, g, d, tk0, os⟩
  refine wpAny_bind (D1.item i _ _ _ lt1 (D1.over st1 hs0 S.zf1) fun x1 p1 tk1 y1 sn1 hp1 => wpAny_pure ?_)
  replace hp1 : Heap.SameBut i1 g0 p1 := hp1
  refine wpAny_pure ?_
  refine wpAny_bind (wpAny_bind (wpAny_holding ?_))
  show wpAny _ _ (Builtin.SmallTypes.nextOf (.ref i2) >>= _) _ _ ⟨p1, g, d, tk1, os⟩
  refine wpAny_bind (D2.item i _ _ _ lt2 (D2.over (D2.over st2 hs0 S.zf2) hp1 S.sep1_2) fun x2 p2 tk2 y2 sn2 hp2 => wpAny_pure ?_)
  replace hp2 : Heap.SameBut i2 p1 p2 := hp2
  refine wpAny_pure (wpAny_pure ?_)
  show wpAny _ _ (newTuple [x1, x2] >>= _) _ _ ⟨p2, g, d, tk2, os⟩
  refine wpAny_bind (wpAny_newTuple ?_)
  have es : p2.objs.size = hp.objs.size := by rw [hp2.1, hp1.1, hs0.1]
  have hz3 : IsZipHeld p2 z TI TO T true := hp2.extBut _ _ S.zi2 (hp1.extBut _ _ S.zi1 hz0)
  have hk : ∀ c o, c ≠ z → c ≠ i1 → c ≠ i2 → hp.get? c = some o → p2.get? c = some o := fun c o c1 c2 c3 e => hp2.extBut _ _ c3 (hp1.extBut _ _ c2 (hs0.extBut _ _ c1 e))
  have j1 : St1 (i + 1) p2 := D1.over sn1 hp2 S.sep2_1
  refine wpAny_pure ⟨_, rfl, ?_⟩
  show Q (.ref p2.objs.size) _
  have hT2 : IsTupOf2 (p2.push { cls := .type "tuple", data := .seq #[x1, x2] }) p2.objs.size x1 x2 := Heap.get?_push_size _ rfl
  rw [es] at hT2 ⊢
  exact q x1 x2 _ tk2 y1 y2 (Heap.get?_push_of_some _ hz3) (D1.frame _ _ _ j1 fun b _ o e => Heap.get?_push_of_some _ e) (D2.frame _ _ _ sn2 fun b _ o e => Heap.get?_push_of_some _ e) hT2 fun c o c1 c2 c3 e => Heap.get?_push_of_some _ (hk c o c1 c2 c3 e)
theorem zipH_end {Q : PySem.Fin → Shared → Prop} (S : ZipSep2 z TI TO i1 i2 fp1 fp2) (D1 : Draws prog w A i1 fp1 n1 P1 St1) (D2 : Draws prog w A i2 fp2 n2 P2 St2)
    (hz : IsZipHeld s.heap z TI TO T f) (hT : s.heap.get? T = some oT) (hTI : IsTupOf2 s.heap TI (.ref i1) (.ref i2)) (st1 : St1 i s.heap) (st2 : St2 i s.heap) (le1 : i ≤ n1) (le2 : i ≤ n2) (hend : i = n1 ∨ i = n2)
    (q : ∀ h' tk e, (∀ c o, c ≠ z → c ≠ i1 → c ≠ i2 → s.heap.get? c = some o → h'.get? c = some o) → (∃ o, h'.get? e = some o ∧ o.cls = .type "StopIteration") → E (.ref e) { s with heap := h', toks := tk }) :
    wpAny (model prog w) A (Builtin.«zip.__next__» ⟨[.ref z], []⟩) Q E s := by
  obtain ⟨hp, g, d, tk0, os⟩ := s
  show wpAny _ _ (field (.ref z) 2 >>= _) _ _ _
  refine wpAny_bind (wpAny_field hz rfl (x := .bool false) rfl ?_)
  show wpAny _ _ (field (.ref z) 3 >>= _) _ _ _
  refine wpAny_bind (wpAny_field hz rfl (x := .ref TI) rfl ?_)
  refine wpAny_bind (wpAny_seqItems hTI rfl ?_)
  show wpAny _ _ (Builtin.SmallTypes.ownedTupleIsFree (.ref z) >>= _) _ _ _
  refine wpAny_bind (wpAny_tupleHeld_zip hz hT fun g0 hz0 hs0 => ?_)
  replace hs0 : Heap.SameBut z hp g0 := hs0
  simp only [Bool.false_eq_true, if_false]
  refine wpAny_bind ?_
  rw [← Array.forIn_toList]
  simp only [List.forIn_cons, List.forIn_nil]
  refine wpAny_bind (wpAny_bind (wpAny_holding ?_))
  show wpAny _ _ (Builtin.SmallTypes.nextOf (.ref i1) >>= _) _ _ ⟨g0, g, d, tk0, os⟩
  by_cases lt1 : i < n1
  · refine wpAny_bind (D1.item i _ _ _ lt1 (D1.over st1 hs0 S.zf1) fun x1 p1 tk1 y1 sn1 hp1 => wpAny_pure ?_)
    replace hp1 : Heap.SameBut i1 g0 p1 := hp1
    have e2 : i = n2 := by omega
    refine wpAny_pure ?_
    refine wpAny_bind (wpAny_bind (wpAny_holding ?_))
    show wpAny _ _ (Builtin.SmallTypes.nextOf (.ref i2) >>= _) _ _ ⟨p1, g, d, tk1, os⟩
    refine wpAny_bind (D2.done ⟨p1, g, d, tk1, os⟩ _ _ (by rw [← e2]; exact D2.over (D2.over st2 hs0 S.zf2) hp1 S.sep1_2) fun h' e hq he => ?_)
    replace hq : Heap.ExtBut i2 p1 h' := hq
    exact q h' tk1 e (fun c o c1 c2 c3 x => hq _ _ c3 (hp1.extBut _ _ c2 (hs0.extBut _ _ c1 x))) he
  · have e1 : i = n1 := by omega
    refine wpAny_bind (D1.done ⟨g0, g, d, tk0, os⟩ _ _ (by rw [← e1]; exact D1.over st1 hs0 S.zf1) fun h' e hq he => ?_)
    replace hq : Heap.ExtBut i1 g0 h' := hq
    exact q h' tk0 e (fun c o c1 c2 c3 x => hq _ _ c2 (hs0.extBut _ _ c1 x)) he
theorem next_zipH_item {Q : Option Value → Shared → Prop} (S : ZipSep2 z TI TO i1 i2 fp1 fp2) (D1 : Draws prog w A.in1 i1 fp1 n1 P1 St1) (D2 : Draws prog w A.in1 i2 fp2 n2 P2 St2)
    (hz : IsZipHeld s.heap z TI TO T f) (hT : s.heap.get? T = some oT) (hTI : IsTupOf2 s.heap TI (.ref i1) (.ref i2)) (st1 : St1 i s.heap) (st2 : St2 i s.heap) (lt1 : i < n1) (lt2 : i < n2)
    (q : ∀ x1 x2 h' tk, P1 i x1 → P2 i x2 → IsZipHeld h' z TI TO T true → St1 (i + 1) h' → St2 (i + 1) h' → IsTupOf2 h' s.heap.objs.size x1 x2 → (∀ c o, c ≠ z → c ≠ i1 → c ≠ i2 → s.heap.get? c = some o → h'.get? c = some o) → Q (some (.ref s.heap.objs.size)) { s with heap := h', toks := tk }) :
    wpAny (model prog w) A (pyNext (.ref z)) Q E s := by
  have ty : s.TypeIs (.ref z) "zip" := ⟨_, hz, rfl⟩
  unfold pyNext
  exact wpAny_bind (wpAny_attempt (wpAny_callSpecial?_slot (name := Str.ofString "__next__") ty F.slot_zip_next (wpAny_call_entry F.slot_zip_next ty F.entry_zip_next
      (zipH_item S D1 D2 hz hT hTI st1 st2 lt1 lt2 fun x1 x2 h' tk y1 y2 a b c e k => wpAny_pure (q x1 x2 h' tk y1 y2 a b c e k)) (F.args_zip_next_1 _))))
theorem next_zipH_end {Q : Option Value → Shared → Prop} (S : ZipSep2 z TI TO i1 i2 fp1 fp2) (D1 : Draws prog w A.in1 i1 fp1 n1 P1 St1) (D2 : Draws prog w A.in1 i2 fp2 n2 P2 St2)
    (hz : IsZipHeld s.heap z TI TO T f) (hT : s.heap.get? T = some oT) (hTI : IsTupOf2 s.heap TI (.ref i1) (.ref i2)) (st1 : St1 i s.heap) (st2 : St2 i s.heap) (le1 : i ≤ n1) (le2 : i ≤ n2) (hend : i = n1 ∨ i = n2)
    (q : ∀ h' tk, (∀ c o, c ≠ z → c ≠ i1 → c ≠ i2 → s.heap.get? c = some o → h'.get? c = some o) → Q none { s with heap := h', toks := tk }) : wpAny (model prog w) A (pyNext (.ref z)) Q E s := by
  have ty : s.TypeIs (.ref z) "zip" := ⟨_, hz, rfl⟩
  unfold pyNext
  refine wpAny_bind (wpAny_attempt (wpAny_callSpecial?_slot (name := Str.ofString "__next__") ty F.slot_zip_next (wpAny_call_entry F.slot_zip_next ty F.entry_zip_next
    (zipH_end S D1 D2 hz hT hTI st1 st2 le1 le2 hend fun h' tk e hk he => ?_) (F.args_zip_next_1 _))))
  obtain ⟨o, ho, hc⟩ := he
  refine wpAny_bind (wpAny_isInstance (T := "StopIteration") (b := true) ⟨o, ho, hc⟩ isSubtype_stop ?_)
  exact wpAny_pure (q _ _ hk)
end
end Y

set_option Elab.async false
set_option linter.all false
set_option maxRecDepth 100000
namespace Y
open PySem PySem.Spec PyProof.Rows L2
theorem zip_no_len : typeLookup (.type "zip") "__len__" = pure none := am_miss_of_fast (by decide +kernel)
theorem zip_no_hint : typeLookup (.type "zip") "__length_hint__" = pure none := am_miss_of_fast (by decide +kernel)
section
variable {prog : Program} {w : World} {A : Around} {E : Value → Shared → Prop} {s : Shared}
theorem zip_hint {r : Addr} {Q : Bool → Shared → Prop} (hT : s.TypeIs (.ref r) "zip") (h : Q true s) : wpAny (model prog w) A (Builtin.List.listLengthHint (.ref r)) Q E s := by
  unfold Builtin.List.listLengthHint
  exact wpAny_bind (wpAny_specialOf hT zip_no_len (wpAny_bind (wpAny_specialOf hT zip_no_hint (wpAny_pure h))))
end
section
variable {prog : Program} {w : World} {A : Around} {E : Value → Shared → Prop} {s : Shared} {R : Result → Shared → Prop} {z TI TO i1 i2 S : Addr} {fp1 fp2 : List Addr} {n1 n2 i : Nat} {P1 P2 : Nat → Value → Prop} {St1 St2 : Nat → Heap → Prop}
/-- i pairs are out -/
def ZSt (z TI TO i1 i2 S : Addr) (St1 St2 : Nat → Heap → Prop) (i : Nat) (h : Heap) : Prop := IsTupOf2 h TI (.ref i1) (.ref i2) ∧ St1 i h ∧ St2 i h ∧
  ((IsZip h z TI TO .none ∧ ∃ a b, IsTupOf2 h TO a b) ∨ ∃ T f oT, IsZipHeld h z TI TO T f ∧ h.get? T = some oT ∧ T ≠ z ∧ T ≠ i1 ∧ T ≠ i2 ∧ T ≠ S)
theorem ZSt.ty {h : Heap} (x : ZSt z TI TO i1 i2 S St1 St2 i h) : ∃ o, h.get? z = some o ∧ o.cls = .type "zip" := by
  rcases x.2.2.2 with ⟨e, _⟩ | ⟨T, f, oT, e, _⟩
  · exact ⟨_, e, rfl⟩
  · exact ⟨_, e, rfl⟩
theorem ZSt.stay (Sp : ZipSep2 z TI TO i1 i2 fp1 fp2) (D1 : Draws prog w A i1 fp1 n1 P1 St1) (D2 : Draws prog w A i2 fp2 n2 P2 St2) {h h' : Heap} (x : ZSt z TI TO i1 i2 S St1 St2 i h) (nz : S ≠ z) (nI : S ≠ TI) (nO : S ≠ TO) (n1' : S ∉ fp1) (n2' : S ∉ fp2)
    (k : ∀ b o, b ≠ S → h.get? b = some o → h'.get? b = some o) : ZSt z TI TO i1 i2 S St1 St2 i h' := by
  obtain ⟨a, b, c, d⟩ := x
  refine ⟨k _ _ nI.symm a, D1.frame _ _ _ b fun q hq o e => k q o (fun e2 => n1' (e2 ▸ hq)) e, D2.frame _ _ _ c fun q hq o e => k q o (fun e2 => n2' (e2 ▸ hq)) e, ?_⟩
  rcases d with ⟨d1, y1, y2, d2⟩ | ⟨T, f, oT, d1, d2, d3, d4, d5, d6⟩
  · exact .inl ⟨k _ _ nz.symm d1, y1, y2, k _ _ nO.symm d2⟩
  · exact .inr ⟨T, f, oT, k _ _ nz.symm d1, k _ _ d6 d2, d3, d4, d5, d6⟩
theorem zl_item {Q : Option Value → Shared → Prop} (Sp : ZipSep2 z TI TO i1 i2 fp1 fp2) (D1 : Draws prog w A.in1 i1 fp1 n1 P1 St1) (D2 : Draws prog w A.in1 i2 fp2 n2 P2 St2) (x : ZSt z TI TO i1 i2 S St1 St2 i s.heap) (ls : S < s.heap.objs.size) (lt1 : i < n1) (lt2 : i < n2)
    (q : ∀ x1 x2 h' tk, P1 i x1 → P2 i x2 → ZSt z TI TO i1 i2 S St1 St2 (i + 1) h' → IsTupOf2 h' s.heap.objs.size x1 x2 → (∀ c o, c ≠ z → c ≠ TO → c ≠ i1 → c ≠ i2 → s.heap.get? c = some o → h'.get? c = some o) → Q (some (.ref s.heap.objs.size)) { s with heap := h', toks := tk }) :
    wpAny (model prog w) A (pyNext (.ref z)) Q E s := by
  obtain ⟨a, b, c, d⟩ := x
  have ne : ∀ {c : Addr} {o : Obj}, s.heap.get? c = some o → s.heap.objs.size ≠ c := fun e => Nat.ne_of_gt (Heap.lt_size e)
  obtain ⟨_, l1⟩ := D1.live _ _ b
  obtain ⟨_, l2⟩ := D2.live _ _ c
  rcases d with ⟨d1, y1, y2, d2⟩ | ⟨T, f, oT, d1, d2, d3, d4, d5, d6⟩
  · refine wpAny_pyNext_zipD2_item Sp D1 D2 d1 a d2 b c lt1 lt2 fun x1 x2 h' tk p1 p2 z' O' s1 s2 t' sz k => ?_
    exact q x1 x2 h' tk p1 p2 ⟨k _ _ Sp.TIz Sp.TITO Sp.TIi1 Sp.TIi2 a, s1, s2, .inr ⟨s.heap.objs.size, false, _, z', t', ne d1, ne l1, ne l2, Nat.ne_of_gt ls⟩⟩ t' k
  · refine next_zipH_item Sp D1 D2 d1 d2 a b c lt1 lt2 fun x1 x2 h' tk p1 p2 z' s1 s2 t' k => ?_
    exact q x1 x2 h' tk p1 p2 ⟨k _ _ Sp.TIz Sp.TIi1 Sp.TIi2 a, s1, s2, .inr ⟨T, true, oT, z', k _ _ d3 d4 d5 d2, d3, d4, d5, d6⟩⟩ t' fun c o c1 _ c3 c4 e => k c o c1 c3 c4 e
theorem zl_end {Q : Option Value → Shared → Prop} (Sp : ZipSep2 z TI TO i1 i2 fp1 fp2) (D1 : Draws prog w A.in1 i1 fp1 n1 P1 St1) (D2 : Draws prog w A.in1 i2 fp2 n2 P2 St2) (x : ZSt z TI TO i1 i2 S St1 St2 i s.heap) (le1 : i ≤ n1) (le2 : i ≤ n2) (hend : i = n1 ∨ i = n2)
    (q : ∀ h' tk, (∀ c o, c ≠ z → c ≠ TO → c ≠ i1 → c ≠ i2 → s.heap.get? c = some o → h'.get? c = some o) → Q none { s with heap := h', toks := tk }) : wpAny (model prog w) A (pyNext (.ref z)) Q E s := by
  obtain ⟨a, b, c, d⟩ := x
  rcases d with ⟨d1, y1, y2, d2⟩ | ⟨T, f, oT, d1, d2, d3, d4, d5, d6⟩
  · exact wpAny_pyNext_zipD2_end Sp D1 D2 d1 a d2 b c le1 le2 hend q
  · exact next_zipH_end Sp D1 D2 d1 d2 a b c le1 le2 hend fun h' tk k => q h' tk fun c o c1 _ c3 c4 e => k c o c1 c3 c4 e
/-- the pairs that are out -/
structure ZG (P1 P2 : Nat → Value → Prop) (lo : Addr) (h : Heap) (as : List Addr) : Prop where
  rise : as.Pairwise (· < ·)
  above : ∀ a ∈ as, lo < a
  pairs : ∀ (j : Nat) (a : Addr), as[j]? = some a → ∃ x y, P1 j x ∧ P2 j y ∧ IsTupOf2 h a x y
theorem ZG.there {lo : Addr} {h : Heap} {as : List Addr} (g : ZG P1 P2 lo h as) {a : Addr} (ha : a ∈ as) : a < h.objs.size := by
  obtain ⟨j, hj⟩ := List.mem_iff_getElem?.mp ha
  obtain ⟨_, _, _, _, e⟩ := g.pairs j a hj
  exact Heap.lt_size e
theorem zl_loop (Sp : ZipSep2 z TI TO i1 i2 fp1 fp2) (D1 : Draws prog w A.in1.in1 i1 fp1 n1 P1 St1) (D2 : Draws prog w A.in1.in1 i2 fp2 n2 P2 St2) (nz : S ≠ z) (nI : S ≠ TI) (nO : S ≠ TO) (n1' : S ∉ fp1) (n2' : S ∉ fp2) {lo : Addr} (lz : z ≤ lo) (lO : TO ≤ lo) (l1 : i1 ≤ lo) (l2 : i2 ≤ lo) (lS : S ≤ lo) (hn : min n1 n2 ≤ sizeLine) (res : Value) {h₁ : Heap}
    (hR : ∀ h' tk acc c as, (∀ b o, b ≠ S → b ≠ z → b ≠ TO → b ≠ i1 → b ≠ i2 → h₁.get? b = some o → h'.get? b = some o) → h'.get? S = some { cls := .type "list", dict := none, data := .seq acc c, slots := #[] } → as.length = min n1 n2 → ZG P1 P2 lo h' as → acc.toList = as.map Value.ref → R (.ok (.ret res)) { s with heap := h', toks := tk }) :
    ∀ (k i : Nat) (h : Heap) (tk c : Nat) (acc : Array Value) (as : List Addr), min n1 n2 - i = k → i ≤ min n1 n2 → ZSt z TI TO i1 i2 S St1 St2 i h → (∀ b o, b ≠ S → b ≠ z → b ≠ TO → b ≠ i1 → b ≠ i2 → h₁.get? b = some o → h.get? b = some o) →
      h.get? S = some { cls := .type "list", dict := none, data := .seq acc c, slots := #[] } → acc.toList = as.map Value.ref → as.length = i → ZG P1 P2 lo h as → lo < h.objs.size →
      codeAny (model prog w) A (.builtin "list.extend.loop" ⟨[.ref S, .ref z, res], []⟩) R { s with heap := h, toks := tk } := by
  have nf1 : S ≠ i1 := fun e => n1' (e ▸ Sp.mem1)
  have nf2 : S ≠ i2 := fun e => n2' (e ▸ Sp.mem2)
  intro k
  induction k with
  | zero =>
    intro i h tk c acc as hk hi hst hkeep hS hacc hal hG hlo
    refine codeAny_builtin PySem.F.entry_extend_loop ?_
    rw [Around.under_plainId PySem.F.plain_extend_loop _]
    show wpAny _ A.in1 (pyNext (.ref z) >>= _) _ _ _
    refine wpAny_bind (zl_end (s := { s with heap := h, toks := tk }) (A := A.in1) Sp D1 D2 hst (by omega) (by omega) (by omega) fun h' tk' he => ?_)
    refine wpAny_pure (hR h' tk' acc c as (fun b o h1 h2 h3 h4 h5 e => he b o h2 h3 h4 h5 (hkeep b o h1 h2 h3 h4 h5 e)) (he S _ nz nO nf1 nf2 hS) (by omega) ⟨hG.rise, hG.above, fun j a hj => ?_⟩ hacc)
    obtain ⟨x, y, e1, e2, e3⟩ := hG.pairs j a hj
    have ab := hG.above a (List.mem_of_getElem? hj)
    exact ⟨x, y, e1, e2, he a _ (Nat.ne_of_gt (Nat.lt_of_le_of_lt lz ab)) (Nat.ne_of_gt (Nat.lt_of_le_of_lt lO ab)) (Nat.ne_of_gt (Nat.lt_of_le_of_lt l1 ab)) (Nat.ne_of_gt (Nat.lt_of_le_of_lt l2 ab)) e3⟩
  | succ k ih =>
    intro i h tk c acc as hk hi hst hkeep hS hacc hal hG hlo
    have hsz : acc.size = i := by rw [← Array.length_toList, hacc, List.length_map, hal]
    refine codeAny_builtin PySem.F.entry_extend_loop ?_
    rw [Around.under_plainId PySem.F.plain_extend_loop _]
    show wpAny _ A.in1 (pyNext (.ref z) >>= _) _ _ _
    refine wpAny_bind (zl_item (s := { s with heap := h, toks := tk }) (A := A.in1) Sp D1 D2 hst (Heap.lt_size hS) (by omega) (by omega) fun x1 x2 h' tk' p1 p2 hst' ht hkp => ?_)
    dsimp only at ht hkp ⊢
    have hS' := hkp S _ nz nO nf1 nf2 hS
    have up : ∀ b o, b ≠ S → h'.get? b = some o → (h'.update S (Obj.mapSeq (·.push (Value.ref h.objs.size)))).get? b = some o := fun b o hb e => (Heap.get?_update_other _ _ (Ne.symm hb)).trans e
    have hSl : S < h.objs.size := Heap.lt_size hS
    show wpAny _ A.in1 (updateSeq S (·.push (Value.ref h.objs.size)) >>= _) _ _ _
    refine wpAny_bind ?_
    refine wpAny_updateSeq hS' rfl (wpAny_pure ⟨plainId_quiet PySem.F.plain_extend_loop _, ih (i + 1) _ tk' _ (acc.push (Value.ref h.objs.size)) (as ++ [h.objs.size]) (by omega) (by omega) (hst'.stay Sp D1 D2 nz nI nO n1' n2' up)
      (fun b o h1 h2 h3 h4 h5 e => up b o h1 (hkp b o h2 h3 h4 h5 (hkeep b o h1 h2 h3 h4 h5 e))) (Heap.get?_update_self _ hS' rfl) (by rw [Array.toList_push, hacc, List.map_append]; rfl) (by rw [List.length_append, hal]; rfl) ⟨?_, ?_, ?_⟩ ?_⟩) (by rw [hsz]; omega) (by show (acc.push (Value.ref h.objs.size)).size ≤ sizeLine + 1; rw [Array.size_push, hsz]; omega)
    · refine List.pairwise_append.mpr ⟨hG.rise, List.pairwise_singleton _ _, fun a ha b hb => ?_⟩
      rw [List.mem_singleton.mp hb]
      exact hG.there ha
    · intro a ha
      rcases List.mem_append.mp ha with ha | ha
      · exact hG.above a ha
      · rw [List.mem_singleton.mp ha]; exact hlo
    · intro j b hj
      rcases Nat.lt_trichotomy j as.length with h1 | h1 | h1
      · rw [List.getElem?_append_left h1] at hj
        obtain ⟨x, y, e1, e2, e3⟩ := hG.pairs j b hj
        have ab := hG.above b (List.mem_of_getElem? hj)
        exact ⟨x, y, e1, e2, up b _ (Nat.ne_of_gt (Nat.lt_of_le_of_lt lS ab)) (hkp b _ (Nat.ne_of_gt (Nat.lt_of_le_of_lt lz ab)) (Nat.ne_of_gt (Nat.lt_of_le_of_lt lO ab)) (Nat.ne_of_gt (Nat.lt_of_le_of_lt l1 ab)) (Nat.ne_of_gt (Nat.lt_of_le_of_lt l2 ab)) e3)⟩
      · subst h1
        have hb : h.objs.size = b := by simpa using hj
        subst hb
        subst hal
        exact ⟨x1, x2, p1, p2, up _ _ (Nat.ne_of_gt hSl) ht⟩
      · have hnone : (as ++ [h.objs.size])[j]? = none := List.getElem?_eq_none (by rw [List.length_append, List.length_singleton]; omega)
        rw [hnone] at hj; cases hj
    · have e : (h'.update S (Obj.mapSeq (·.push (Value.ref h.objs.size)))).get? h.objs.size = _ := up _ _ (Nat.ne_of_gt hSl) ht
      exact Nat.lt_trans hlo (Heap.lt_size e)
theorem zl_extend (Sp : ZipSep2 z TI TO i1 i2 fp1 fp2) (D1 : Draws prog w A.in1.in1 i1 fp1 n1 P1 St1) (D2 : Draws prog w A.in1.in1 i2 fp2 n2 P2 St2) (nI : S ≠ TI) (n1' : S ∉ fp1) (n2' : S ∉ fp2) (lz : z < S) (lO : TO < S) (hn : min n1 n2 ≤ sizeLine) (res : Value)
    (hz : IsZip s.heap z TI TO .none) (hI : IsTupOf2 s.heap TI (.ref i1) (.ref i2)) (hO : ∃ a b, IsTupOf2 s.heap TO a b) (s1 : St1 0 s.heap) (s2 : St2 0 s.heap) (l1 : i1 ≤ S) (l2 : i2 ≤ S) (c₀ : Nat) (hS : s.heap.get? S = some { cls := .type "list", data := .seq #[] c₀ })
    (hR : ∀ h' tk acc c as, (∀ b o, b ≠ S → b ≠ z → b ≠ TO → b ≠ i1 → b ≠ i2 → s.heap.get? b = some o → h'.get? b = some o) → h'.get? S = some { cls := .type "list", dict := none, data := .seq acc c, slots := #[] } → as.length = min n1 n2 → ZG P1 P2 S h' as → acc.toList = as.map Value.ref → R (.ok (.ret res)) { s with heap := h', toks := tk }) :
    wpAny (model prog w) A.in1 (Builtin.List.listExtendWith (.ref S) (.ref z) res)
      (fun fin s' => match fin with | .done f => R (.ok f) s' | .again c' => c'.quiet = true ∧ codeAny (model prog w) A c' R s') (fun e s' => R (.error e) s') s := by
  have nz : S ≠ z := Nat.ne_of_gt lz
  have nO : S ≠ TO := Nat.ne_of_gt lO
  have key : ∀ (h : Heap) (c₁ tk : Nat), (∀ b o, b ≠ S → s.heap.get? b = some o → h.get? b = some o) → h.get? S = some { cls := .type "list", data := .seq #[] c₁ } → codeAny (model prog w) A (.builtin "list.extend.loop" ⟨[.ref S, .ref z, res], []⟩) R { s with heap := h, toks := tk } := by
    intro h c₁ tk hk hS₁
    have st0 : ZSt z TI TO i1 i2 S St1 St2 0 s.heap := ⟨hI, s1, s2, .inl ⟨hz, hO⟩⟩
    exact zl_loop (s := s) (h₁ := s.heap) Sp D1 D2 nz nI nO n1' n2' (lo := S) (Nat.le_of_lt lz) (Nat.le_of_lt lO) l1 l2 (Nat.le_refl _) hn res hR
      (min n1 n2) 0 h tk c₁ #[] [] (Nat.sub_zero _) (Nat.zero_le _) (st0.stay Sp D1 D2 nz nI nO n1' n2' hk) (fun b o hb _ _ _ _ e => hk b o hb e) hS₁ rfl rfl
      ⟨List.Pairwise.nil, (fun _ ha => nomatch ha), (fun j a hj => by simp at hj)⟩ (Heap.lt_size hS₁)
  have ty : s.TypeIs (.ref z) "zip" := ⟨_, hz, rfl⟩
  unfold Builtin.List.listExtendWith
  refine wpAny_bind (wpAny_typeOf (T := "zip") ty ?_)
  have h1 : Builtin.List.listSameRef (.ref S) (.ref z) = false := by simp [Builtin.List.listSameRef, nz]
  have h2 : (Value.type "zip" == Value.type "list") = false := by decide
  have h3 : (Value.type "zip" == Value.type "tuple") = false := by decide
  simp only [h1, h2, h3, Bool.or_false, Bool.false_eq_true, if_false]
  refine wpAny_bind (wpAny_pyIter_zip hz ?_)
  refine wpAny_bind (wpAny_holding (zip_hint ty ?_))
  simp only [Bool.true_or, if_true]
  refine wpAny_bind (wpAny_rule ?_)
  refine wpAny_bind ?_
  show wpAny _ _ (updateSeq S (·.push .none) >>= fun _ => updateSeq S (·.pop)) _ _ _
  refine wpAny_bind (wpAny_updateSeq hS rfl ?_)
  have hS₂ := Heap.get?_update_self (Obj.mapSeq (·.push Value.none)) hS rfl
  refine wpAny_updateSeq (hz := by seq_fits) hS₂ rfl ?_
  have hS₃ := Heap.get?_update_self (Obj.mapSeq (·.pop)) hS₂ rfl
  refine wpAny_pure ⟨plainId_quiet PySem.F.plain_extend_loop _, key _ _ _ (fun b o hb e => ?_) hS₃⟩
  exact (Heap.get?_update_other _ _ (Ne.symm hb)).trans ((Heap.get?_update_other _ _ (Ne.symm hb)).trans e)
theorem zl_call {Q : Value → Shared → Prop} (Sp : ZipSep2 z TI TO i1 i2 fp1 fp2) (D1 : Draws prog w A.in1.in1.in1 i1 fp1 n1 P1 St1) (D2 : Draws prog w A.in1.in1.in1 i2 fp2 n2 P2 St2) (f1 : ∀ b ∈ fp1, b < s.heap.objs.size) (f2 : ∀ b ∈ fp2, b < s.heap.objs.size) (hn : min n1 n2 ≤ sizeLine)
    (hz : IsZip s.heap z TI TO .none) (hI : IsTupOf2 s.heap TI (.ref i1) (.ref i2)) (hO : ∃ a b, IsTupOf2 s.heap TO a b) (s1 : St1 0 s.heap) (s2 : St2 0 s.heap)
    (hQ : ∀ h' tk acc c as, (∀ b o, b ≠ z → b ≠ TO → b ≠ i1 → b ≠ i2 → s.heap.get? b = some o → h'.get? b = some o) → h'.get? s.heap.objs.size = some { cls := .type "list", dict := none, data := .seq acc c, slots := #[] } → as.length = min n1 n2 → ZG P1 P2 s.heap.objs.size h' as →
      acc.toList = as.map Value.ref → Q (.ref s.heap.objs.size) { s with heap := h', toks := tk }) : wpAny (model prog w) A (call (.type "list") [.ref z]) Q E s := by
  refine callType_codes (Q₁ := fun obj s₁ => obj = .ref s.heap.objs.size ∧ s₁ = { s with heap := s.heap.push { cls := .type "list", data := .seq #[] } }) PySem.F.called_list (PySem.F.typeCall_list_1 _) PySem.F.entry_list_init
    (code_list_new _ ⟨rfl, rfl⟩) fun obj s₁ h₁ => ?_
  obtain ⟨rfl, rfl⟩ := h₁
  have hS : (s.heap.push { cls := .type "list", data := .seq #[] }).get? s.heap.objs.size = some { cls := .type "list", data := .seq #[] } := Heap.get?_push_size _ rfl
  have lz : z < s.heap.objs.size := Heap.lt_size hz
  have lI : TI < s.heap.objs.size := Heap.lt_size hI
  have lO : TO < s.heap.objs.size := by obtain ⟨_, _, e⟩ := hO; exact Heap.lt_size e
  have up : ∀ b o, s.heap.get? b = some o → (s.heap.push { cls := .type "list", data := .seq #[] }).get? b = some o := fun b o e => Heap.get?_push_of_some _ e
  refine ⟨⟨_, hS, rfl⟩, PySem.F.args_list_init_2 _ _, ?_⟩
  show wpAny _ _ (do let old ← Builtin.List.listItems (.ref s.heap.objs.size); Builtin.List.listUpdate (.ref s.heap.objs.size) (fun _ => #[]); letGo old.toList.reverse; Builtin.List.listExtendWith (.ref s.heap.objs.size) (.ref z) .none) _ _ _
  refine wpAny_bind ?_
  unfold Builtin.List.listItems
  refine wpAny_bind (wpAny_seqItems hS rfl (wpAny_pure ?_))
  show wpAny _ _ (updateSeq s.heap.objs.size (fun _ => #[]) >>= fun _ => letGo (#[] : Array Value).toList.reverse >>= fun _ => Builtin.List.listExtendWith (.ref s.heap.objs.size) (.ref z) .none) _ _ _
  refine wpAny_bind (wpAny_updateSeq hS rfl ?_)
  have hS₂ := Heap.get?_update_self (Obj.mapSeq (fun _ => (#[] : Array Value))) hS rfl
  have oth : ∀ b o, b ≠ s.heap.objs.size → (s.heap.push { cls := .type "list", data := .seq #[] }).get? b = some o → ((s.heap.push { cls := .type "list", data := .seq #[] }).update s.heap.objs.size (Obj.mapSeq (fun _ => (#[] : Array Value)))).get? b = some o :=
    fun b o hb e => (Heap.get?_update_other _ _ (Ne.symm hb)).trans e
  have go : ∀ b o, b < s.heap.objs.size → s.heap.get? b = some o → ((s.heap.push { cls := .type "list", data := .seq #[] }).update s.heap.objs.size (Obj.mapSeq (fun _ => (#[] : Array Value)))).get? b = some o := fun b o l e => oth b o (Nat.ne_of_lt l) (up b o e)
  refine wpAny_bind (wpAny_letGo ?_)
  obtain ⟨oa, ob, hO⟩ := hO
  refine zl_extend (A := A.in1) Sp D1 D2 (Nat.ne_of_gt lI) (fun q => Nat.lt_irrefl _ (f1 _ q)) (fun q => Nat.lt_irrefl _ (f2 _ q)) lz lO hn .none (go _ _ lz hz) (go _ _ lI hI) ⟨oa, ob, go _ _ lO hO⟩ (D1.frame _ _ _ s1 fun b hb o e => go b o (f1 b hb) e) (D2.frame _ _ _ s2 fun b hb o e => go b o (f2 b hb) e)
    (Nat.le_of_lt (f1 _ Sp.mem1)) (Nat.le_of_lt (f2 _ Sp.mem2)) _ hS₂ fun h' tk acc c as hk hS' hl hG hacc => ?_
  exact ⟨rfl, hQ h' tk acc c as (fun b o b1 b2 b3 b4 e => hk b o (Nat.ne_of_lt (Heap.lt_size e)) b1 b2 b3 b4 (go b o (Heap.lt_size e) e)) hS' hl hG hacc⟩
end
end Y

set_option Elab.async false
set_option linter.all false
set_option maxRecDepth 100000
namespace Y
open PySem PySem.Spec PyProof.Rows L2
def putP : Hp → List Addr → List (V × V) → Hp
  | H, a :: as, p :: ps => putP (upd H a (.tup [p.1, p.2])) as ps
  | H, _, _ => H
theorem putP_off {b : Addr} : ∀ {as : List Addr} {ps : List (V × V)} {H : Hp}, b ∉ as → putP H as ps b = H b
  | [], _, _, _ => rfl
  | _ :: _, [], _, _ => rfl
  | a :: as, p :: ps, H, h => (putP_off (fun z => h (List.mem_cons_of_mem _ z))).trans (upd_ne fun z => h (by rw [z]; exact List.mem_cons_self))
theorem putP_at : ∀ {as : List Addr} {ps : List (V × V)} {H : Hp} {j : Nat} {a : Addr}, as.length = ps.length → as.Nodup → as[j]? = some a → ∃ q, ps[j]? = some q ∧ putP H as ps a = some (.tup [q.1, q.2])
  | [], _, _, j, a, _, _, e => by simp at e
  | _ :: _, [], _, _, _, l, _, _ => by simp at l
  | x :: as, p :: ps, H, 0, a, l, nd, e => by
    simp at e
    subst e
    exact ⟨p, rfl, (putP_off (List.nodup_cons.mp nd).1).trans upd_same⟩
  | x :: as, p :: ps, H, j + 1, a, l, nd, e => putP_at (H := upd H x (.tup [p.1, p.2])) (by simpa using l) (List.nodup_cons.mp nd).2 (by simpa using e)
def tListZip (K : PySem.W.Frag) (ta : TA) : TE := fun σ H Q => ta σ H fun vs H1 => ∃ k1 k2 xs ys, vs = [Kd.val k1, Kd.val k2] ∧ k1.has K H1 xs ∧ k2.has K H1 ys ∧ (xs.zip ys).length ≤ sizeLine ∧
  ∀ (H' : Hp) (p : Addr) (as : List Addr), (∀ b o, H1 b = some o → H' b = some o) → H1 p = none → H' p = some (.lst (as.map V.ref)) → as.length = (xs.zip ys).length → (∀ (j : Nat) (a : Addr), as[j]? = some a → ∃ q, (xs.zip ys)[j]? = some q ∧ H' a = some (.tup [q.1, q.2])) → Q (.ref p) H'
section
variable {X : Cx} {pins : List (Addr × Obj)} {σ : L2.St} {H : Hp} {s : Shared}
theorem zip_laid {h' : Heap} {tk : Nat} {xs ys : List V} {acc : Array Value} {c : Nat} {as : List Addr} {p : Addr} (I : Inv X pins σ H s) (hp : s.heap.objs.size ≤ p) (hz : (xs.zip ys).length ≤ sizeLine) (hk : ∀ b o, s.heap.get? b = some o → h'.get? b = some o)
    (hS : h'.get? p = some { cls := .type "list", dict := none, data := .seq acc c, slots := #[] }) (hl : as.length = (xs.zip ys).length) (rise : as.Pairwise (· < ·)) (above : ∀ a ∈ as, p < a)
    (hG : ∀ (j : Nat) (a : Addr), as[j]? = some a → ∃ u v x y, IsTupOf2 h' a u v ∧ (xs.zip ys)[j]? = some (x, y) ∧ RelV x u ∧ RelV y v) (hacc : acc.toList = as.map Value.ref) :
    ∃ H' : Hp, (∀ b o, H b = some o → H' b = some o) ∧ H p = none ∧ H' p = some (.lst (as.map V.ref)) ∧ (∀ (j : Nat) (a : Addr), as[j]? = some a → ∃ q, (xs.zip ys)[j]? = some q ∧ H' a = some (.tup [q.1, q.2])) ∧ Inv X pins σ H' { s with heap := h', toks := tk } := by
  have nS : p ∉ as := fun z => Nat.lt_irrefl _ (above _ z)
  have nd : as.Nodup := rise.imp fun h => Nat.ne_of_lt h
  have new : ∀ t ∈ as, H t = none := fun t ht => I.hok.fresh (Nat.le_trans hp (Nat.le_of_lt (above t ht)))
  have newS : H p = none := I.hok.fresh hp
  have off : ∀ b, b ∉ as → b ≠ p → putP (upd H p (.lst (as.map V.ref))) as (xs.zip ys) b = H b := fun b h1 h2 => (putP_off h1).trans (upd_ne h2)
  have low : ∀ b o, s.heap.get? b = some o → b ∉ as ∧ b ≠ p := fun b o e => ⟨fun z => absurd (Nat.lt_of_lt_of_le (Heap.lt_size e) hp) (Nat.not_lt.mpr (Nat.le_of_lt (above b z))), Nat.ne_of_lt (Nat.lt_of_lt_of_le (Heap.lt_size e) hp)⟩
  have kp : ∀ b u, H b = some u → putP (upd H p (.lst (as.map V.ref))) as (xs.zip ys) b = some u := fun b u e => by
    rw [off b (fun z => by rw [new b z] at e; cases e) (fun z => by rw [z, newS] at e; cases e)]
    exact e
  have eS : putP (upd H p (.lst (as.map V.ref))) as (xs.zip ys) p = some (.lst (as.map V.ref)) := (putP_off nS).trans upd_same
  refine ⟨putP (upd H p (.lst (as.map V.ref))) as (xs.zip ys), kp, newS, eS, fun j a e => putP_at hl nd e, ?_⟩
  refine I.call' (ch := []) rfl ⟨fun b o q _ _ _ => hk b o q, fun b o q _ _ _ => ⟨o.slots, hk b o q⟩, fun b o q n _ => ?_, fun b o q _ => ⟨o, hk b o q⟩, fun b xs q => kp b _ q, fun b o u q => kp b _ q, fun b ps q => ⟨#[], by rw [kp b _ q]; simp⟩⟩ (fun b u q => ?_) I.bare fun b z => by simp at z
  · obtain ⟨z1, z2⟩ := low b o q
    rw [off b z1 z2]
    exact n
  · by_cases hb : b ∈ as
    · obtain ⟨j, e1⟩ := List.mem_iff_getElem?.mp hb
      obtain ⟨q2, e2, e3⟩ := putP_at (H := upd H p (.lst (as.map V.ref))) hl nd e1
      rw [e3] at q
      cases q
      obtain ⟨u1, u2, x, y, f1, f2, r1, r2⟩ := hG j b e1
      rw [f2] at e2
      cases e2
      exact ⟨by show 2 ≤ sizeLine; decide, [u1, u2], .cons r1 (.cons r2 .nil), ⟨_, f1, rfl, _, rfl⟩⟩
    · by_cases hb2 : b = p
      · rw [hb2] at q ⊢
        rw [eS] at q
        cases q
        refine ⟨by rw [List.length_map, hl]; exact hz, acc.toList, c, by rw [hacc]; exact LiI.vals_refs as, ?_⟩
        rw [Array.toArray_toList]
        exact hS
      · rw [off b hb hb2] at q
        exact (I.hok b u q).stay (fun d v _ y => hk d v y) (fun d y => kp d _ y) fun d xs y => kp d _ y
theorem pe_listZip {e e2 : Expr} {ta : TA} {p p2 q pos : Pos} (hc : X.calm = true) (hg : Gl X "list") (hm : X.mg "list" = none) (hg2 : Gl X "zip") (hm2 : X.mg "zip" = none) (ha : PA X [e, e2] ta)
    (hs : starEach [.Call (.Name "zip" p2) [e, e2] [] q] X.env = (false, eval (.Call (.Name "zip" p2) [e, e2] [] q) X.env) :: starEach [] X.env := by rfl)
    (hs2 : starEach [e, e2] X.env = (false, eval e X.env) :: starEach [e2] X.env := by rfl) (hpl : (backTo q (starEach [e2] X.env)).any (·.1) = false := by rfl) :
    PE X (.Call (.Name "list" p) [.Call (.Name "zip" p2) [e, e2] [] q] [] pos) (tListZip X.K ta) := by
  refine ⟨fun pins s σ H Q I h => ?_⟩
  refine wpAny_Call_Name_kw (ld_blt I hg hm bo_list ?_)
  refine PyProof.Rows.callWith_type1 ?_ hs rfl
  rw [hs]
  show wpAny _ _ (spliced ((false, eval (.Call (.Name "zip" p2) [e, e2] [] q) X.env) :: backTo pos (starEach [] X.env))) _ _ s
  refine Calls.spliced_cons ?_
  refine Call_ (ld_blt I hg2 hm2 PyProof.Rows.boot_zip (PyProof.Rows.callWith_type1 (thn (ha.run q pins s σ H _ I h) fun us s1 ⟨vs, H1, I1, r1, q1⟩ => ?_) hs2 hpl))
  obtain ⟨k1, k2, xs, ys, ex, h1, h2, hz, qq⟩ := q1
  subst ex
  obtain ⟨u1, us1, rfl, r2, r3⟩ : ∃ u us', us = u :: us' ∧ RelV k1.val u ∧ Vals [k2.val] us' := by cases r1 with | cons a b => exact ⟨_, _, rfl, a, b⟩
  obtain ⟨u2, rfl, r4⟩ := vals1 r3
  obtain ⟨o1, G1, tk1, b1, g1, l1, m1⟩ := Kd.begins I1 h1 r2
  obtain ⟨o2, G2, tk2, b2, g2, l2, m2⟩ := Kd.begins I1 h2 r4
  refine zip_begins2 b1 b2 g1 g2 fun h' hzz hI hO e1 e2 hsz hk => Calls.spliced_nil ?_
  have I2 : Inv X pins σ H1 { s1 with heap := h' } := I1.kept (t' := s1.toks) hk
  have hh : X.A.in1.in1.in1.handled = none := by simp [I1.ok.hd hc]
  have cc : Cells5 s1.heap.objs.size k1 k2 := ⟨l1, l2⟩
  obtain ⟨fp1, P1, S1, d1, s1'⟩ := Kd.draw (A := X.A.in1.in1.in1) hh I2 h1 (fun a e => ad (by have := Kd.lo_ne cc.lo1 a e; omega)) (m1 _ _ e1)
  obtain ⟨fp2, P2, S2, d2, s2'⟩ := Kd.draw (A := X.A.in1.in1.in1) hh I2 h2 (fun a e => ad (by have := Kd.lo_ne cc.lo2 a e; omega)) (m2 _ _ e2)
  have lz : (xs.zip ys).length = min xs.length ys.length := List.length_zip ..
  have f1 : ∀ b ∈ fp1, b < h'.objs.size := fun b hb => by
    rw [hsz]
    rcases d1.lo b hb with rfl | ⟨a, rfl, e⟩
    · exact Nat.lt_add_of_pos_right (by decide)
    · exact Nat.lt_of_lt_of_le (Kd.lo_ne cc.lo1 _ e) (Nat.le_add_right _ _)
  have f2 : ∀ b ∈ fp2, b < h'.objs.size := fun b hb => by
    rw [hsz]
    rcases d2.lo b hb with rfl | ⟨a, rfl, e⟩
    · exact Nat.add_lt_add_left (by decide) _
    · exact Nat.lt_of_lt_of_le (Kd.lo_ne cc.lo2 _ e) (Nat.le_add_right _ _)
  refine zl_call (s := { s1 with heap := h' }) (sep5 cc d1 d2) d1.dr d2.dr f1 f2 (by rw [← lz]; exact hz) hzz hI ⟨_, _, hO⟩ s1' s2' fun h3 tk acc c as hk3 hS3 hl3 hG3 hacc => ?_
  have kk : ∀ b o, s1.heap.get? b = some o → h3.get? b = some o := fun b o e => by
    have lb := Heap.lt_size e
    exact hk3 b o (Nat.ne_of_lt (Nat.lt_of_lt_of_le lb (Nat.le_add_right _ _))) (Nat.ne_of_lt (Nat.lt_of_lt_of_le lb (Nat.le_add_right _ _))) (Nat.ne_of_lt lb) (Nat.ne_of_lt (Nat.lt_of_lt_of_le lb (Nat.le_add_right _ _))) (hk b o e)
  obtain ⟨H', g1', g2', g3', g4', J⟩ := zip_laid (tk := tk) (xs := xs) (ys := ys) (p := h'.objs.size) I1 (by rw [hsz]; exact Nat.le_add_right _ _) hz kk hS3 (by rw [lz]; exact hl3) hG3.rise hG3.above (fun j a e => by
    obtain ⟨u, v, y1, y2, y3⟩ := hG3.pairs j a e
    obtain ⟨x, ex, rx⟩ := d1.item _ _ y1
    obtain ⟨y, ey, ry⟩ := d2.item _ _ y2
    exact ⟨u, v, x, y, y3, List.getElem?_zip_eq_some.mpr ⟨ex, ey⟩, rx, ry⟩) hacc
  exact ⟨.ref _, H', J, rfl, qq H' _ as g1' g2' g3' (by rw [lz]; exact hl3) g4'⟩
end
def cListZip (m : AM) : EM := fun ρ => do
  let (hs, ρ1) ← m ρ
  match hs with
  | [h, h2] => do
    let x ← (h.d ρ1).nox
    let y ← (h2.d ρ1).nox
    let ps ← (zipGD x y).nox
    if szOk ps.length = true then pure (.fr (.lst ps), ρ1) else .stk
  | _ => .stk
theorem reps_pairs {K : PySem.W.Frag} {H' : Hp} {P : Pr} : ∀ {ds es : List D} {xs ys : List V} {as : List Addr}, Reps K H' ds P xs → Reps K H' es P ys → as.length = (xs.zip ys).length → (∀ (j : Nat) (a : Addr), as[j]? = some a → ∃ q, (xs.zip ys)[j]? = some q ∧ H' a = some (.tup [q.1, q.2])) → Reps K H' (pairsD ds es) P (as.map V.ref) := by
  intro ds
  induction ds with
  | nil =>
    intro es xs ys as r1 r2 l h
    obtain rfl := r1.nil_iff
    have : as = [] := List.length_eq_zero_iff.mp (by rw [l]; rfl)
    subst this
    exact Reps.nil
  | cons d ds ih =>
    intro es xs ys as r1 r2 l h
    obtain ⟨v, vs, rfl, a1, a2⟩ := r1.cons_iff
    cases es with
    | nil =>
      obtain rfl := r2.nil_iff
      have : as = [] := List.length_eq_zero_iff.mp (by rw [l]; rfl)
      subst this
      exact Reps.nil
    | cons e es =>
      obtain ⟨w, ws, rfl, b1, b2⟩ := r2.cons_iff
      cases as with
      | nil => simp at l
      | cons a as =>
        obtain ⟨q, e1, e2⟩ := h 0 a rfl
        simp at e1
        subst e1
        refine Reps.cons ?_ (ih a2 b2 (by simpa using l) fun j a' e => by simpa using h (j + 1) a' (by simpa using e))
        unfold Rep
        exact ⟨a, _, rfl, e2, Reps.cons a1 (Reps.cons b1 Reps.nil)⟩
section
variable {X : Cx} {P0 : Pr} {O W : List Nat} {E : EK} {a b : Expr} {ms : AM} {pos : Pos}
theorem ce_listZip {p p2 q : Pos} (hc : X.calm = true) (hm : X.mg "list" = none) (hm2 : X.mg "zip" = none) (ha : CA X P0 O W E [a, b] ms) (hg : Gl X "list" := by rfl) (hg2 : Gl X "zip" := by rfl)
    (hs : starEach [.Call (.Name "zip" p2) [a, b] [] q] X.env = (false, eval (.Call (.Name "zip" p2) [a, b] [] q) X.env) :: starEach [] X.env := by rfl)
    (hs2 : starEach [a, b] X.env = (false, eval a X.env) :: starEach [b] X.env := by rfl) (hpl : (backTo q (starEach [b] X.env)).any (·.1) = false := by rfl) :
    CEx X P0 O W E (.Call (.Name "list" p) [.Call (.Name "zip" p2) [a, b] [] q] [] pos) (cListZip ms) := PE.imp (pe_listZip hc hg hm hg2 hm2 ha hs hs2 hpl) fun σ H Q ⟨ρ, S, h⟩ => by
  refine ⟨ρ, S, h.of_bind.mono fun ⟨hs, ρ1⟩ q vs H1 S1 k1 r1 => ?_⟩
  match hs, r1, q with
  | [h, h2], r1, q =>
    obtain ⟨v, ws, rfl, t1, t2⟩ := r1
    obtain ⟨w, us, rfl, t3, t4⟩ := t2
    have t4 : us = [] := t4
    subst t4
    obtain ⟨x, ex, q1⟩ := Res.of_nox (show Res E W σ H ((h.d ρ1).nox >>= _) _ from q)
    obtain ⟨y, ey, q2⟩ := q1.of_nox
    obtain ⟨ps, ep, q3⟩ := q2.of_nox
    clear q q1 q2
    obtain ⟨xs, ys, e1, e2, rfl⟩ := zipGD_ok ep
    by_cases c : szOk (pairsD xs ys).length = true
    · rw [if_pos c] at q3
      obtain ⟨c1, vs1, rfl, f1, g1, _⟩ := (t1.d S1 ex).kd e1
      obtain ⟨c2, vs2, rfl, f2, g2, _⟩ := (t3.d S1 ey).kd e2
      have lz : (vs1.zip vs2).length = (pairsD xs ys).length := by rw [pairsD_len, List.length_zip, g1.length, g2.length]
      refine ⟨c1, c2, vs1, vs2, rfl, f1, f2, by rw [lz]; exact of_decide_eq_true c, fun H' p as kp np hp hl hG => ?_⟩
      have sm : Same H1 H' := kp
      have m1 := g1.mono xs S1.dom (fun b o e _ => kp b o e) (P' := fun b => FA P0 O σ b ∨ b = p) (fun b z => z.elim .inl fun z => .inr (by rw [z]; exact np))
      have m2 := g2.mono ys S1.dom (fun b o e _ => kp b o e) (P' := fun b => FA P0 O σ b ∨ b = p) (fun b z => z.elim .inl fun z => .inr (by rw [z]; exact np))
      refine out_of (K := X.K) S1 k1 q3 _ _ sm ?_ fun _ a e => by cases e; exact np
      unfold Rep
      exact ⟨p, _, rfl, fun z => (S1.dom p z).some np, hp, reps_pairs m1 m2 hl hG⟩
    · rw [if_neg c] at q3
      exact q3.elim
  | [], _, q => exact q.elim
  | [_], _, q => exact q.elim
  | _ :: _ :: _ :: _, _, q => exact q.elim
end
variable {ρ : Y.Env}
@[simp] theorem e_listZip {m : AM} : cListZip m ρ = (m ρ >>= fun p => match p.1 with | [h, h2] => ((h.d p.2).nox >>= fun x => (h2.d p.2).nox >>= fun y => (zipGD x y).nox >>= fun ps => if szOk ps.length = true then R.ok (.fr (.lst ps), p.2) else .stk) | _ => .stk) := by
  unfold cListZip; congr
end Y

set_option Elab.async false
set_option linter.all false
set_option maxRecDepth 100000
namespace Y
open PySem PySem.Spec PyProof.Rows L2
def minSD : List D → R D
  | [d] => match seqI d with
    | some (n :: ms) => .ok (.int (minI n ms))
    | _ => .stk
  | _ => .stk
theorem minI_fold : ∀ {ms : List Int} {n : Int}, minI n ms = ms.foldl min n
  | [], n => rfl
  | m :: ms, n => by rw [minI, List.foldl_cons]; exact minI_fold
theorem reads_ints {h : Heap} : ∀ {ns : List Int} {us : List Value}, Vals (ns.map V.int) us → ReadsAll h us (ns.map PyData.int) []
  | [], us, r => by
    rw [List.map_nil] at r
    cases r
    exact .nil
  | n :: ns, us, r => by
    rw [List.map_cons] at r
    cases r with
    | cons r t =>
      obtain ⟨k, rfl⟩ := r
      exact .cons (as := []) (.int n k) (reads_ints t)
theorem alike_ints {ns : List Int} : PySem.W.AlikeAll (ns.map PyData.int) := ⟨fun x hx y hy => by
  obtain ⟨i, _, rfl⟩ := List.mem_map.mp hx
  obtain ⟨j, _, rfl⟩ := List.mem_map.mp hy
  simp [PySem.W.alike], fun x hx z => by
  obtain ⟨i, _, rfl⟩ := List.mem_map.mp hx
  cases z⟩
theorem depth_ints : ∀ {ns : List Int}, PyData.depthAll (ns.map PyData.int) = 0
  | [] => rfl
  | n :: ns => by
    rw [List.map_cons, PyData.depthAll, depth_ints]
    rfl
section
variable {X : Cx}
def rMinT (K : PySem.W.Frag) : List V → Hp → VK → Prop := fun vs H Q => ∃ (a : Addr) (n : Int) (ns : List Int), vs = [V.ref a] ∧ SqT K H a ((n :: ns).map V.int) ∧ Q (.int (minI n ns)) H
theorem cr_minT (hc : X.calm = true) (hu : X.A.units + 1 < cLine) : CallR X (.builtin "min") (rMinT X.K) := by
  intro pins s σ H vs us Q I r h
  obtain ⟨a, n, ns, rfl, hs, q⟩ := h
  obtain ⟨its, rv, hl, _⟩ := I.tuple hs
  rw [Vals.ref1 r]
  refine PySem.W.min_tuple_data (x := .int n) (xs := ns.map PyData.int) (I.ok.hd hc) hl (by simpa using reads_ints (h := s.heap) rv) (alike_ints (ns := n :: ns)) (by
    have := depth_ints (ns := n :: ns)
    rw [List.map_cons] at this
    rw [this]; exact hu) fun i v h' tk bs _ hr hk => ?_
  rw [PySem.W.minD_ints, ← minI_fold] at hr
  cases hr
  exact ⟨.int _, H, I.kept hk, ⟨_, rfl⟩, q⟩
theorem cd_minS (hc : X.calm = true) (hu : X.A.units + 64 < cLine) : CallR X (.builtin "min") (rDs X.K minSD) := by
  intro pins s σ H xs us Q I r ⟨P, ds, dz, hm, rs, e, out⟩
  unfold minSD at e
  split at e
  · split at e
    · rename_i n ms ei
      cases e
      obtain ⟨v, rfl, r1⟩ := rs.get1
      obtain ⟨a, rfl, h1 | h1⟩ := r1.seqI ei
      · refine cr_min hc pins s σ H _ us Q I r ⟨a, n :: ms, rfl, h1, by simp, fun m hm' hb => ?_⟩
        rw [show m = minI n ms from Int.le_antisymm (hb _ minI_mem) (minI_le hm')]
        exact out.int
      · exact cr_minT hc (by omega) pins s σ H _ us Q I r ⟨a, n, ms, rfl, h1, out.int⟩
    · cases e
  · cases e
end
theorem d_minS {d : D} {n : Int} {ms : List Int} (h : seqI d = some (n :: ms)) : minSD [d] = .ok (.int (minI n ms)) := by
  show (match seqI d with | some (n :: ms) => R.ok (D.int (minI n ms)) | _ => .stk) = _
  rw [h]
end Y

set_option Elab.async false
set_option linter.all false
set_option maxRecDepth 100000
namespace Y
open PySem PySem.Spec PyProof.Rows L2
section
variable {κ : Type} [DecidableEq κ]
end
section
variable {X : Cx} {pins : List (Addr × Obj)} {σ : L2.St} {H : Hp} {s : Shared}
end
end Y

set_option Elab.async false
set_option linter.all false
set_option maxRecDepth 100000
namespace Y
open PySem PySem.Spec PyProof.Rows L2
def RT (H : Hp) (kvs : List (List Key × V)) (ps : List (V × V)) : Prop := Paired (fun (p : List Key × V) (q : V × V) => p.2 = q.2 ∧ ∃ b, q.1 = .ref b ∧ H b = some (.tup (p.1.map kV))) kvs ps
section
variable {X : Cx} {pins : List (Addr × Obj)} {σ : L2.St} {H : Hp} {s : Shared}
end
section
variable {X : Cx} {P0 : Pr} {O W : List Nat} {E : EK} {a b : Expr} {ms : AM} {pos : Pos}
end
variable {ρ : Y.Env}
end Y

set_option Elab.async false
set_option linter.all false
set_option maxRecDepth 100000
namespace Y
open PySem PySem.Spec PyProof.Rows L2
def posI (k : Int) : List Int → Option Nat
  | [] => none
  | n :: ns => if n = k then some 0 else (posI k ns).map (· + 1)
theorem posI_ok {k : Int} : ∀ {ns : List Int} {j : Nat}, posI k ns = some j → ns[j]? = some k ∧ ∀ m : Nat, m < j → ns[m]? ≠ some k
  | [], j, h => by simp [posI] at h
  | n :: ns, j, h => by
    unfold posI at h
    by_cases e : n = k
    · rw [if_pos e] at h
      cases h
      exact ⟨by simp [e], fun m hm => by omega⟩
    · rw [if_neg e] at h
      obtain ⟨i, hi, rfl⟩ := Option.map_eq_some_iff.mp h
      obtain ⟨h1, h2⟩ := posI_ok hi
      refine ⟨by simpa using h1, fun m hm => ?_⟩
      cases m with
      | zero => simpa using e
      | succ m => simpa using h2 m (by omega)
def sRemove (i : Nat) (m : EM) : SM := fun ρ => do
  let _ ← (lstAt i ρ).nox
  let (h, ρ1) ← m ρ
  let d ← (h.d ρ1).nox
  let ds ← (lstAt i ρ1).nox
  match d with
  | .int k => match intsOf ds with
    | some ns => match posI k ns with
      | some j => pure (.nx, ρ1.set i (some (.lst ((ns.eraseIdx j).map D.int))))
      | none => .stk
    | none => .stk
  | _ => .stk
section
variable {X : Cx} {P0 : Pr} {O W U : List Nat} {E : EK} {e : Expr} {ma : EM} {K : PySem.W.Frag} {pos : Pos}
theorem tM_remove {i : Nat} (hi : i ∈ O) (D : Ends) (σ : L2.St) (H : Hp) (h : tSt K P0 O W U E (sRemove i ma) D σ H) : tDrop (tBM K "list" rRemI (tVar i) (tCons (tM K P0 O W E ma) tNil)) D σ H := by
  obtain ⟨ρ, S, h⟩ := h
  obtain ⟨ds0, e0, h⟩ := h.of_nox
  obtain ⟨l, vs0, h1, h2, _⟩ := S.lst hi (lstAt_ok e0)
  refine ⟨.ref l, h1, .inl ⟨rfl, _, SqL.of h2⟩, ρ, S, (h.of_bind.down S.sub).mono fun ⟨hd, ρ1⟩ q v H1 S1 k1 r1 => ?_⟩
  obtain ⟨d, e1, q⟩ := q.of_nox
  obtain ⟨ds, e2, q⟩ := q.of_nox
  obtain ⟨l', vs, h1', h3, h4⟩ := S1.lst hi (lstAt_ok e2)
  rw [h1] at h1'
  cases h1'
  have rd := HdR.d S1 r1 e1
  cases d <;> first | (exact q.elim) | skip
  rename_i k _
  have ev : v = V.int k := rd.int
  subst ev
  have q : Res E O σ H (match intsOf ds with
    | some ns => (match posI k ns with
      | some j => R.ok (Fl.nx, ρ1.set i (some (.lst ((ns.eraseIdx j).map Y.D.int))))
      | none => .stk)
    | none => .stk) _ := q
  cases en : intsOf ds with
  | none => rw [en] at q; exact q.elim
  | some ns =>
    rw [en] at q
    cases ej : posI k ns with
    | none =>
      simp only [ej] at q
      exact q.elim
    | some j =>
      simp only [ej] at q
      obtain ⟨g1, g2⟩ := posI_ok ej
      have h4' := ints_rep en h4
      subst h4'
      refine ⟨l, ns, k, j, rfl, rfl, h3, g1, g2, ?_⟩
      exact q σ _ (S1.lstW hi h1 h3 (reps_ints _)) (Tr.ownW S.sub k1 hi h1) rfl
theorem cs_remove {i : Nat} {x : Str} {p ap cp : Pos} (h : CEx X P0 O W E e ma) (hi : i ∈ O := by decide) (hx : X.N[i]? = some x := by rfl) (hv : Vis X.env.scope x := by first | exact Or.inl rfl | exact Or.inr (Or.inl rfl) | exact Or.inr (Or.inr rfl)) (hd : (x == ("__debug__" : Str)) = false := by decide) (hcd : (x == ("__classdict__" : Str)) = false := by decide)
    (he : starEach [e] X.env = (false, eval e X.env) :: starEach [] X.env := by rfl) (hpl : (backTo cp (starEach [] X.env)).any (·.1) = false := by rfl) (hbase : attributeBase (.Name x p) "remove" X.env (eval (.Name x p) X.env) = eval (.Name x p) X.env := by rfl) (hline : (ap.endLine == cp.line) = true := by rfl)
    (hfew : Few X cp [e] := by rfl) (hsw : swapsWith (.Call (.Attribute (.Name x p) "remove" ap) [e] [] cp) none pos.line X.env = pure false := by rfl) :
    CS X P0 O W U E (.Expr (.Call (.Attribute (.Name x p) "remove" ap) [e] [] cp) pos) (sRemove i ma) :=
  PS.imp (ps_expr (pe_bm PySem.F.plainAttrs_list PySem.F.slot_list_remove PySem.F.type_list_remove mt_remove (pe_var (i := i) hx hv hd hcd) (pa_cons h pa_nil he) hbase hfew hline he hpl) hsw) (tM_remove hi)
end
variable {ρ : Y.Env}
@[simp] theorem e_remove {i : Nat} {m : EM} : sRemove i m ρ = ((lstAt i ρ).nox >>= fun _ => m ρ >>= fun p => (p.1.d p.2).nox >>= fun d => (lstAt i p.2).nox >>= fun ds => match d with
  | .int k => match intsOf ds with
    | some ns => match posI k ns with
      | some j => R.ok (Fl.nx, p.2.set i (some (.lst ((ns.eraseIdx j).map D.int))))
      | none => .stk
    | none => .stk
  | _ => .stk) := by
  unfold sRemove; congr
end Y

set_option Elab.async false
set_option linter.all false
set_option maxRecDepth 100000
namespace Y
open PySem PySem.Spec PyProof.Rows L2
def dicKeys : D → R (List D)
  | .dik ks _ => .ok (ks.map keyD)
  | .dit ks _ => .ok (ks.map fun k => .tup (k.map keyD))
  | _ => .stk
def cKeysV (i : Nat) : IM := fun ρ => do
  let d ← (look i ρ).nox
  let ds ← (dicKeys d).nox
  if szOk ds.length = true then pure ((ds, []), ρ) else .stk
def cNox (m : EM) : EM := fun ρ => (m ρ).nox
section
variable {K : PySem.W.Frag} {O W : List Nat} {a : Addr} {o : Obj}
theorem src_keysK {ks : List Key} {vs : List V} (hl : ks.length = vs.length) : Src K O W (ks.map keyD) [] (Itk a o (ks.zip vs)) (fun P0 _ σ H => H a = some (.frz o (.dK (ks.zip vs))) ∧ ¬ FA P0 O σ a) where
  go := fun P0 i ρ σ H S ⟨h1, _⟩ hi => ⟨h1, by rw [List.length_zip]; simp at hi; omega⟩
  stop := fun P0 ρ σ H S ⟨h1, _⟩ => ⟨h1, by simp; omega⟩
  yld := fun P0 i ρ σ H x H' d S ⟨h1, h2⟩ hd' y => by
    obtain ⟨rfl, k, v, e1, rfl⟩ := y
    obtain ⟨k1, _⟩ := zip_at e1
    rw [List.getElem?_map, k1] at hd'
    cases hd'
    exact ⟨Same.refl _, rep_key k⟩
  keep := fun P0 ρ σ H ρ' σ' H' S k w _ ⟨h1, h2⟩ => ⟨k _ _ h1 h2, fun z => (w a z).elim h2 fun z => by rw [h1] at z; cases z⟩
  mem := fun _ _ _ _ _ w hw => nomatch hw
  grow := fun P0 P1 ρ σ H H' S w k ⟨h1, h2⟩ => ⟨k _ _ h1, fun z => by
    rcases z with z | z
    · rcases w a z with z | z
      · exact h2 (.inl z)
      · rw [h1] at z; cases z
    · exact h2 (.inr z)⟩
theorem keys_readK {P0 : Pr} {E : EK} {σ : L2.St} {H : Hp} {R' : It → Hp → Prop} {i : Nat} {kvs : List (Key × V)} (ho : i ∉ O) (h : tMi K P0 O W E (cKeysV i) σ H R') (e : σ[i]? = some (some (.ref a))) (hf : H a = some (.frz o (.dK kvs))) : iKeys (tVar i) σ H R' := by
  obtain ⟨ρ, S, h⟩ := h
  obtain ⟨d, e1, h⟩ := Res.of_nox h
  obtain ⟨ps, e2, h⟩ := Res.of_nox h
  obtain ⟨v, e3, r⟩ := S.val i d (look_some e1) ho
  rw [e] at e3
  cases e3
  by_cases c : szOk ps.length = true
  · rw [if_pos c] at h
    cases d with
    | dik ks ds =>
      cases e2
      unfold Rep at r
      obtain ⟨b, vs, eb, h0, hl, rd, rs⟩ := r
      cases eb
      have ek : kvs = ks.zip vs := by
        rcases rd with rd | ⟨y, rd⟩ <;> (rw [hf] at rd; cases rd)
        rfl
      subst ek
      exact ⟨.ref a, e, a, o, rfl, .inl ⟨_, hf, h (Itk a o (ks.zip vs)) H _ S .refl (src_keysK hl) ⟨hf, h0⟩ (by rw [List.length_map]; have := of_decide_eq_true c; rwa [List.length_map] at this)⟩⟩
    | dit ks ds =>
      unfold Rep at r
      obtain ⟨b, vs, eb, h0, hl, rd, rs⟩ := r
      cases eb
      rcases rd with rd | ⟨y, rd⟩ <;> (rw [hf] at rd; cases rd)
    | _ => cases e2
  · rw [if_neg c] at h; exact h.elim
theorem keys_readT {P0 : Pr} {E : EK} {σ : L2.St} {H : Hp} {R' : It → Hp → Prop} {i : Nat} {kvs : List (List Key × V)} (ho : i ∉ O) (h : tMi K P0 O W E (cKeysV i) σ H R') (e : σ[i]? = some (some (.ref a))) (hf : H a = some (.frz o (.dT kvs))) : iKeys (tVar i) σ H R' := by
  obtain ⟨ρ, S, h⟩ := h
  obtain ⟨d, e1, h⟩ := Res.of_nox h
  obtain ⟨ps, e2, h⟩ := Res.of_nox h
  obtain ⟨v, e3, r⟩ := S.val i d (look_some e1) ho
  rw [e] at e3
  cases e3
  by_cases c : szOk ps.length = true
  · rw [if_pos c] at h
    cases d with
    | dit ks ds =>
      cases e2
      unfold Rep at r
      obtain ⟨b, vs, eb, h0, hl, rd, rs⟩ := r
      cases eb
      have ek : kvs = ks.zip vs := by
        rcases rd with rd | ⟨y, rd⟩ <;> (rw [hf] at rd; cases rd)
        rfl
      subst ek
      exact ⟨.ref a, e, a, o, rfl, .inr ⟨_, hf, h (Itkt a o (ks.zip vs)) H _ S .refl (src_keysT hl) ⟨hf, h0⟩ (by rw [List.length_map]; have := of_decide_eq_true c; rwa [List.length_map] at this)⟩⟩
    | dik ks ds =>
      unfold Rep at r
      obtain ⟨b, vs, eb, h0, hl, rd, rs⟩ := r
      cases eb
      rcases rd with rd | ⟨y, rd⟩ <;> (rw [hf] at rd; cases rd)
    | _ => cases e2
  · rw [if_neg c] at h; exact h.elim
end
section
variable {K : PySem.W.Frag} {P0 : Pr} {O W : List Nat} {E : EK} {ρ : Y.Env} {σ : L2.St} {H : Hp} {m : EM} {Q : VK} {a : Addr} {u : HO}
theorem tM_lock (S : Sim K P0 O W ρ σ H) {x : Hd × Y.Env} (e : m ρ = .ok x) (h : ∀ v H', Sim K P0 O W x.2 σ H' → Keep W σ H H' → HdR K P0 O H σ H' x.1 v → Q v H') (hu : DicU u) (ha : H a = some u) (n : ¬ FA P0 O σ a) (od : Obj) :
    tM K P0 O W E m σ (upd H a (.frz od u)) fun v H' => H' a = some (.frz od u) ∧ Q v (upd H' a u) := by
  have S1 : Sim K P0 O W ρ σ (upd H a (.frz od u)) := S.rd hu (fun b h => upd_ne h) (.inl ha) (.inr ⟨od, upd_same⟩) n
  refine ⟨ρ, S1, ?_⟩
  rw [e]
  intro v H' S' t r
  have fr : H' a = some (.frz od u) := t.keep a _ upd_same fun z => n (.inr (S.oaw z))
  have k : ∀ b, b ≠ a → upd H' a u b = H' b := fun b h => upd_ne h
  have r1 : Rd H' a u := .inr ⟨od, fr⟩
  have r2 : Rd (upd H' a u) a u := .inl upd_same
  have S2 : Sim K P0 O W x.2 σ (upd H' a u) := S'.rd hu k r1 r2 n
  have t2 : Keep W σ H (upd H' a u) := ⟨fun b o e1 e2 => by
      by_cases hb : b = a
      · rw [hb] at e1 ⊢; rw [upd_same, ← ha, e1]
      · rw [upd_ne hb]; exact t.keep b o (by rw [upd_ne hb]; exact e1) e2, fun b e1 => by
      by_cases hb : b = a
      · rw [hb, upd_same]; intro z; cases z
      · rw [upd_ne hb]; exact t.some b (by rw [upd_ne hb]; exact e1)⟩
  refine ⟨fr, h v _ S2 t2 ?_⟩
  obtain ⟨hd, ρ'⟩ := x
  cases hd with
  | fr d => exact ⟨r.1.rd hu k r1 r2, fun m b e => by
      have := r.2 m b e
      by_cases hb : b = a
      · rw [hb, upd_same] at this; cases this
      · rw [upd_ne hb] at this; exact this⟩
  | vl d => exact Rep.rd hu k r1 r2 r
  | ow i => exact r
end
section
variable {X : Cx} {P0 : Pr} {O W : List Nat} {E : EK} {tg : Expr} {pos : Pos}
theorem PE.or' {e : Expr} {t t' : TE} (h : PE X e t) (h' : PE X e t') : PE X e fun σ H Q => t σ H Q ∨ t' σ H Q :=
  ⟨fun pins s σ H Q I q => q.elim (h.run pins s σ H Q I) (h'.run pins s σ H Q I)⟩
theorem ce_compK {i : Nat} {x : Str} {p : Pos} {elt : Expr} {ifs : List Expr} {scope : Scope} {own : List (Str × Nat)} {tm : GM} {t : BM} {me : EM} {is : List Nat} (hc : X.calm = true) (hN : X.N.Nodup) (ok : BlkOk X.N X.env.scope scope own)
    (hg : ∀ (P0 : Pr) (s : Shared) (H : Hp) (C : Addr) (cl : List (Str × Addr)) (fp : List Addr), CG (X.blk s H scope (compEnvC scope cl C X.env) fp) P0 O W tg tm is)
    (ht : ∀ (s : Shared) (H : Hp) (C : Addr) (cl : List (Str × Addr)) (fp : List Addr), CTs (X.blk s H scope (compEnvC scope cl C X.env) fp) O W E00 ifs t)
    (he : ∀ (P0 : Pr) (s : Shared) (H : Hp) (C : Addr) (cl : List (Str × Addr)) (fp : List Addr), CEx (X.blk s H scope (compEnvC scope cl C X.env) fp) P0 O W E00 elt me)
    (hi : i ∉ O := by decide) (hx : X.N[i]? = some x := by rfl) (hvis : Vis X.env.scope x := by first | exact Or.inl rfl | exact Or.inr (Or.inl rfl) | exact Or.inr (Or.inr rfl)) (hd : (x == ("__debug__" : Str)) = false := by decide) (hcd : (x == ("__classdict__" : Str)) = false := by decide)
    (hv : ∀ i ∈ is, i ∈ own.map (·.2) := by decide) (ho : ∀ i ∈ own.map (·.2), i ∉ O := by decide) (hs : ∀ y, foldedSetIterable (.Name x p) X.env y = pure y := by intro _; rfl) :
    CEx X P0 O W E (.ListComp elt [⟨tg, .Name x p, ifs, 0⟩] scope pos) (cNox (cComp (cKeysV i) tm t me (own.map (·.2)))) := by
  have p1 := pe_lc (pos := pos) (g := fun v σ H Q => ∃ P0, tG X.K P0 O W tm is v σ H Q) (tt := fun σ H Q => ∃ P0, tMt X.K P0 O W E00 t σ H Q) (te := fun σ H Q => ∃ P0, tM X.K P0 O W E00 me σ H Q) hc hN (pi_keys (tg := tg) (pe_var (i := i) (pos := p) hx hvis hd hcd)) ok (fun s H C cl fp => PG.ex fun P0 => hg P0 s H C cl fp) ht (fun s H C cl fp => PE.ex fun P0 => he P0 s H C cl fp) hs
  refine PE.imp (PE.or' p1 (pe_lock p1)) fun σ H Q ⟨ρ, S, h⟩ => ?_
  obtain ⟨z, e, h⟩ := Res.of_nox1 (show Res E W σ H ((cComp (cKeysV i) tm t me (own.map (·.2)) ρ).nox) _ from h)
  have e0 : cComp (cKeysV i) tm t me (own.map (·.2)) ρ = .ok z := e
  unfold cComp at e
  obtain ⟨⟨⟨ds, ws⟩, ρ1⟩, e1, e⟩ := R.ok_of e
  unfold cKeysV at e1
  obtain ⟨d, e2, e1⟩ := R.ok_of e1
  have e2 := R.nox_of e2
  obtain ⟨ps, e3, e1⟩ := R.ok_of e1
  have e3 := R.nox_of e3
  obtain ⟨v, g1, g2⟩ := S.val i d (look_some e2) hi
  have go : ∀ (Q' : VK) (H' : Hp), tM X.K P0 O W E (cComp (cKeysV i) tm t me (own.map (·.2))) σ H' Q' → _ := fun Q' H' q => comp_core hv ho σ H' Q' q
  cases d with
  | dik ks ds =>
    unfold Rep at g2
    obtain ⟨a, us, rfl, n, hl, rd, rs⟩ := g2
    rcases rd with rd | ⟨od, rd⟩
    · right
      refine ⟨a, _, rd, trivial, fun od => ?_⟩
      exact keys_readK hi (go _ _ (tM_lock (u := HO.dK (ks.zip us)) S e0 h trivial rd n od)) g1 upd_same
    · left
      exact keys_readK hi (go Q H ⟨ρ, S, by rw [e0]; exact h⟩) g1 rd
  | dit ks ds =>
    unfold Rep at g2
    obtain ⟨a, us, rfl, n, hl, rd, rs⟩ := g2
    rcases rd with rd | ⟨od, rd⟩
    · right
      refine ⟨a, _, rd, trivial, fun od => ?_⟩
      exact keys_readT hi (go _ _ (tM_lock (u := HO.dT (ks.zip us)) S e0 h trivial rd n od)) g1 upd_same
    · left
      exact keys_readT hi (go Q H ⟨ρ, S, by rw [e0]; exact h⟩) g1 rd
  | _ => cases e3
end
variable {ρ : Y.Env}
@[simp] theorem e_keysV {i : Nat} : cKeysV i ρ = ((look i ρ).nox >>= fun d => (dicKeys d).nox >>= fun ds => if szOk ds.length = true then R.ok ((ds, []), ρ) else .stk) := id rfl
@[simp] theorem e_cNox {m : EM} : cNox m ρ = (m ρ).nox := id rfl
@[simp] theorem d_keysT {ks : List (List Key)} {ds : List D} : dicKeys (.dit ks ds) = .ok (ks.map fun k => .tup (k.map keyD)) := id rfl
@[simp] theorem d_keysK {ks : List Key} {ds : List D} : dicKeys (.dik ks ds) = .ok (ks.map keyD) := id rfl
end Y

set_option Elab.async false
set_option linter.all false
set_option maxRecDepth 100000
namespace Y.HR
open PySem PySem.Spec PyProof.Rows L2 _root_.HT PySem.W PySem.SeqAt PySem.AutoSeq1 PySem.MeetsSeq PySem.MeetsSeq2 PySem.MeetsSeq3
section
variable {prog : Program} {w : World} {A : Around} {E : Value → Shared → Prop} {s : Shared}
end
end Y.HR
namespace Y
open PySem PySem.Spec PyProof.Rows L2
section
variable {X : Cx} {e k : Expr} {te : TE} {p2 pos : Pos}
end
section
variable {X : Cx} {P0 : Pr} {O W : List Nat} {E : EK} {e k : Expr} {ma : EM} {mk : OM} {p2 pos : Pos}
end
variable {ρ : Y.Env}
end Y

set_option Elab.async false
set_option linter.all false
set_option maxRecDepth 100000
namespace Y
open PySem PySem.Spec PyProof.Rows L2
section
variable {X : Cx} {P0 : Pr} {O W : List Nat} {pos : Pos}
end
end Y

set_option Elab.async false
set_option linter.all false
set_option maxRecDepth 100000
namespace Y
open PySem PySem.Spec PyProof.Rows L2
section
variable {X : Cx} {P0 : Pr} {O W : List Nat} {E : EK} {a : Expr} {ma : EM} {pos : Pos}
end
variable {ρ : Y.Env}
end Y

set_option Elab.async false
set_option linter.all false
set_option maxRecDepth 100000
namespace Y
open PySem PySem.Spec PyProof.Rows L2
section
variable {X : Cx}
end
end Y

set_option Elab.async false
set_option linter.all false
set_option maxRecDepth 100000
namespace Y
open PySem PySem.Spec PyProof.Rows L2
section
variable {K : PySem.W.Frag} {P0 : Pr} {O W U : List Nat} {ρ : Y.Env} {σ : L2.St} {H : Hp} {i : Nat}
theorem Sim.shut (S : Sim K P0 (i :: O) W ρ σ H) {a : Addr} {ds : List D} {vs : List V} (hW : ∀ j ∈ W, j ∈ O) (hi : i ∉ O) (hρ : ρ[i]? = some (some (.lst ds))) (ha : σ[i]? = some (some (.ref a))) (hH : H a = some (.lst vs)) (hr : Reps K H ds (FA P0 (i :: O) σ) vs) :
    Sim K P0 O W ρ σ H := by
  have fa : ∀ b, FA P0 O σ b → FA P0 (i :: O) σ b := fun b z => by
    rcases z with z | ⟨j, hj, e⟩
    · exact .inl z
    · exact .inr ⟨j, List.mem_cons_of_mem _ hj, e⟩
  have oa : OA (i :: O) σ a := ⟨i, by simp, ha⟩
  have na : ¬ FA P0 O σ a := fun z => by
    rcases z with z | ⟨j, hj, e⟩
    · exact S.sep0 a oa z
    · exact hi (by rw [← S.sep j i a (List.mem_cons_of_mem _ hj) (by simp) e ha]; exact hj)
  refine ⟨hW, S.len, fun b z => S.dom b (fa b z), fun j d e n => ?_, fun j d e n => ?_, fun j k b hj hk e1 e2 => ?_, fun b z => ?_⟩
  · by_cases hij : i = j
    · subst hij
      rw [hρ] at e
      cases e
      refine ⟨_, ha, ?_⟩
      unfold Rep
      exact ⟨a, vs, rfl, na, hH, hr.less S.dom fun b z => z.elim (fa b) fun z => .inr (by rw [z]; exact oa)⟩
    · obtain ⟨v, h1, h2⟩ := S.val j d e fun z => (List.mem_cons.mp z).elim (fun q => hij q.symm) n
      exact ⟨v, h1, h2.less S.dom fa⟩
  · obtain ⟨v, h1, h2⟩ := S.own j d e (List.mem_cons_of_mem _ n)
    exact ⟨v, h1, h2.less2 S.dom fa⟩
  · exact S.sep j k b (List.mem_cons_of_mem _ hj) (List.mem_cons_of_mem _ hk) e1 e2
  · obtain ⟨j, hj, e⟩ := z
    exact S.sep0 b ⟨j, List.mem_cons_of_mem _ hj, e⟩
end
section
variable {X : Cx} {P0 : Pr} {O W U : List Nat} {E : EK} {st2 : Stmt} {sts : List Stmt} {m mr : SM}
end
end Y

set_option Elab.async false
set_option linter.all false
set_option maxRecDepth 100000
namespace Y
open PySem PySem.Spec PyProof.Rows L2
section
variable {X : Cx} {P0 : Pr} {O W : List Nat} {E : EK} {e f : Expr} {mk mv : EM}
end
variable {ρ : Y.Env}
end Y

set_option Elab.async false
set_option linter.all false
set_option maxRecDepth 100000
namespace Y
open PySem PySem.Spec PyProof.Rows L2
section
variable {prog : Program} {w : World} {d r : Addr} {es : Array DictEntry} {ep : Nat}
end
section
variable {X : Cx} {o : Expr} {td : TE} {p pos apos mpos : Pos}
end
section
variable {X : Cx} {P0 : Pr} {O W : List Nat} {E : EK}
end
variable {ρ : Y.Env}
end Y

set_option Elab.async false
set_option linter.all false
set_option maxRecDepth 100000
namespace Y
open PySem PySem.Spec PyProof.Rows L2
end Y

set_option Elab.async false
set_option linter.all false
set_option maxRecDepth 100000
namespace Y
open PySem PySem.Spec PyProof.Rows L2
section
variable {K : PySem.W.Frag} {P0 : Pr} {O W U : List Nat} {ρ : Y.Env} {σ : L2.St} {H : Hp} {i : Nat}
end
section
variable {X : Cx} {P0 : Pr} {O W U : List Nat} {E : EK} {st2 : Stmt} {sts : List Stmt} {m mr : SM}
end
section
variable {X : Cx} {P0 : Pr} {O W : List Nat} {E : EK} {pos : Pos}
end
end Y

set_option Elab.async false
set_option linter.all false
set_option maxRecDepth 100000
namespace Y
open PySem PySem.Spec PyProof.Rows L2
section
variable {X : Cx} {P0 : Pr} {O W : List Nat} {E : EK} {a e f : Expr} {ma mb mc : EM}
end
section
variable {K : PySem.W.Frag} {X : Cx} {P0 : Pr} {O W U : List Nat} {E : EK} {e f : Expr} {mi mx : EM} {pos : Pos}
end
variable {ρ : Y.Env}
end Y

set_option Elab.async false
set_option linter.all false
set_option maxRecDepth 100000
namespace Y
open PySem PySem.Spec PyProof.Rows L2
theorem PGs.imp {X : Cx} {e : List Expr} {t t' : TGs} (h : PGs X e t) (i : ∀ v σ H Q, t' v σ H Q → t v σ H Q) : PGs X e t' := by
  cases h with
  | mk h => exact ⟨fun pins s σ H v u Q I r q => h pins s σ H v u Q I r (i v σ H Q q)⟩
section
variable {X : Cx} {P0 : Pr} {O W : List Nat} {pos : Pos}
end
section
variable {κ : Type} [DecidableEq κ]
end
end Y

set_option Elab.async false
set_option linter.all false
set_option maxRecDepth 100000
namespace Y
open PySem PySem.Spec PyProof.Rows L2 RT
section
variable {prog : Program} {w : World} {A : Around} {E : Value → Shared → Prop} {s : Shared}
end
section
variable {X : Cx}
end
section
variable {X : Cx} {P0 : Pr} {O W : List Nat} {E : EK} {e : Expr} {me : EM} {pos : Pos}
end
variable {ρ : Y.Env}
end Y

set_option Elab.async false
set_option linter.all false
set_option maxRecDepth 100000
namespace Y
open PySem PySem.Spec PyProof.Rows L2
end Y

set_option Elab.async false
set_option linter.all false
set_option maxRecDepth 100000
namespace Y
open PySem PySem.Spec PyProof.Rows L2
abbrev PrT := Addr × List Int
/-- what a set holds of the first i things -/
structure Has (ks : List PrT) (i : Nat) (L : List PrT) : Prop where
  low : ∀ q ∈ L, q ∈ ks.take i
  top : ∀ q ∈ ks.take i, q.2 ∈ L.map (·.2)
theorem Has.none (ks : List PrT) : Has ks 0 [] := ⟨fun q z => (nomatch z), fun q z => by simp at z⟩
theorem take_more {α : Type} {l : List α} {i : Nat} {x : α} (h : l[i]? = some x) : l.take (i + 1) = l.take i ++ [x] := by rw [List.take_add_one, h]; rfl
theorem Has.stay {ks L : List PrT} {i : Nat} {x : PrT} (g : Has ks i L) (h : ks[i]? = some x) (m : x.2 ∈ L.map (·.2)) : Has ks (i + 1) L := by
  refine ⟨fun q z => ?_, fun q z => ?_⟩
  · rw [take_more h]; exact List.mem_append_left _ (g.low q z)
  · rw [take_more h] at z
    rcases List.mem_append.mp z with z | z
    · exact g.top q z
    · rw [List.mem_singleton] at z; rw [z]; exact m
theorem Has.grow {ks L M : List PrT} {i : Nat} {x : PrT} (g : Has ks i L) (h : ks[i]? = some x) (pm : M.Perm (x :: L)) : Has ks (i + 1) M := by
  refine ⟨fun q z => ?_, fun q z => ?_⟩
  · rw [take_more h]
    rcases List.mem_cons.mp (pm.mem_iff.mp z) with rfl | z
    · exact List.mem_append_right _ (by simp)
    · exact List.mem_append_left _ (g.low q z)
  · refine (pm.map (·.2)).mem_iff.mpr ?_
    rw [take_more h] at z
    rcases List.mem_append.mp z with z | z
    · exact List.mem_cons_of_mem _ (g.top q z)
    · rw [List.mem_singleton] at z; rw [z]; exact List.mem_cons_self
section
variable {P : Program} {w : World} {A : Around} {E : Value → Shared → Prop} {s : Shared}
end
section
variable {K : PySem.W.Frag} {X : Cx} {P0 : Pr} {O W : List Nat} {E : EK} {a e : Expr} {ma : EM} {pos : Pos}
end
end Y

set_option Elab.async false
set_option linter.all false
set_option maxRecDepth 100000
namespace Y
open PySem PySem.Spec PyProof.Rows L2
end Y

set_option Elab.async false
set_option linter.all false
set_option maxRecDepth 100000
namespace Y
open PySem PySem.Spec PyProof.Rows L2
section
variable {X : Cx}
end
end Y

set_option Elab.async false
set_option linter.all false
set_option maxRecDepth 100000
namespace Y
open PySem PySem.Spec PyProof.Rows L2
section
variable {X : Cx}
end
end Y

set_option Elab.async false
set_option linter.all false
set_option maxRecDepth 100000
namespace Y
open PySem PySem.Spec PyProof.Rows L2
section
variable {X : Cx} {e k : Expr} {te : TE} {p2 pos : Pos}
end
section
variable {X : Cx} {P0 : Pr} {O W : List Nat} {E : EK} {e k : Expr} {ma : EM} {mk : OM} {p2 pos : Pos}
end
variable {ρ : Y.Env}
end Y

set_option Elab.async false
set_option linter.all false
set_option maxRecDepth 100000
namespace Y
open PySem PySem.Spec PyProof.Rows L2
variable {K : PySem.W.Frag} {P0 : Pr} {O W U : List Nat} {E : EK} {ms : AM}
section
variable {X : Cx}
end
variable {ρ : Y.Env}
end Y

set_option Elab.async false
set_option linter.all false
set_option maxRecDepth 100000
namespace Y
open PySem PySem.Spec PyProof.Rows L2
def sGrowR (i : Nat) (m mr : SM) : SM := fun ρ =>
  if i < ρ.length then do
    let (f, ρ2) ← m (ρ.set i (some (.lst [])))
    match f with
    | .nx => do
      let _ ← (lstAt i ρ2).nox
      mr ρ2
    | .rt (.fr d) => do
      let _ ← (lstAt i ρ2).nox
      R.ok (Fl.rt (.fr d), ρ2)
    | _ => .stk
  else .stk
section
variable {X : Cx} {P0 : Pr} {O W U : List Nat} {E : EK} {st2 : Stmt} {sts : List Stmt} {m mr : SM}
theorem cs_growR {i : Nat} {x : Str} {p1 p2 p3 : Pos} (hN : X.N.Nodup) (h2 : CS X P0 (i :: O) W U E st2 m) (h3 : CSs X P0 O W U E sts mr) (hW : ∀ j ∈ W, j ∈ O := by decide) (hi : i ∉ O := by decide) (hu : i ∉ U := by decide)
    (hx : X.N[i]? = some x := by rfl) (hl : Loc X.env.scope x := by first | exact Or.inl rfl | exact Or.inr rfl)
    (hf : X.fn x = true ∨ X.env.scope.names.lookup x = some .local := by first | exact .inl rfl | exact .inr rfl)
    (hs : swapsWithSole [.Name x p1] (.List [] p2) p3.line X.env = pure false := by rfl) (hw : swappedStores [.Name x p1] (.List [] p2) X.env = pure none := by rfl) :
    CSs X P0 O W U E (.Assign [.Name x p1] (.List [] p2) p3 :: st2 :: sts) (sGrowR i m mr) :=
  PSs.imp (pss_cons (ps_asg (pe_lst pa_nil) (pg_name hN hx hl hf) hs hw) (pss_cons h2 h3)) fun D σ H ⟨ρ, S, h⟩ => by
    have h : Res E O σ H (if i < ρ.length then (m (ρ.set i (some (.lst []))) >>= fun q => match q.1 with | .nx => ((lstAt i q.2).nox >>= fun _ => mr q.2) | .rt (.fr d) => ((lstAt i q.2).nox >>= fun _ => R.ok (Fl.rt (.fr d), q.2)) | _ => .stk) else .stk) _ := h
    by_cases hlen : i < ρ.length
    · rw [if_pos hlen] at h
      refine ⟨Nat.zero_le _, fun p hp => ?_⟩
      have S1 := S.openL hi hlen hp
      have hs1 : i < σ.length := Nat.lt_of_lt_of_le hlen S.len
      have g1 : ∀ {j : Nat}, j ∈ O → (σ.set i (some (V.ref p)))[j]? = σ[j]? := fun {j} hj => List.getElem?_set_ne fun q => hi (by rw [q]; exact hj)
      have o1 : ∀ {b : Addr}, OA (i :: O) (σ.set i (some (V.ref p))) b → OA O σ b ∨ b = p := fun {b} ⟨j, hj, e⟩ => by
        by_cases hij : i = j
        · subst hij
          rw [List.getElem?_set_self hs1] at e
          cases e
          exact .inr rfl
        · rw [List.getElem?_set_ne hij] at e
          exact .inl ⟨j, (List.mem_cons.mp hj).resolve_left fun q => hij q.symm, e⟩
      have np : ∀ {b : Addr} {o : HO}, H b = some o → b ≠ p := fun e q => by rw [q, hp] at e; cases e
      refine ⟨ρ.set i (some (.lst [])), S1, ?_⟩
      have h0 := h.of_bind
      have h1 := h0.chg (O1 := i :: O) (σ1 := σ.set i (some (V.ref p))) (H1 := upd H p (.lst [])) fun H' k => ⟨fun b o e n => k.keep b o (by rw [upd_ne (np e)]; exact e) fun q => (o1 q).elim n fun q => np e q, fun b e => k.some b (by
        by_cases hb : b = p
        · rw [hb, upd_same]; intro q; cases q
        · rw [upd_ne hb]; exact e)⟩
      refine h1.mono fun ⟨f, ρ2⟩ q σ2 H2 S2 t2 l2 => ?_
      cases f with
      | bk => exact q.elim
      | ct => exact q.elim
      | rt hd =>
        cases hd with
        | vl d => exact q.elim
        | ow j => exact q.elim
        | fr d =>
          obtain ⟨ds, e1, q⟩ := Res.of_nox (show Res E O σ H ((lstAt i ρ2).nox >>= fun _ => R.ok (Fl.rt (.fr d), ρ2)) _ from q)
          obtain ⟨a, vs, ha, hH, hr⟩ := S2.lst (i := i) (by simp) (lstAt_ok e1)
          have S3 := S2.shut hW hi (lstAt_ok e1) ha hH hr
          have t3 : Tr O U σ H σ2 H2 := by
            refine ⟨fun b o e n => ?_, fun b e => ?_, fun b ⟨j, hj, e⟩ => ?_, fun j hj => ?_⟩
            · exact t2.keep b o (by rw [upd_ne (np e)]; exact e) fun q => (o1 q).elim n fun q => np e q
            · refine t2.some b ?_
              by_cases hb : b = p
              · rw [hb, upd_same]; intro q; cases q
              · rw [upd_ne hb]; exact e
            · rcases t2.own b ⟨j, List.mem_cons_of_mem _ hj, e⟩ with z | z
              · rcases o1 z with z | z
                · exact .inl z
                · exact .inr (by rw [z]; exact hp)
              · refine .inr ?_
                by_cases hb : b = p
                · rw [hb]; exact hp
                · rw [upd_ne hb] at z; exact z
            · rw [t2.unch j hj, List.getElem?_set_ne fun q => hu (by rw [q]; exact hj)]
          have l3 : σ2.length = σ.length := by rw [l2, List.length_set]
          have q3 := q σ2 H2 S3 t3 l3
          refine fun v r => q3 v ?_
          obtain ⟨r1, r2⟩ := r
          refine ⟨r1.less S2.dom (fun b z => ?_), fun mu a ea => ?_⟩
          · rcases z with z | ⟨j, hj, e⟩
            · exact .inl z
            · exact .inr ⟨j, List.mem_cons_of_mem _ hj, e⟩
          · have := r2 mu a ea
            by_cases hb : a = p
            · rw [hb, upd_same] at this; cases this
            · rw [upd_ne hb] at this; exact this
      | nx =>
        obtain ⟨ds, e1, q⟩ := Res.of_nox (show Res E O σ H ((lstAt i ρ2).nox >>= fun _ => mr ρ2) _ from q)
        obtain ⟨a, vs, ha, hH, hr⟩ := S2.lst (i := i) (by simp) (lstAt_ok e1)
        have S3 := S2.shut hW hi (lstAt_ok e1) ha hH hr
        have t3 : Tr O U σ H σ2 H2 := by
          refine ⟨fun b o e n => ?_, fun b e => ?_, fun b ⟨j, hj, e⟩ => ?_, fun j hj => ?_⟩
          · exact t2.keep b o (by rw [upd_ne (np e)]; exact e) fun q => (o1 q).elim n fun q => np e q
          · refine t2.some b ?_
            by_cases hb : b = p
            · rw [hb, upd_same]; intro q; cases q
            · rw [upd_ne hb]; exact e
          · rcases t2.own b ⟨j, List.mem_cons_of_mem _ hj, e⟩ with z | z
            · rcases o1 z with z | z
              · exact .inl z
              · exact .inr (by rw [z]; exact hp)
            · refine .inr ?_
              by_cases hb : b = p
              · rw [hb]; exact hp
              · rw [upd_ne hb] at z; exact z
          · rw [t2.unch j hj, List.getElem?_set_ne fun q => hu (by rw [q]; exact hj)]
        have l3 : σ2.length = σ.length := by rw [l2, List.length_set]
        refine ⟨ρ2, S3, (Res.keepT q t3).mono fun ⟨f2, ρ3⟩ q2 σ3 H3 S4 t4 l4 => ?_⟩
        have q3 := q2 σ3 H3 S4 (t3.trans t4) (l4.trans l3)
        cases f2 with
        | nx => exact q3
        | bk => exact q3
        | ct => exact q3
        | rt hd => exact fun v r => q3 v (r.back t3.some)
    · rw [if_neg hlen] at h
      exact h.elim
end
@[simp] theorem e_growR {i : Nat} {m mr : SM} {ρ : Y.Env} : sGrowR i m mr ρ = if i < ρ.length then (m (ρ.set i (some (.lst []))) >>= fun q => match q.1 with | .nx => ((lstAt i q.2).nox >>= fun _ => mr q.2) | .rt (.fr d) => ((lstAt i q.2).nox >>= fun _ => R.ok (Fl.rt (.fr d), q.2)) | _ => .stk) else .stk := id rfl
end Y

set_option Elab.async false
set_option linter.all false
set_option maxRecDepth 100000
namespace Y
open PySem PySem.Spec PyProof.Rows L2
def trP (o : Str) : Y.D → Bool
  | .tup [.str s, .lst xs] => decide (s = o) && (dOk (.str s) && decide (xs.length + 4 < sizeLine))
  | .tup [.str s, .tup xs] => !decide (s = o) && dOk (.str s)
  | _ => false
def rP (o : Str) (K : PySem.W.Frag) (A : Pr) (v : V) (H : Hp) : Prop := ∃ a s w, v = .ref a ∧ H a = some (.tup [.str s, w]) ∧ dOk (.str s) = true ∧ (s = o → ∃ b xs, w = .ref b ∧ A b ∧ H b = some (.lst xs) ∧ xs.length + 4 < sizeLine)
theorem rdyP {o : Str} : Rdy (trP o) (rP o) := ⟨fun K H d v P hm ht r => by
  unfold trP at ht
  split at ht
  · rename_i s xs
    rw [Bool.and_eq_true, Bool.and_eq_true, decide_eq_true_eq, decide_eq_true_eq] at ht
    unfold Rep at r
    obtain ⟨a, vs, rfl, h1, h2⟩ := r
    obtain ⟨v0, w0, rfl, r0, h2⟩ := h2.cons_iff
    obtain ⟨v1, w1, rfl, r1, h2⟩ := h2.cons_iff
    obtain rfl := h2.nil_iff
    unfold Rep at r0 r1
    subst r0
    obtain ⟨b1, u1, rfl, n1, g1, l1⟩ := r1
    exact ⟨a, s, _, rfl, h1, ht.2.1, fun _ => ⟨b1, u1, rfl, ⟨n1, by rw [g1]; trivial⟩, g1, by rw [l1.length]; exact ht.2.2⟩⟩
  · rename_i s xs
    rw [Bool.and_eq_true, Bool.not_eq_true', decide_eq_false_iff_not] at ht
    unfold Rep at r
    obtain ⟨a, vs, rfl, h1, h2⟩ := r
    obtain ⟨v0, w0, rfl, r0, h2⟩ := h2.cons_iff
    obtain ⟨v1, w1, rfl, r1, h2⟩ := h2.cons_iff
    obtain rfl := h2.nil_iff
    unfold Rep at r0
    subst r0
    exact ⟨a, s, _, rfl, h1, ht.2, fun z => absurd z ht.1⟩
  · cases ht⟩
section
variable {X : Cx} {i : Nat} {x : Str}
theorem ts_clearIf {o : Str} {p1 p4 p5 p6 pos pos4 : Pos} {ck : Nat} {cj} {st1 : Stmt} {rest : List Stmt} {u : TS} (hu : X.A.units + 64 < cLine) (ho : dOk (.str o) = true) (hx : X.N[i]? = some x) (hvx : Vis X.env.scope x) (hd : (x == ("__debug__" : Str)) = false) (hcd : (x == ("__classdict__" : Str)) = false)
    (h1 : PS X st1 (tMut i 1 [])) (hrest : PSs X rest u) (hm : behindInMarks .Eq (.Constant (.str o) cj p6) = false := by rfl) :
    PSs X (.If (.Compare (.Subscript (.Name x p1) (.Constant (.int 0) ck p5) p4) [.Eq] [.Constant (.str o) cj p6] pos) [st1] [] pos4 :: rest) (tRestK i (rP o X.K) [] [] u) := by
  refine PSs.imp (pss_cons (ps_if (pt_cmpR (od_eq hu) (pe_ix ix_seq (pe_var (i := i) hx hvx hd hcd) pe_int fun _ _ => rfl) pe_str hm) (pss_one h1) pss_nil) hrest) fun D σ H ⟨A, v, hA, hv, ⟨a, s, w, ev, ha, hs, hw⟩, _, _, done⟩ => ?_
  subst ev
  have e0 : eqD (.str s) (.str o) = .ok (.bl (eqP (.str s) (.str o))) := by
    unfold eqD
    rw [hs, ho]
    rfl
  have mu : ∀ {H' : Hp}, Same H H' → ∀ b, A b → isMut (H' b) := fun {H'} sm b z => by
    have := hA b z
    cases e : H b with
    | none => rw [e] at this; exact this.elim
    | some o => rw [sm b o e, ← e]; exact this
  refine ⟨.ref a, hv, .inr (.inl ⟨a, _, 0, .str s, rfl, rfl, SqT.of ha, atI_of (j := 0) rfl rfl, fun _ => False, .str s, .str o, .bl (eqP (.str s) (.str o)), fun _ z => z.elim, (by unfold RepW Rep; rfl), (by unfold RepW Rep; rfl), e0, fun v H' sm r _ => ⟨eqP (.str s) (.str o), by unfold Rep at r; exact r, ?_⟩⟩)⟩
  show (if eqP (.str s) (.str o) = true then (_ : Prop) else _)
  by_cases c : eqP (.str s) (.str o) = true
  · rw [if_pos c]
    have so : s = o := by
      have e : eqP (.str s) (.str o) = (s == o) := by simp
      rw [e] at c
      exact eq_of_beq c
    obtain ⟨b, xs, rfl, Ab, hb, hl⟩ := hw so
    refine ⟨a, _, b, xs, hv, sm a _ ha, rfl, sm b _ hb, by omega, fun q hq => (by cases hq), fun zs hz => done _ _ ⟨fun b' o' e n => ?_, fun b' hb' => ?_, fun _ _ => rfl, rfl⟩⟩
    · rw [upd_ne fun z => n (by rw [z]; exact Ab)]
      exact sm b' o' e
    · by_cases q : b' = b
      · rw [q, upd_same]; trivial
      · rw [upd_ne q]; exact mu sm b' hb'
  · rw [if_neg c]
    exact done _ _ ⟨fun b' o' e _ => sm b' o' e, mu sm, fun _ _ => rfl, rfl⟩
end
end Y

set_option Elab.async false
set_option linter.all false
set_option maxRecDepth 100000
namespace C
open PySem PySem.Spec PyProof.Rows L2 Y
/-- slots: 0:many 1:found 2:k 3:stand -/
noncomputable def e_stands_of_1 : EM := cOp addD (cTup (cCons (cC (.int 0)) (cNil))) (cVar 3)
noncomputable def e_stands_of_2 : EM := cOp addD (cTup (cCons (cC (.int 1)) (cNil))) (cVar 3)
noncomputable def b_stands_of_1 : SM := sAsg (cOp addD (cComp (cIter (cVar 1)) (tmName 3) (cYes) (e_stands_of_1) [3]) (cComp (cIter (cVar 1)) (tmName 3) (cYes) (e_stands_of_2) [3])) (tmName 1)
noncomputable def m_stands_of : SM := sSeq (sAsg (cLst (cCons (cTup (cNil)) (cNil))) (tmName 1)) (sSeq (sFor [] (cRange rng1D (cCons (cVar 0) (cNil))) (tmName 2) (b_stands_of_1) [2]) (sRet (cVar 1)))
noncomputable def g_stands_of : List D → R Hd := fnP 1 4 m_stands_of
/-- slots: 0:bits 1:place 2:bit -/
noncomputable def b_place_of_1 : SM := sAsg (cOp addD (cOp mulD (cC (.int 2)) (cVar 1)) (cVar 2)) (tmName 1)
noncomputable def m_place_of : SM := sSeq (sAsg (cC (.int 0)) (tmName 1)) (sSeq (sFor [] (cIter (cVar 0)) (tmName 2) (b_place_of_1) [2]) (sRet (cVar 1)))
noncomputable def g_place_of : List D → R Hd := fnP 1 3 m_place_of
/-- slots: 0:script 1:k -/
noncomputable def m__law_cell : SM := sSeq (sIf (cBl (cOp ltD (cVar 1) (cCall lenD (cCons (cVar 0) (cNil))))) (sRet (cIx (cVar 0) (cVar 1))) (sSkip)) (sRet (cOp addD (cOp mulD (cC (.int 6151)) (cVar 1)) (cC (.int 29))))
noncomputable def g__law_cell : List D → R Hd := fnP 2 2 m__law_cell
/-- slots: 0:rule 1:reading -/
noncomputable def m_told_at : SM := sRet (cIx (cIx (cVar 0) (cC (.int 1))) (cCallF g_place_of (cCons (cVar 1) (cNil))))
noncomputable def g_told_at : List D → R Hd := fnP 2 2 m_told_at
/-- slots: 0:script 1:k 2:cell 3:number 4:mixed 5:j -/
noncomputable def b__law_box_2_1 : SM := sSeq (sAsg (cOp modD (cOp addD (cOp addD (cOp addD (cOp mulD (cVar 4) (cC (.int 48271))) (cOp mulD (cOp mulD (cC (.int 7)) (cVar 5)) (cVar 5))) (cOp mulD (cC (.int 11)) (cVar 1))) (cC (.int 1))) (cC (.int 2147483647))) (tmName 4)) (sAsg (cOp addD (cOp mulD (cVar 3) (cC (.int 2147483647))) (cVar 4)) (tmName 3))
noncomputable def m__law_box_2 : SM := sSeq (sAsg (cCallF g__law_cell (cCons (cVar 0) (cCons (cVar 1) (cNil)))) (tmName 2)) (sSeq (sIf (cBl (cOp eqD (cOp modD (cVar 2) (cC (.int 2))) (cC (.int 0)))) (sRet (cLst (cCons (cOp fdivD (cVar 2) (cC (.int 2))) (cNil)))) (sSkip)) (sSeq (sAsg (cC (.int 0)) (tmName 3)) (sSeq (sAsg (cOp modD (cVar 2) (cC (.int 2147483647))) (tmName 4)) (sSeq (sFor [] (cRange rng1D (cCons (cC (.int 24)) (cNil))) (tmName 5) (b__law_box_2_1) [5]) (sRet (cLst (cCons (cVar 3) (cNil))))))))
noncomputable def g__law_box_2 : List D → R Hd := fnP 2 6 m__law_box_2
/-- slots: 0:box 1:many 2:digit -/
noncomputable def m__law_take_2 : SM := sSeq (sAsg (cOp modD (cIx (cOwn 0) (cC (.int 0))) (cVar 1)) (tmName 2)) (sSeq (sSetIx 0 (cC (.int 0)) (cOp fdivD (cIx (cOwn 0) (cC (.int 0))) (cVar 1))) (sRet (cVar 2)))
noncomputable def g__law_take_2 : Fn := fnD 2 3 [0] m__law_take_2
/-- slots: 0:many 1:found 2:k 3:row -/
noncomputable def e__law_readings_1 : EM := cOp addD (cVar 3) (cTup (cCons (cC (.int 0)) (cNil)))
noncomputable def e__law_readings_2 : EM := cOp addD (cVar 3) (cTup (cCons (cC (.int 1)) (cNil)))
noncomputable def b__law_readings_1 : SM := sAsg (cOp addD (cComp (cIter (cVar 1)) (tmName 3) (cYes) (e__law_readings_1) [3]) (cComp (cIter (cVar 1)) (tmName 3) (cYes) (e__law_readings_2) [3])) (tmName 1)
noncomputable def m__law_readings : SM := sSeq (sAsg (cLst (cCons (cTup (cNil)) (cNil))) (tmName 1)) (sSeq (sFor [] (cRange rng1D (cCons (cVar 0) (cNil))) (tmName 2) (b__law_readings_1) [2]) (sRet (cCall sortD (cCons (cVar 1) (cNil)))))
noncomputable def g__law_readings : List D → R Hd := fnP 1 4 m__law_readings
/-- slots: 0:box 1:many 2:left 3:ears 4:k 5:rows 6:way 7:signs 8:least 9:table 10:ear 11:row -/
noncomputable def b__law_rule_2_1 : SM := sAppend 3 (cPopAt 2 (cCallIO [(0, 0)] g__law_take_2 (cCons (cOwn 0) (cCons (cCall lenD (cCons (cOwn 2) (cNil))) (cNil)))))
noncomputable def e__law_rule_2_1 : EM := cCallIO [(0, 0)] g__law_take_2 (cCons (cOwn 0) (cCons (cC (.int 2)) (cNil)))
noncomputable def e__law_rule_2_2 : EM := cC (.int 1)
noncomputable def e__law_rule_2_3 : EM := cCallIO [(0, 0)] g__law_take_2 (cCons (cOwn 0) (cCons (cC (.int 2)) (cNil)))
noncomputable def t__law_rule_2_4 : BM := cBl (cOp eqD (cIx (cVar 11) (cVar 4)) (cIx (cVar 7) (cVar 4)))
noncomputable def e__law_rule_2_4 : EM := cVar 4
noncomputable def e__law_rule_2_5 : EM := cCall intOfD (cCons (cOp geD (cCall lenD (cCons (cComp (cRange rng1D (cCons (cCall lenD (cCons (cOwn 3) (cNil))) (cNil))) (tmName 4) (t__law_rule_2_4) (e__law_rule_2_4) [4]) (cNil))) (cVar 8)) (cNil))
noncomputable def m__law_rule_2 : SM := sSeq (sOwn [0, 2, 3] [0, 2] (cRg1 true (cVar 1)) 2) (sSeq (sOwn [0, 2, 3] [0, 2] (cLst (cNil)) 3) (sSeq (sFor [0] (cRange rng1D (cCons (cCall min2D (cCons (cCallIO [(0, 0)] g__law_take_2 (cCons (cOwn 0) (cCons (cC (.int 5)) (cNil)))) (cCons (cVar 1) (cNil)))) (cNil))) (tmName 4) (b__law_rule_2_1) []) (sSeq (sAsg (cCallF g__law_readings (cCons (cCall lenD (cCons (cOwn 3) (cNil))) (cNil))) (tmName 5)) (sSeq (sAsg (cCallIO [(0, 0)] g__law_take_2 (cCons (cOwn 0) (cCons (cC (.int 3)) (cNil)))) (tmName 6)) (sSeq (sIf (cBl (cOp eqD (cVar 6) (cC (.int 0)))) (sRet (cTup (cCons (cCall tupleD (cCons (cCall sortD (cCons (cOwn 3) (cNil))) (cNil))) (cCons (cCall tupleD (cCons (cComp (cIter (cVar 5)) (tmName 11) (cYes) (e__law_rule_2_1) [11]) (cNil))) (cNil))))) (sSkip)) (sSeq (sAsg (cComp (cIter (cOwn 3)) (tmName 10) (cYes) (e__law_rule_2_2) [10]) (tmName 7)) (sSeq (sIf (cBl (cOp eqD (cVar 6) (cC (.int 1)))) (sAsg (cComp (cIter (cOwn 3)) (tmName 10) (cYes) (e__law_rule_2_3) [10]) (tmName 7)) (sSkip)) (sSeq (sAsg (cCallIO [(0, 0)] g__law_take_2 (cCons (cOwn 0) (cCons (cOp addD (cCall lenD (cCons (cOwn 3) (cNil))) (cC (.int 2))) (cNil)))) (tmName 8)) (sSeq (sAsg (cComp (cIter (cVar 5)) (tmName 11) (cYes) (e__law_rule_2_5) [11]) (tmName 9)) (sRet (cTup (cCons (cCall tupleD (cCons (cCall sortD (cCons (cOwn 3) (cNil))) (cNil))) (cCons (cCall tupleD (cCons (cVar 9) (cNil))) (cNil))))))))))))))
noncomputable def g__law_rule_2 : Fn := fnD 2 12 [0] m__law_rule_2
/-- slots: 0:stand 1:k 2:bit -/
noncomputable def m_with_bit : SM := sRet (cOp addD (cOp addD (cSlice (cVar 0) (cNoPart) (cPart (cVar 1))) (cTup (cCons (cVar 2) (cNil)))) (cSlice (cVar 0) (cPart (cOp addD (cVar 1) (cC (.int 1)))) (cNoPart)))
noncomputable def g_with_bit : List D → R Hd := fnP 3 3 m_with_bit
/-- slots: 0:net 1:stand 2:k 3:ears 4:table 5:place 6:ear -/
noncomputable def b__law_told_1 : SM := sAsg (cOp addD (cOp mulD (cC (.int 2)) (cVar 5)) (cIx (cVar 1) (cVar 6))) (tmName 5)
noncomputable def m__law_told : SM := sSeq (sAsg (cIx (cVar 0) (cVar 2)) (tmTup [3, 4])) (sSeq (sAsg (cC (.int 0)) (tmName 5)) (sSeq (sFor [] (cIter (cVar 3)) (tmName 6) (b__law_told_1) [6]) (sRet (cIx (cVar 4) (cVar 5)))))
noncomputable def g__law_told : List D → R Hd := fnP 3 7 m__law_told
/-- slots: 0:thing -/
noncomputable def m__law_whole_2 : SM := sRet (cAnd (cIsi isInt (cVar 0)) (cNot (cIsi isBl (cVar 0))))
noncomputable def g__law_whole_2 : List D → R Hd := fnP 1 1 m__law_whole_2
/-- slots: 0:rule 1:at 2:found 3:reading 4:low 5:high -/
noncomputable def b_signs_at_1 : SM := sSeq (sAsg (cCallF g_told_at (cCons (cVar 0) (cCons (cCallF g_with_bit (cCons (cVar 3) (cCons (cVar 1) (cCons (cC (.int 0)) (cNil))))) (cNil)))) (tmName 4)) (sSeq (sAsg (cCallF g_told_at (cCons (cVar 0) (cCons (cCallF g_with_bit (cCons (cVar 3) (cCons (cVar 1) (cCons (cC (.int 1)) (cNil))))) (cNil)))) (tmName 5)) (sIf (cAndT (cBl (cOp neD (cVar 4) (cVar 5))) (cBl (cOp ninD (cOp subD (cVar 5) (cVar 4)) (cOwn 2)))) (sAppend 2 (cOp subD (cVar 5) (cVar 4))) (sSkip)))
noncomputable def m_signs_at : SM := sSeq (sOwn [2] [] (cLst (cNil)) 2) (sSeq (sFor [] (cIter (cCallF g_stands_of (cCons (cCall lenD (cCons (cIx (cVar 0) (cC (.int 0))) (cNil))) (cNil)))) (tmName 3) (b_signs_at_1) [3, 4, 5]) (sRet (cOwn 2)))
noncomputable def g_signs_at : List D → R Hd := fnP 2 6 m_signs_at
/-- slots: 0:net 1:found 2:switch 3:rule 4:at 5:ear 6:sign -/
noncomputable def e_wires_of_1 : EM := cTup (cCons (cVar 5) (cCons (cVar 2) (cCons (cVar 6) (cNil))))
noncomputable def b_wires_of_1 : SM := sExt 1 (cComp (cIter (cCallF g_signs_at (cCons (cVar 3) (cCons (cVar 4) (cNil))))) (tmName 6) (cYes) (e_wires_of_1) [6])
noncomputable def b_wires_of_2 : SM := sFor [] (cEnumG (cCons (cIx (cVar 3) (cC (.int 0))) (cNil))) (tmTup [4, 5]) (b_wires_of_1) [4, 5]
noncomputable def m_wires_of : SM := sSeq (sOwn [1] [] (cLst (cNil)) 1) (sSeq (sFor [] (cEnumG (cCons (cVar 0) (cNil))) (tmTup [2, 3]) (b_wires_of_2) [2, 3, 4, 5]) (sRet (cCall sortD (cCons (cOwn 1) (cNil)))))
noncomputable def g_wires_of : List D → R Hd := fnP 1 7 m_wires_of
/-- slots: 0:box 1:most 2:many 3:way 4:rules 5:k 6:ears 7:table 8:ear -/
noncomputable def e__law_drawn_1 : EM := cCallIO [(0, 0)] g__law_rule_2 (cCons (cOwn 0) (cCons (cVar 2) (cNil)))
noncomputable def e__law_drawn_2 : EM := cCallIO [(0, 0)] g__law_rule_2 (cCons (cOwn 0) (cCons (cVar 5) (cNil)))
noncomputable def e__law_drawn_3 : EM := cOp subD (cOp subD (cVar 2) (cC (.int 1))) (cVar 8)
noncomputable def e__law_drawn_4 : EM := cTup (cCons (cCall tupleD (cCons (cCall sortD (cCons (cComp (cIter (cVar 6)) (tmName 8) (cYes) (e__law_drawn_3) [8]) (cNil))) (cNil))) (cCons (cVar 7) (cNil)))
noncomputable def m__law_drawn : SM := sSeq (sAsg (cOp addD (cC (.int 1)) (cCallIO [(0, 0)] g__law_take_2 (cCons (cOwn 0) (cCons (cVar 1) (cNil))))) (tmName 2)) (sSeq (sAsg (cCallIO [(0, 0)] g__law_take_2 (cCons (cOwn 0) (cCons (cC (.int 4)) (cNil)))) (tmName 3)) (sSeq (sIf (cBl (cOp gtD (cVar 3) (cC (.int 1)))) (sRet (cCall tupleD (cCons (cComp (cRange rng1D (cCons (cVar 2) (cNil))) (tmName 5) (cYes) (e__law_drawn_1) [5]) (cNil)))) (sSkip)) (sSeq (sAsg (cComp (cRange rng1D (cCons (cVar 2) (cNil))) (tmName 5) (cYes) (e__law_drawn_2) [5]) (tmName 4)) (sSeq (sIf (cBl (cOp eqD (cVar 3) (cC (.int 1)))) (sAsg (cComp (cIter (cRev (cVar 4) (cPart (cNeg (cC (.int 1)))))) (tmTup [6, 7]) (cYes) (e__law_drawn_4) [6, 7]) (tmName 4)) (sSkip)) (sRet (cCall tupleD (cCons (cVar 4) (cNil))))))))
noncomputable def g__law_drawn : Fn := fnD 2 9 [0] m__law_drawn
/-- slots: 0:net 1:found 2:stand 3:j 4:other 5:k 6:change -/
noncomputable def b__law_wires_1 : SM := sSeq (sAsg (cOp subD (cCallF g__law_told (cCons (cVar 0) (cCons (cVar 4) (cCons (cVar 5) (cNil))))) (cCallF g__law_told (cCons (cVar 0) (cCons (cVar 2) (cCons (cVar 5) (cNil)))))) (tmName 6)) (sIf (cBl (cOp neD (cVar 6) (cC (.int 0)))) (sDPutS 1 (cTup (cCons (cVar 3) (cCons (cVar 5) (cCons (cVar 6) (cNil))))) (cC (.bl true))) (sSkip))
noncomputable def b__law_wires_2 : SM := sSeq (sAsg (cOp addD (cOp addD (cSlice (cVar 2) (cNoPart) (cPart (cVar 3))) (cTup (cCons (cC (.int 1)) (cNil)))) (cSlice (cVar 2) (cPart (cOp addD (cVar 3) (cC (.int 1)))) (cNoPart))) (tmName 4)) (sFor [] (cRange rng1D (cCons (cCall lenD (cCons (cVar 0) (cNil))) (cNil))) (tmName 5) (b__law_wires_1) [5, 6])
noncomputable def b__law_wires_3 : SM := sFor [] (cRange rng1D (cCons (cCall lenD (cCons (cVar 0) (cNil))) (cNil))) (tmName 3) (b__law_wires_2) [3, 4, 5, 6]
noncomputable def m__law_wires : SM := sSeq (sDicNew true 1) (sSeq (sFor [] (cIter (cCallF g__law_readings (cCons (cCall lenD (cCons (cVar 0) (cNil))) (cNil)))) (tmName 2) (b__law_wires_3) [2, 3, 4, 5, 6]) (sRet (cCall sortDD (cCons (cOwn 1) (cNil)))))
noncomputable def g__law_wires : List D → R Hd := fnP 1 7 m__law_wires
/-- slots: 0:net 1:found 2:one 3:other 4:sign -/
noncomputable def m_signs_between : SM := sSeq (sDicNew true 1) (sSeq (sGroup 1 (cIter (cCallF g_wires_of (cCons (cVar 0) (cNil)))) [2, 3, 4]) (sRet (cOwn 1)))
noncomputable def g_signs_between : List D → R Hd := fnP 1 5 m_signs_between
/-- slots: 0:things 1:many 2:found 3:thing 4:others 5:other 6:rest -/
noncomputable def t_in_rows_1 (G : List D → R Hd) : BM := cBl (cOp neD (cVar 5) (cVar 3))
noncomputable def e_in_rows_1 (G : List D → R Hd) : EM := cVar 5
noncomputable def e_in_rows_2 (G : List D → R Hd) : EM := cOp addD (cTup (cCons (cVar 3) (cNil))) (cVar 6)
noncomputable def b_in_rows_1 (G : List D → R Hd) : SM := sSeq (sAsg (cComp (cIter (cVar 0)) (tmName 5) (t_in_rows_1 G) (e_in_rows_1 G) [5]) (tmName 4)) (sExt 2 (cComp (cIter (cCallF G (cCons (cVar 4) (cCons (cOp subD (cVar 1) (cC (.int 1))) (cNil))))) (tmName 6) (cYes) (e_in_rows_2 G) [6]))
noncomputable def m_in_rows (G : List D → R Hd) : SM := sSeq (sIf (cBl (cOp eqD (cVar 1) (cC (.int 0)))) (sRet (cLst (cCons (cTup (cNil)) (cNil)))) (sSkip)) (sSeq (sOwn [2] [] (cLst (cNil)) 2) (sSeq (sFor [] (cIter (cVar 0)) (tmName 3) ((b_in_rows_1 G)) [3, 4]) (sRet (cOwn 2))))
noncomputable def r_in_rows : Nat → List D → R Hd
  | 0 => fnP 2 7 (fun _ => .stk)
  | n + 1 => fnP 2 7 (m_in_rows (r_in_rows n))
noncomputable def g_in_rows : List D → R Hd := r_in_rows 40
/-- slots: 0:ring -/
noncomputable def m_steps_round : SM := sRet (cListZip (cCons (cVar 0) (cCons (cOp addD (cSlice (cVar 0) (cPart (cC (.int 1))) (cNoPart)) (cSlice (cVar 0) (cNoPart) (cPart (cC (.int 1))))) (cNil))))
noncomputable def g_steps_round : List D → R Hd := fnP 1 1 m_steps_round
/-- slots: 0:pairs 1:ring 2:step -/
noncomputable def e_is_round_1 : EM := cDIn false (cVar 2) (cVar 0)
noncomputable def m_is_round : SM := sRet (cAnd (cOp eqD (cIx (cVar 1) (cC (.int 0))) (cCall minSD (cCons (cVar 1) (cNil)))) (cCall allD (cCons (cComp (cIter (cCallF g_steps_round (cCons (cVar 1) (cNil)))) (tmName 2) (cYes) (e_is_round_1) [2]) (cNil))))
noncomputable def g_is_round : List D → R Hd := fnP 2 3 m_is_round
/-- slots: 0:net 1:many 2:pairs 3:ring -/
noncomputable def t_rings_with_1 : BM := cTru (cCallF g_is_round (cCons (cVar 2) (cCons (cVar 3) (cNil))))
noncomputable def e_rings_with_1 : EM := cVar 3
noncomputable def m_rings_with : SM := sSeq (sAsg (cCallF g_signs_between (cCons (cVar 0) (cNil))) (tmName 2)) (sRet (cComp (cIter (cCallF g_in_rows (cCons (cRg1 true (cCall lenD (cCons (cVar 0) (cNil)))) (cCons (cVar 1) (cNil))))) (tmName 3) (t_rings_with_1) (e_rings_with_1) [3]))
noncomputable def g_rings_with : List D → R Hd := fnP 2 4 m_rings_with
/-- slots: 0:net 1:found 2:j 3:k 4:sign -/
noncomputable def m__law_pairs_2 : SM := sSeq (sDicNew true 1) (sSeq (sGroup 1 (cIter (cCallF g__law_wires (cCons (cVar 0) (cNil)))) [2, 3, 4]) (sRet (cOwn 1)))
noncomputable def g__law_pairs_2 : List D → R Hd := fnP 1 5 m__law_pairs_2
/-- slots: 0:pairs 1:many 2:longest 3:found 4:first 5:ways 6:way 7:k -/
noncomputable def t__law_rings_1 : BM := cAndT (cBl (cOp ninD (cVar 7) (cVar 6))) (cBl (cDIn false (cTup (cCons (cIx (cVar 6) (cNeg (cC (.int 1)))) (cCons (cVar 7) (cNil)))) (cVar 0)))
noncomputable def e__law_rings_1 : EM := cOp addD (cVar 6) (cTup (cCons (cVar 7) (cNil)))
noncomputable def b__law_rings_1 : SM := sSeq (sAsg (cPop 5) (tmName 6)) (sSeq (sIf (cBl (cDIn false (cTup (cCons (cIx (cVar 6) (cNeg (cC (.int 1)))) (cCons (cVar 4) (cNil)))) (cVar 0))) (sAppend 3 (cVar 6)) (sSkip)) (sIf (cBl (cOp ltD (cCall lenD (cCons (cVar 6) (cNil))) (cVar 2))) (sExt 5 (cComp (cRange rng2D (cCons (cOp addD (cVar 4) (cC (.int 1))) (cCons (cVar 1) (cNil)))) (tmName 7) (t__law_rings_1) (e__law_rings_1) [7])) (sSkip)))
noncomputable def b__law_rings_2 : SM := sSeq (sOwn [3, 5] [5] (cLst (cCons (cTup (cCons (cVar 4) (cNil))) (cNil))) 5) (sWhile (cBl (cOp neD (cOwn 5) (cLst (cNil)))) (b__law_rings_1) [6])
noncomputable def m__law_rings : SM := sSeq (sOwn [3, 5] [5] (cLst (cNil)) 3) (sSeq (sFor [] (cRange rng1D (cCons (cVar 1) (cNil))) (tmName 4) (b__law_rings_2) [4, 5, 6]) (sRet (cCall sortD (cCons (cOwn 3) (cNil)))))
noncomputable def g__law_rings : List D → R Hd := fnP 3 8 m__law_rings
/-- slots: 0:pairs 1:many 2:row 3:j 4:k 5:one -/
noncomputable def e__law_onward_1 : EM := cCallF g__law_whole_2 (cCons (cVar 5) (cNil))
noncomputable def t__law_onward_2 : BM := cBl (cOp geD (cIndex (cVar 2) (cVar 3)) (cIndex (cVar 2) (cVar 4)))
noncomputable def e__law_onward_2 : EM := cC (.int 1)
noncomputable def m__law_onward : SM := sSeq (sIf (cOrT (cNotT (cTru (cIsi isLst (cVar 2)))) (cOrT (cBl (cOp neD (cCall lenD (cCons (cVar 2) (cNil))) (cVar 1))) (cNotT (cTru (cCall allD (cCons (cComp (cIter (cVar 2)) (tmName 5) (cYes) (e__law_onward_1) [5]) (cNil))))))) (sRet (cC (.bl false))) (sSkip)) (sSeq (sIf (cBl (cOp neD (cCall sortD (cCons (cVar 2) (cNil))) (cRg1 true (cVar 1)))) (sRet (cC (.bl false))) (sSkip)) (sRet (cOp eqD (cNox (cComp (cKeysV 0) (tmTup [3, 4]) (t__law_onward_2) (e__law_onward_2) [3, 4])) (cLst (cNil)))))
noncomputable def g__law_onward : List D → R Hd := fnP 3 6 m__law_onward
/-- slots: 0:net 1:row 2:pairs 3:left 4:switch 5:other -/
noncomputable def t_next_free_1 : BM := cBl (cOp ninD (cVar 4) (cVar 1))
noncomputable def e_next_free_1 : EM := cVar 4
noncomputable def e_next_free_2 : EM := cDIn false (cTup (cCons (cVar 5) (cCons (cVar 4) (cNil)))) (cVar 2)
noncomputable def b_next_free_1 : SM := sIf (cNotT (cTru (cCall anyD (cCons (cComp (cIter (cVar 3)) (tmName 5) (cYes) (e_next_free_2) [5]) (cNil))))) (sRet (cVar 4)) (sSkip)
noncomputable def m_next_free : SM := sSeq (sAsg (cCallF g_signs_between (cCons (cVar 0) (cNil))) (tmName 2)) (sSeq (sAsg (cComp (cRange rng1D (cCons (cCall lenD (cCons (cVar 0) (cNil))) (cNil))) (tmName 4) (t_next_free_1) (e_next_free_1) [4]) (tmName 3)) (sSeq (sFor [] (cIter (cVar 3)) (tmName 4) (b_next_free_1) [4]) (sRet (cC .non))))
noncomputable def g_next_free : List D → R Hd := fnP 2 6 m_next_free
/-- slots: 0:net 1:row 2:switch 3:many -/
noncomputable def b_order_paper_1 : SM := sAug (fun i j => i + j) 3 (cC (.int 1))
noncomputable def b_order_paper_2 : SM := sSeq (sAsg (cCallR g_next_free (cCons (cVar 0) (cCons (cOwn 1) (cNil)))) (tmName 2)) (sSeq (sIf (cBl (cOp isD (cVar 2) (cC .non))) (sSeq (sAsg (cC (.int 1)) (tmName 3)) (sSeq (sWhile (cBl (cOp eqD (cCallF g_rings_with (cCons (cVar 0) (cCons (cVar 3) (cNil)))) (cLst (cNil)))) (b_order_paper_1) []) (sRet (cTup (cCons (cC (.str "ring")) (cCons (cIx (cCallF g_rings_with (cCons (cVar 0) (cCons (cVar 3) (cNil)))) (cC (.int 0))) (cNil))))))) (sSkip)) (sAppend 1 (cVar 2)))
noncomputable def m_order_paper : SM := sGrowR 1 (sWhile (cBl (cOp ltD (cCall lenD (cCons (cOwn 1) (cNil))) (cCall lenD (cCons (cVar 0) (cNil))))) (b_order_paper_2) [2, 3]) (sRet (cTup (cCons (cC (.str "order")) (cCons (cVar 1) (cNil)))))
noncomputable def g_order_paper : List D → R Hd := fnP 1 4 m_order_paper
/-- slots: 0:pairs 1:many 2:row 3:left 4:free 5:k 6:j -/
noncomputable def t__law_first_2_1 : BM := cBl (cDIn false (cTup (cCons (cVar 6) (cCons (cVar 5) (cNil)))) (cVar 0))
noncomputable def e__law_first_2_1 : EM := cVar 6
noncomputable def t__law_first_2_2 : BM := cBl (cOp eqD (cComp (cIter (cOwn 3)) (tmName 6) (t__law_first_2_1) (e__law_first_2_1) [6]) (cLst (cNil)))
noncomputable def e__law_first_2_2 : EM := cVar 5
noncomputable def b__law_first_2_1 : SM := sSeq (sAsg (cComp (cIter (cOwn 3)) (tmName 5) (t__law_first_2_2) (e__law_first_2_2) [5]) (tmName 4)) (sSeq (sIf (cBl (cOp eqD (cVar 4) (cLst (cNil)))) (sRet (cC .non)) (sSkip)) (sSeq (sAppend 2 (cIx (cVar 4) (cC (.int 0)))) (sRemove 3 (cIx (cVar 4) (cC (.int 0))))))
noncomputable def m__law_first_2 : SM := sSeq (sOwn [2, 3] [] (cLst (cNil)) 2) (sSeq (sOwn [2, 3] [] (cRg1 true (cVar 1)) 3) (sSeq (sWhile (cBl (cOp neD (cOwn 3) (cLst (cNil)))) (b__law_first_2_1) [4]) (sRet (cOwn 2))))
noncomputable def g__law_first_2 : List D → R Hd := fnP 2 7 m__law_first_2
/-- slots: 0:pairs 1:many 2:longest -/
noncomputable def b__law_short_1 : SM := sAsg (cOp addD (cVar 2) (cC (.int 1))) (tmName 2)
noncomputable def m__law_short : SM := sSeq (sAsg (cC (.int 1)) (tmName 2)) (sSeq (sWhile (cBl (cOp eqD (cCallF g__law_rings (cCons (cVar 0) (cCons (cVar 1) (cCons (cVar 2) (cNil))))) (cLst (cNil)))) (b__law_short_1) []) (sRet (cIx (cCallF g__law_rings (cCons (cVar 0) (cCons (cVar 1) (cCons (cVar 2) (cNil))))) (cC (.int 0)))))
noncomputable def g__law_short : List D → R Hd := fnP 2 3 m__law_short
/-- slots: 0:found 1:pairs 2:many 3:due 4:ring 5:one -/
noncomputable def e__law_good_3_1 : EM := cCallF g__law_whole_2 (cCons (cVar 5) (cNil))
noncomputable def m__law_good_3 : SM := sSeq (sIf (cOrT (cNotT (cTru (cIsi isTup (cVar 0)))) (cBl (cOp neD (cCall lenD (cCons (cVar 0) (cNil))) (cC (.int 2))))) (sRet (cC (.bl false))) (sSkip)) (sSeq (sAsg (cCallF g__law_first_2 (cCons (cVar 1) (cCons (cVar 2) (cNil)))) (tmName 3)) (sSeq (sIf (cBl (cOp isD (cVar 3) (cC .non))) (sSeq (sAsg (cCallF g__law_short (cCons (cVar 1) (cCons (cVar 2) (cNil)))) (tmName 4)) (sRet (cAnd (cIsi isTup (cIx (cVar 0) (cC (.int 1)))) (cAnd (cOp eqD (cVar 0) (cTup (cCons (cC (.str "ring")) (cCons (cVar 4) (cNil))))) (cCall allD (cCons (cComp (cIter (cIx (cVar 0) (cC (.int 1)))) (tmName 5) (cYes) (e__law_good_3_1) [5]) (cNil))))))) (sSkip)) (sRet (cAnd (cOp eqD (cVar 0) (cTup (cCons (cC (.str "order")) (cCons (cVar 3) (cNil))))) (cCallF g__law_onward (cCons (cVar 1) (cCons (cVar 2) (cCons (cIx (cVar 0) (cC (.int 1))) (cNil)))))))))
noncomputable def g__law_good_3 : List D → R Hd := fnP 3 6 m__law_good_3
/-- slots: 0:box 1:net 2:k -/
noncomputable def m__law_one_more : SM := sSeq (sAsg (cCallIO [(0, 0)] g__law_take_2 (cCons (cOwn 0) (cCons (cCall lenD (cCons (cVar 1) (cNil))) (cNil)))) (tmName 2)) (sSeq (sIf (cBl (cOp neD (cCallIO [(0, 0)] g__law_take_2 (cCons (cOwn 0) (cCons (cC (.int 3)) (cNil)))) (cC (.int 1)))) (sRet (cVar 1)) (sSkip)) (sRet (cOp addD (cOp addD (cSlice (cVar 1) (cNoPart) (cPart (cVar 2))) (cTup (cCons (cTup (cCons (cTup (cCons (cCallIO [(0, 0)] g__law_take_2 (cCons (cOwn 0) (cCons (cCall lenD (cCons (cVar 1) (cNil))) (cNil)))) (cNil))) (cCons (cTup (cCons (cC (.int 0)) (cCons (cC (.int 1)) (cNil)))) (cNil)))) (cNil)))) (cSlice (cVar 1) (cPart (cOp addD (cVar 2) (cC (.int 1)))) (cNoPart)))))
noncomputable def g__law_one_more : Fn := fnD 2 3 [0] m__law_one_more
/-- slots: 0:script 1:k 2:box 3:net 4:pairs 5:found -/
noncomputable def b_law_k24_1 : SM := sSeq (sOwn [2] [2] (cCallF g__law_box_2 (cCons (cVar 0) (cCons (cVar 1) (cNil)))) 2) (sSeq (sAsg (cCallIO [(0, 2)] g__law_one_more (cCons (cOwn 2) (cCons (cCallIO [(0, 2)] g__law_drawn (cCons (cOwn 2) (cCons (cIx (cLst (cCons (cC (.int 6)) (cCons (cC (.int 8)) (cNil)))) (cCall intOfD (cCons (cOp eqD (cCallIO [(0, 2)] g__law_take_2 (cCons (cOwn 2) (cCons (cC (.int 6)) (cNil)))) (cC (.int 1))) (cNil)))) (cNil)))) (cNil)))) (tmName 3)) (sSeq (sAsg (cCallF g__law_pairs_2 (cCons (cVar 3) (cNil))) (tmName 4)) (sScr [2] [2] g_order_paper (cCons (cVar 3) (cNil)) 5 (cNotT (cTru (cCallF g__law_good_3 (cCons (cVar 5) (cCons (cVar 4) (cCons (cCall lenD (cCons (cVar 3) (cNil))) (cNil))))))) (cC (.bl false)) (trP (Str.ofString "order")) [] [] (sIf (cNotT (cTru (cCallF g__law_good_3 (cCons (cCallF g_order_paper (cCons (cVar 3) (cNil))) (cCons (cVar 4) (cCons (cCall lenD (cCons (cVar 3) (cNil))) (cNil))))))) (sRet (cC (.bl false))) (sSkip)))))
noncomputable def m_law_k24 : SM := sSeq (sFor [] (cRange rng1D (cCons (cCall max2D (cCons (cC (.int 1)) (cCons (cCall min2D (cCons (cCall lenD (cCons (cVar 0) (cNil))) (cCons (cC (.int 3)) (cNil)))) (cNil)))) (cNil))) (tmName 1) (b_law_k24_1) [1, 2, 3, 4, 5]) (sRet (cC (.bl true)))
noncomputable def g_law_k24 : List D → R Hd := fnP 1 6 m_law_k24
end C

set_option Elab.async false
set_option linter.all false
set_option maxRecDepth 100000
namespace H
open PySem PySem.Spec PyProof.Rows L2 Y
abbrev ti (xs : List Int) : D := .tup (xs.map D.int)
abbrev dRule (r : List Int × List Int) : D := .tup [ti r.1, ti r.2]
abbrev dNet (ns : List (List Int × List Int)) : D := .tup (ns.map dRule)
def placeI (xs : List Int) : Int := xs.foldl (fun p b => 2 * p + b) 0
theorem place_of_tup {xs : List Int} (hx : xs.length ≤ 16777216) : C.g_place_of [ti xs] = .ok (.vl (.int (placeI xs))) := by
  have h := for_run (tm := tmName 2) (body := C.b_place_of_1) (vs := [2]) (ws := []) D.int (fun p : Int => [some (ti xs), some (.int p), none]) (fun p x => 2 * p + x) (fun _ => True) xs 0 trivial (fun p x _ hx => by
    simp [turnF, C.b_place_of_1, mulOk_l])
  simp [C.g_place_of, C.m_place_of, e_fnP, szOk_of hx, h.1, placeI]
end H

set_option Elab.async false
set_option linter.all false
set_option maxRecDepth 100000
namespace H
open PySem PySem.Spec PyProof.Rows L2 Y
theorem atI_nat' {α : Type} {xs : List α} {k : Nat} (h : k < xs.length) : atI xs (k : Int) = some xs[k] := atI_of (j := k) rfl (List.getElem?_eq_getElem h)
theorem atI_map {α β : Type} {f : α → β} {xs : List α} {i : Int} : atI (xs.map f) i = (atI xs i).map f := by
  unfold atI
  rw [List.length_map]
  cases ixN xs.length i with
  | none => rfl
  | some j => simp
theorem atI_int {xs : List Int} {i : Int} (h0 : 0 ≤ i) (h : i < xs.length) : atI xs i = some (xs.getD i.toNat 0) := by
  rw [atI_lt h0 h, List.getD_eq_getElem?_getD, List.getElem?_eq_getElem (by omega)]
  rfl
theorem atI_mapI {xs : List Int} {i : Int} (h0 : 0 ≤ i) (h : i < xs.length) : atI (xs.map D.int) i = some (.int (xs.getD i.toNat 0)) := by rw [atI_map, atI_int h0 h]; rfl
theorem place_go : ∀ {xs : List Int} {p : Int}, 0 ≤ p → (∀ x ∈ xs, 0 ≤ x ∧ x < 2) → 0 ≤ xs.foldl (fun p b => 2 * p + b) p ∧ xs.foldl (fun p b => 2 * p + b) p < (p + 1) * 2 ^ xs.length
  | [], p, hp, _ => by simp; omega
  | x :: xs, p, hp, h => by
    have hx := h x (by simp)
    have ih := place_go (xs := xs) (p := 2 * p + x) (by omega) fun y hy => h y (by simp [hy])
    rw [List.foldl_cons, List.length_cons, Int.pow_succ]
    refine ⟨ih.1, Int.lt_of_lt_of_le ih.2 ?_⟩
    have e : (p + 1) * (2 ^ xs.length * 2) = (2 * p + 2) * 2 ^ xs.length := by
      rw [Int.mul_comm (2 ^ xs.length) 2, ← Int.mul_assoc]
      congr 1
      omega
    rw [e]
    exact Int.mul_le_mul_of_nonneg_right (by omega) (Int.pow_nonneg (by omega))
theorem placeI_lt {xs : List Int} (h : ∀ x ∈ xs, 0 ≤ x ∧ x < 2) : 0 ≤ placeI xs ∧ placeI xs < 2 ^ xs.length := by
  have := place_go (xs := xs) (p := 0) (by omega) h
  simpa [placeI] using this
abbrev RuleT := List Int × List Int
structure GoodNet (ns : List RuleT) : Prop where
  sz : ns.length ≤ 100
  ear : ∀ r ∈ ns, r.1.length ≤ 100 ∧ (∀ e ∈ r.1, 0 ≤ e ∧ e < ns.length) ∧ r.2.length = 2 ^ r.1.length
structure IsSt (m : Nat) (st : List Int) : Prop where
  len : st.length = m
  bit : ∀ x ∈ st, 0 ≤ x ∧ x < 2
def tellI (r : RuleT) (st : List Int) : Int := r.2.getD (placeI (r.1.map fun e => st.getD e.toNat 0)).toNat 0
def oughtI (ns : List RuleT) (st : List Int) (k : Nat) : Int := tellI (ns.getD k ([], [])) st
theorem getD_bit {st : List Int} (h : ∀ x ∈ st, 0 ≤ x ∧ x < 2) (k : Nat) : 0 ≤ st.getD k 0 ∧ st.getD k 0 < 2 := by
  rw [List.getD_eq_getElem?_getD]
  cases e : st[k]? with
  | none => simp
  | some x => exact h x (List.mem_of_getElem? e)
theorem IsSt.get {m : Nat} {st : List Int} (h : IsSt m st) (k : Nat) : 0 ≤ st.getD k 0 ∧ st.getD k 0 < 2 := getD_bit h.bit k
theorem read_lt {m : Nat} {st : List Int} (h : IsSt m st) (es : List Int) : 0 ≤ placeI (es.map fun e => st.getD e.toNat 0) ∧ placeI (es.map fun e => st.getD e.toNat 0) < 2 ^ es.length := by
  have := placeI_lt (xs := es.map fun e => st.getD e.toNat 0) fun x hx => by
    obtain ⟨e, _, rfl⟩ := List.mem_map.mp hx
    exact h.get _
  rwa [List.length_map] at this
theorem net_at {ns : List RuleT} {k : Nat} (h : k < ns.length) : atI (ns.map dRule) (k : Int) = some (dRule (ns.getD k ([], []))) := by
  rw [atI_map, atI_nat' h, List.getD_eq_getElem?_getD, List.getElem?_eq_getElem h]
  rfl
theorem GoodNet.at {ns : List RuleT} (g : GoodNet ns) {k : Nat} (h : k < ns.length) : (ns.getD k ([], [])).1.length ≤ 100 ∧ (∀ e ∈ (ns.getD k ([], [])).1, 0 ≤ e ∧ e < ns.length) ∧ (ns.getD k ([], [])).2.length = 2 ^ (ns.getD k ([], [])).1.length := by
  rw [List.getD_eq_getElem?_getD, List.getElem?_eq_getElem h]
  exact g.ear _ (List.getElem_mem h)
/-- the switches that are not as their rules tell -/
def wrongI (ns : List RuleT) (st : List Int) : List Nat := (List.range ns.length).filter fun k => !decide (oughtI ns st k = st.getD k 0)
abbrev ln' (xs : List Nat) : D := .lst (xs.map fun k => D.int (k : Nat))
def stands : Nat → List (List Int)
  | 0 => [[]]
  | m + 1 => (stands m).map (0 :: ·) ++ (stands m).map (1 :: ·)
theorem stands_len : ∀ m, (stands m).length = 2 ^ m
  | 0 => rfl
  | m + 1 => by simp [stands, stands_len m, Nat.pow_succ]; omega
theorem stands_st : ∀ {m : Nat} {st : List Int}, st ∈ stands m → IsSt m st
  | 0, st, h => by simp [stands] at h; subst h; exact ⟨rfl, by simp⟩
  | m + 1, st, h => by
    simp only [stands, List.mem_append, List.mem_map] at h
    rcases h with ⟨s, h, rfl⟩ | ⟨s, h, rfl⟩
    · exact ⟨by simp [(stands_st h).len], by simpa using (stands_st h).bit⟩
    · exact ⟨by simp [(stands_st h).len], by simpa using (stands_st h).bit⟩
abbrev lti (xs : List (List Int)) : D := .lst (xs.map ti)
theorem stands_of_ok {m : Nat} (hm : m ≤ 20) : C.g_stands_of [.int m] = .ok (.vl (lti (stands m))) := by
  have hp : ∀ k, k ≤ 20 → 2 ^ k ≤ 1048576 := fun k hk => Nat.pow_le_pow_right (by omega) hk
  have h := for_rng (tm := tmName 2) (body := C.b_stands_of_1) (vs := [2]) (ws := []) (n := m) (fun k : Nat => D.int (k : Nat)) (fun k => [some (.int m), some (lti (stands k)), none, none]) (fun i hi => by
    have hz := hp i (by omega)
    have hz2 := hp (i + 1) (by omega)
    have c1 : cCompL (tmName 3) cYes C.e_stands_of_1 [3] [] ((stands i).map ti) [some (.int m), some (lti (stands i)), some (.int (i : Nat)), none] = .ok (((stands i).map fun s => ti (0 :: s)), [some (.int m), some (lti (stands i)), some (.int (i : Nat)), none]) :=
      comp_map ti (fun s => ti (0 :: s)) (stands i) (fun s hs => by
        have := (stands_st hs).len
        simp [turnC, C.e_stands_of_1, szOk_of (show 1 + s.length ≤ 16777216 by omega)])
    have c2 : cCompL (tmName 3) cYes C.e_stands_of_2 [3] [] ((stands i).map ti) [some (.int m), some (lti (stands i)), some (.int (i : Nat)), none] = .ok (((stands i).map fun s => ti (1 :: s)), [some (.int m), some (lti (stands i)), some (.int (i : Nat)), none]) :=
      comp_map ti (fun s => ti (1 :: s)) (stands i) (fun s hs => by
        have := (stands_st hs).len
        simp [turnC, C.e_stands_of_2, szOk_of (show 1 + s.length ≤ 16777216 by omega)])
    have hl := stands_len i
    have z1 : szOk (stands i).length = true := szOk_of (by omega)
    have z2 : szOk ((stands i).length + (stands i).length) = true := szOk_of (by rw [Nat.pow_succ] at hz2; omega)
    refine ⟨by simp, ?_⟩
    simp only [turnF, C.b_stands_of_1]
    simp [c1, c2, z1, z2, stands, Function.comp_def])
  have hr : rngOk m = true := rngOk_of (by omega) (by omega)
  have hz2 : szOk m = true := szOk_of (by omega)
  have h : forL (tmName 2) C.b_stands_of_1 [2] [] ((List.range m).map fun k : Nat => D.int (k : Nat)) [some (.int m), some (.lst [.tup []]), none, none] = _ := h
  simp [C.g_stands_of, C.m_stands_of, e_fnP, hr, hz2, h]
theorem fit_ln {n : Nat} {xs : List Nat} : Fit (n + 1) (ln' xs) := fun d h => by
  obtain ⟨x, _, rfl⟩ := List.mem_map.mp h
  exact fit_int
theorem fit_nil {n : Nat} : Fit (n + 1) (.lst []) := by
  unfold Fit
  intro d h
  cases h
theorem eqPs_nil {xs : List D} : eqPs xs [] = xs.isEmpty := by cases xs <;> rfl
end H

set_option Elab.async false
set_option linter.all false
set_option maxRecDepth 100000
set_option exponentiation.threshold 300
namespace H
open PySem PySem.Spec PyProof.Rows L2 Y
def cellI (ns : List Int) (k : Nat) : Int := if k < ns.length then ns.getD k 0 else 6151 * k + 29
def isOk (r : R Hd) (d : D) : Prop := r = .ok (.fr d) ∨ r = .ok (.vl d)
theorem cell_ok {ns : List Int} {k : Nat} : isOk (C.g__law_cell [.arg ns, .int k]) (.int (cellI ns k)) := by
  unfold cellI
  by_cases h : k < ns.length
  · right
    have a := atI_int (xs := ns) (i := k) (by omega) (by omega)
    simp only [Int.toNat_natCast] at a
    simp [C.g__law_cell, C.m__law_cell, e_fnP, h, a, -List.getD_eq_getElem?_getD]
  · left
    simp [C.g__law_cell, C.m__law_cell, e_fnP, h, mulOk_l]
/-- numbers that the machine bears as factors -/
def Big (n : Nat) (z : Int) : Prop := z.natAbs < 2 ^ n
theorem Big.add {a b : Int} {n : Nat} (h : Big n a) (h2 : Big n b) : Big (n + 1) (a + b) := by
  unfold Big at *
  rw [Nat.pow_succ]
  have := Int.natAbs_add_le a b
  omega
theorem Big.times {a b : Int} {n m : Nat} (h : Big n a) (h2 : Big m b) : Big (n + m) (a * b) := by
  unfold Big at *
  rw [Int.natAbs_mul, Nat.pow_add]
  exact Nat.mul_lt_mul'' h h2
theorem Big.up {a : Int} {n m : Nat} (h : Big n a) (hm : n ≤ m) : Big m a := Nat.lt_of_lt_of_le h (Nat.pow_le_pow_right (by omega) hm)
theorem cut_hi {ds : List D} {k : Nat} : Y.cutD ds none (some (k : Int)) = ds.take k := by
  unfold Y.cutD
  rw [HT.sIx_none, HT.sIx_nat]
  simp
/-- a rule for m switches -/
structure RuleOk (m : Nat) (r : RuleT) : Prop where
  len : r.1.length ≤ 4
  sub : ∃ es : List Nat, r.1 = es.map (fun j : Nat => (j : Int)) ∧ es.Sublist (List.range m)
  tab : r.2.length = 2 ^ r.1.length
  bit : ∀ x ∈ r.2, 0 ≤ x ∧ x < 2
end H

set_option Elab.async false
set_option linter.all false
set_option maxRecDepth 100000
namespace H
open PySem PySem.Spec PyProof.Rows L2 Y
structure NetOk (ns : List RuleT) (most : Nat) : Prop where
  pos : 1 ≤ ns.length
  le : ns.length ≤ most
  rule : ∀ r ∈ ns, RuleOk ns.length r
theorem NetOk.good {ns : List RuleT} {most : Nat} (h : NetOk ns most) (hm : most ≤ 100) : GoodNet ns where
  sz := Nat.le_trans h.le hm
  ear := fun r hr => by
    have k := h.rule r hr
    refine ⟨by have := k.len; omega, fun e he => ?_, k.tab⟩
    obtain ⟨es, e1, sub⟩ := k.sub
    rw [e1] at he
    obtain ⟨j, hj, rfl⟩ := List.mem_map.mp he
    have := List.mem_range.mp (sub.subset hj)
    omega
theorem fit_lti {n : Nat} {xs : List (List Int)} : Fit (n + 2) (lti xs) := fun d h => by
  obtain ⟨x, _, rfl⟩ := List.mem_map.mp h
  exact fit_tupI
end H

set_option Elab.async false
set_option linter.all false
set_option maxRecDepth 100000
namespace H
open PySem PySem.Spec PyProof.Rows L2 Y
theorem cut_to {ds : List D} {k : Nat} : Y.cutD ds none (some (k : Int)) = ds.take k := cut_hi
theorem cut_from {ds : List D} {k : Nat} : Y.cutD ds (some (k : Int)) none = ds.drop k := by
  unfold Y.cutD
  rw [HT.sIx_none, HT.sIx_nat]
  by_cases h : k ≤ ds.length
  · rw [Nat.min_eq_left h, List.take_of_length_le (by simp)]
  · rw [Nat.min_eq_right (by omega), List.drop_of_length_le (Nat.le_refl _), List.drop_of_length_le (by omega)]
    simp
def withI (st : List Int) (k : Nat) (b : Int) : List Int := st.take k ++ b :: st.drop (k + 1)
theorem with_bit_ok {st : List Int} {k : Nat} {b : Int} (hl : st.length ≤ 1000000) : C.g_with_bit [ti st, .int k, .int b] = .ok (.fr (ti (withI st k b))) := by
  have c1 := cut_to (ds := st.map D.int) (k := k)
  have c2 := cut_from (ds := st.map D.int) (k := k + 1)
  rw [show ((k + 1 : Nat) : Int) = (k : Int) + 1 by omega] at c2
  have z1 : szOk (min k st.length + 1) = true := szOk_of (by omega)
  have z2 : szOk (min k st.length + 1 + (st.length - (k + 1))) = true := szOk_of (by omega)
  simp only [C.g_with_bit, C.m_with_bit]
  simp [e_fnP, c1, c2, z1, z2, withI]
end H

set_option Elab.async false
set_option linter.all false
set_option maxRecDepth 100000
namespace H
open PySem PySem.Spec PyProof.Rows L2 Y
abbrev tn (b : List Nat) : D := .tup (b.map fun k : Nat => D.int (k : Nat))
theorem ixN_nat {n k : Nat} (h : k < n) : ixN n (k : Int) = some k := by
  unfold ixN
  rw [if_pos (by omega), if_pos (by omega)]
  rfl
def TabBits (ns : List RuleT) : Prop := ∀ r ∈ ns, ∀ x ∈ r.2, 0 ≤ x ∧ x < 2
theorem NetOk.tab {ns : List RuleT} {most : Nat} (h : NetOk ns most) : TabBits ns := fun r hr => (h.rule r hr).bit
end H

set_option Elab.async false
set_option linter.all false
set_option maxRecDepth 100000
namespace H
open PySem PySem.Spec PyProof.Rows L2 Y
end H

set_option Elab.async false
set_option linter.all false
set_option maxRecDepth 100000
namespace H
open PySem PySem.Spec PyProof.Rows L2 Y
theorem pairsD_map {α β : Type} {f : α → D} {g : β → D} : ∀ {xs : List α} {ys : List β}, pairsD (xs.map f) (ys.map g) = (xs.zip ys).map fun p => .tup [f p.1, g p.2]
  | [], _ => by simp [pairsD]
  | _ :: _, [] => by simp [pairsD]
  | x :: xs, y :: ys => by simp [pairsD, pairsD_map (xs := xs) (ys := ys)]
theorem cut_one {ds : List D} : Y.cutD ds (some 1) none = ds.tail := by
  have := cut_from (ds := ds) (k := 1)
  rw [show ((1 : Nat) : Int) = 1 by rfl] at this
  rw [this, List.drop_one]
structure OrdOk (m : Nat) (o : List (List Nat)) : Prop where
  ne : ∀ b ∈ o, b ≠ []
  sub : ∀ b ∈ o, b.Sublist (List.range m)
  perm : o.flatten.Perm (List.range m)
theorem OrdOk.len {m : Nat} {o : List (List Nat)} (h : OrdOk m o) : o.length ≤ m := by
  have : ∀ o : List (List Nat), (∀ b ∈ o, b ≠ []) → o.length ≤ o.flatten.length := fun o => by
    induction o with
    | nil => simp
    | cons b o ih =>
      intro h
      have h1 := h b (by simp)
      have h2 := ih fun c hc => h c (by simp [hc])
      have : 0 < b.length := List.length_pos_iff.mpr h1
      rw [List.flatten_cons, List.length_append, List.length_cons]
      omega
  have h2 := this o h.ne
  rw [h.perm.length_eq, List.length_range] at h2
  exact h2
theorem OrdOk.apart {m : Nat} {o : List (List Nat)} (h : OrdOk m o) : o.Pairwise (fun b c => ∀ k ∈ b, k ∉ c) := by
  have : o.flatten.Nodup := h.perm.nodup_iff.mpr List.nodup_range
  have := (List.pairwise_flatten.mp this).2
  exact this.imp fun h k hk z => h k hk k z rfl
end H

set_option Elab.async false
set_option linter.all false
set_option maxRecDepth 100000
namespace H
open PySem PySem.Spec PyProof.Rows L2 Y
theorem with_same {st : List Int} {k : Nat} {b : Int} (hk : k < st.length) : withI st k b = st ↔ b = st.getD k 0 := by
  have e : st = st.take k ++ st.getD k 0 :: st.drop (k + 1) := by
    have := List.take_append_drop k st
    rw [List.drop_eq_getElem_cons hk] at this
    rw [List.getD_eq_getElem?_getD, List.getElem?_eq_getElem hk]
    exact this.symm
  unfold withI
  constructor
  · intro h
    rw [e] at h
    have e2 := List.append_cancel_left (show st.take k ++ (b :: st.drop (k + 1)) = st.take k ++ (st.getD k 0 :: st.drop (k + 1)) from by
      have h3 := h
      rw [← e] at h3
      exact h3.trans e)
    exact (List.cons.inj e2).1
  · intro h
    rw [h]
    exact e.symm
@[simp] theorem neD_bl {a b : Bool} : neD (.bl a) (.bl b) = .ok (.bl (a != b)) := by
  rw [neD_of (n := 0) fit_bl fit_bl, eqP_bl]
  cases a <;> cases b <;> rfl
theorem OrdOk.turn {m : Nat} {o : List (List Nat)} (h : OrdOk m o) (w : Nat) : OrdOk m (o.drop w ++ o.take w) := by
  have p : (o.drop w ++ o.take w).Perm o := by
    have := List.perm_append_comm (l₁ := o.drop w) (l₂ := o.take w)
    rwa [List.take_append_drop] at this
  exact ⟨fun b hb => h.ne b (p.mem_iff.mp hb), fun b hb => h.sub b (p.mem_iff.mp hb), p.flatten.trans h.perm⟩
end H

set_option Elab.async false
set_option linter.all false
set_option maxRecDepth 100000
namespace H
open PySem PySem.Spec PyProof.Rows L2 Y
def blk (ks : List Int) (m j : Nat) : List Nat := (List.range m).filter fun k => decide (ks.getD k 0 = (j : Nat))
end H

set_option Elab.async false
set_option linter.all false
set_option maxRecDepth 100000
set_option exponentiation.threshold 300
namespace H
open PySem PySem.Spec PyProof.Rows L2 Y
abbrev tx (l : List Nat) : Str := ⟨l.toArray⟩
abbrev dt (l : List Nat) : D := .str (tx l)
end H

set_option Elab.async false
set_option linter.all false
set_option maxRecDepth 100000
set_option exponentiation.threshold 300
namespace H
open PySem PySem.Spec PyProof.Rows L2 Y
theorem take2_ok {n m : Int} (h0 : 0 < m) (h1 : m < 1073741824) : C.g__law_take_2 [.lst [.int n], .int m] = .ok (.vl (.int (n % m)), [some (.lst [.int (n / m)]), none]) := by
  have a : atI [D.int n] 0 = some (.int n) := rfl
  have b : ixN 1 0 = some 0 := rfl
  simp only [C.g__law_take_2, C.m__law_take_2]
  simp [e_fnD, smallPos_of h0 h1, h0, a, b, ixD]
def box2N (c : Int) (k : Nat) : Nat → Int × Int
  | 0 => (0, c % 2147483647)
  | j + 1 =>
    let m := ((box2N c k j).2 * 48271 + 7 * (j : Int) * j + 11 * k + 1) % 2147483647
    ((box2N c k j).1 * 2147483647 + m, m)
theorem box2_ok {ns : List Int} {k : Nat} (hk : k < 1000) : ∃ b : Int, C.g__law_box_2 [.arg ns, .int k] = .ok (.fr (.lst [.int b])) := by
  have h : forL (tmName 5) C.b__law_box_2_1 [5] [] ((List.range 24).map fun j : Nat => D.int (j : Nat)) [some (.arg ns), some (.int k), some (.int (cellI ns k)), some (.int 0), some (.int (cellI ns k % 2147483647)), none] = .ok (.nx, [some (.arg ns), some (.int k), some (.int (cellI ns k)), some (.int (box2N (cellI ns k) k 24).1), some (.int (box2N (cellI ns k) k 24).2), none]) :=
    for_rng (fun j : Nat => D.int (j : Nat)) (fun j => [some (.arg ns), some (.int k), some (.int (cellI ns k)), some (.int (box2N (cellI ns k) k j).1), some (.int (box2N (cellI ns k) k j).2), none]) (fun j hj => by
      refine ⟨by simp, ?_⟩
      have b1 : ∀ p : Int, mulOk p 2147483647 = true := fun p => mulOk_r (by decide)
      have b2 : ∀ p : Int, mulOk p 48271 = true := fun p => mulOk_r (by decide)
      have b3 : mulOk 7 j = true := mulOk_l (by decide)
      have b4 : mulOk 11 k = true := mulOk_l (by decide)
      have b5 : mulOk (7 * (j : Int)) j = true := mulOk_l (by omega)
      simp only [turnF, C.b__law_box_2_1]
      simp [b1, b2, b3, b4, b5, box2N])
  have hr : rngOk 24 = true := by decide
  have hz : szOk 24 = true := by decide
  have r24 : rng1D [.int 24] = .ok ((List.range 24).map fun j : Nat => D.int (j : Nat)) := by rw [d_rng1, if_pos hr]; rfl
  have z24 : szOk ((List.range 24).map fun j : Nat => D.int (j : Nat)).length = true := by simp [hz]
  by_cases e : cellI ns k % 2 = 0
  · refine ⟨cellI ns k / 2, ?_⟩
    rcases cell_ok (ns := ns) (k := k) with c | c <;> simp only [C.g__law_box_2, C.m__law_box_2] <;> simp [e_fnP, c, e, smallPos_of]
  · refine ⟨(box2N (cellI ns k) k 24).1, ?_⟩
    rcases cell_ok (ns := ns) (k := k) with c | c <;> simp only [C.g__law_box_2, C.m__law_box_2] <;> generalize C.b__law_box_2_1 = B at h ⊢ <;> generalize (List.range 24).map (fun j : Nat => D.int (j : Nat)) = L24 at h r24 z24 <;> simp [e_fnP, c, e, r24, z24, h, -d_rng1]
theorem mem_stands : ∀ {m : Nat} {st : List Int}, st ∈ stands m ↔ IsSt m st
  | 0, st => by
    constructor
    · exact stands_st
    · intro h
      have := h.len
      cases st with
      | nil => simp [stands]
      | cons => simp at this
  | m + 1, st => by
    constructor
    · exact stands_st
    · intro h
      cases st with
      | nil => have := h.len; simp at this
      | cons x st =>
        have hx := h.bit x (by simp)
        have hs : IsSt m st := ⟨by have := h.len; simpa using this, fun y hy => h.bit y (by simp [hy])⟩
        have : st ∈ stands m := mem_stands.mpr hs
        have e : x = 0 ∨ x = 1 := by omega
        rcases e with rfl | rfl <;> simp [stands, this]
theorem stands_lt : ∀ m, (stands m).Pairwise fun a b => ltL a b = true
  | 0 => by simp [stands]
  | m + 1 => by
    have ih := stands_lt m
    unfold stands
    rw [List.pairwise_append]
    refine ⟨?_, ?_, ?_⟩
    · rw [List.pairwise_map]; exact ih.imp fun h => by simpa [ltL] using h
    · rw [List.pairwise_map]; exact ih.imp fun h => by simpa [ltL] using h
    · intro a ha b hb
      obtain ⟨x, _, rfl⟩ := List.mem_map.mp ha
      obtain ⟨y, _, rfl⟩ := List.mem_map.mp hb
      simp [ltL]
theorem stands_nodup (m : Nat) : (stands m).Nodup := (stands_lt m).imp fun {a b} h e => by
  subst e
  rw [ltL_asym h] at h
  cases h
theorem stands_sorted {m : Nat} {xs : List (List Int)} (p : xs.Perm (stands m)) : sortL xs = stands m :=
  (sortL_of p.symm ((stands_lt m).imp fun h => ltL_asym h)).symm
/-- readings, the last bit grown -/
def rowsR : Nat → List (List Int)
  | 0 => [[]]
  | m + 1 => (rowsR m).map (· ++ [0]) ++ (rowsR m).map (· ++ [1])
theorem rowsR_st : ∀ {m : Nat} {st : List Int}, st ∈ rowsR m → IsSt m st
  | 0, st, h => by simp [rowsR] at h; subst h; exact ⟨rfl, by simp⟩
  | m + 1, st, h => by
    simp only [rowsR, List.mem_append, List.mem_map] at h
    rcases h with ⟨s, h, rfl⟩ | ⟨s, h, rfl⟩
    · have := rowsR_st h
      refine ⟨by simp [this.len], fun x hx => ?_⟩
      rcases List.mem_append.mp hx with hx | hx
      · exact this.bit x hx
      · simp at hx; omega
    · have := rowsR_st h
      refine ⟨by simp [this.len], fun x hx => ?_⟩
      rcases List.mem_append.mp hx with hx | hx
      · exact this.bit x hx
      · simp at hx; omega
theorem rowsR_len : ∀ m, (rowsR m).length = 2 ^ m
  | 0 => rfl
  | m + 1 => by simp [rowsR, rowsR_len m, Nat.pow_succ]; omega
theorem rowsR_nodup : ∀ m, (rowsR m).Nodup
  | 0 => by simp [rowsR]
  | m + 1 => by
    have ih := rowsR_nodup m
    unfold rowsR
    refine List.pairwise_append.mpr ⟨?_, ?_, ?_⟩
    · rw [List.pairwise_map]; exact ih.imp fun h e => h (List.append_cancel_right e)
    · rw [List.pairwise_map]; exact ih.imp fun h e => h (List.append_cancel_right e)
    · intro a ha b hb e
      obtain ⟨x, _, rfl⟩ := List.mem_map.mp ha
      obtain ⟨y, _, rfl⟩ := List.mem_map.mp hb
      have := List.append_inj' e rfl
      simp at this
theorem mem_rowsR : ∀ {m : Nat} {st : List Int}, IsSt m st → st ∈ rowsR m
  | 0, st, h => by
    have := h.len
    cases st with
    | nil => simp [rowsR]
    | cons => simp at this
  | m + 1, st, h => by
    rcases List.eq_nil_or_concat st with rfl | ⟨s, b, rfl⟩
    · have := h.len; simp at this
    · have hs : IsSt m s := ⟨by have := h.len; simpa using this, fun y hy => h.bit y (by simp [hy])⟩
      have hb := h.bit b (by simp)
      have := mem_rowsR hs
      have e : b = 0 ∨ b = 1 := by omega
      rcases e with rfl | rfl <;> simp [rowsR, this]
theorem rowsR_perm (m : Nat) : (rowsR m).Perm (stands m) :=
  (List.perm_ext_iff_of_nodup (rowsR_nodup m) (stands_nodup m)).mpr fun st => ⟨fun h => mem_stands.mpr (rowsR_st h), fun h => mem_rowsR (stands_st h)⟩
theorem readings_ok {m : Nat} (hm : m ≤ 20) : C.g__law_readings [.int m] = .ok (.fr (lti (stands m))) := by
  have hp : ∀ k, k ≤ 20 → 2 ^ k ≤ 1048576 := fun k hk => Nat.pow_le_pow_right (by omega) hk
  have h := for_rng (tm := tmName 2) (body := C.b__law_readings_1) (vs := [2]) (ws := []) (n := m) (fun k : Nat => D.int (k : Nat)) (fun k => [some (.int m), some (lti (rowsR k)), none, none]) (fun i hi => by
    have hz := hp i (by omega)
    have hz2 := hp (i + 1) (by omega)
    have c1 : cCompL (tmName 3) cYes C.e__law_readings_1 [3] [] ((rowsR i).map ti) [some (.int m), some (lti (rowsR i)), some (.int (i : Nat)), none] = .ok (((rowsR i).map fun s => ti (s ++ [0])), [some (.int m), some (lti (rowsR i)), some (.int (i : Nat)), none]) :=
      comp_map ti (fun s => ti (s ++ [0])) (rowsR i) (fun s hs => by
        have := (rowsR_st hs).len
        simp only [turnC, C.e__law_readings_1]
        simp [szOk_of (show s.length + 1 ≤ 16777216 by omega)])
    have c2 : cCompL (tmName 3) cYes C.e__law_readings_2 [3] [] ((rowsR i).map ti) [some (.int m), some (lti (rowsR i)), some (.int (i : Nat)), none] = .ok (((rowsR i).map fun s => ti (s ++ [1])), [some (.int m), some (lti (rowsR i)), some (.int (i : Nat)), none]) :=
      comp_map ti (fun s => ti (s ++ [1])) (rowsR i) (fun s hs => by
        have := (rowsR_st hs).len
        simp only [turnC, C.e__law_readings_2]
        simp [szOk_of (show s.length + 1 ≤ 16777216 by omega)])
    have hl := rowsR_len i
    have z1 : szOk (rowsR i).length = true := szOk_of (by omega)
    have z2 : szOk ((rowsR i).length + (rowsR i).length) = true := szOk_of (by rw [Nat.pow_succ] at hz2; omega)
    refine ⟨by simp, ?_⟩
    simp only [turnF, C.b__law_readings_1]
    simp [c1, c2, z1, z2, rowsR, Function.comp_def])
  have hr : rngOk m = true := rngOk_of (by omega) (by omega)
  have hz2 : szOk m = true := szOk_of (by omega)
  have h : forL (tmName 2) C.b__law_readings_1 [2] [] ((List.range m).map fun k : Nat => D.int (k : Nat)) [some (.int m), some (.lst [.tup []]), none, none] = _ := h
  have hs : sortD [lti (rowsR m)] = .ok (lti (stands m)) := by
    cases e : rowsR m with
    | nil => have := rowsR_len m; rw [e] at this; have := Nat.pow_pos (n := m) (show 0 < 2 by omega); simp at *; omega
    | cons x xs =>
      have ok : sortOk (x :: xs) = true := by
        unfold sortOk
        cases m with
        | zero => simp [rowsR] at e; obtain ⟨rfl, rfl⟩ := e; rfl
        | succ m =>
          rw [Bool.or_eq_true]
          right
          rw [← e, List.all_eq_true]
          intro y hy
          have := (rowsR_st hy).len
          cases y with
          | nil => simp at this
          | cons => rfl
      have := sortD_tups ok
      rw [← e] at this
      rw [← e, this, stands_sorted (rowsR_perm m)]
  generalize lti (rowsR m) = F at h hs
  simp only [C.g__law_readings, C.m__law_readings]
  simp [e_fnP, hr, hz2, h, hs]
end H

set_option Elab.async false
set_option linter.all false
set_option maxRecDepth 100000
set_option exponentiation.threshold 300
namespace H
open PySem PySem.Spec PyProof.Rows L2 Y
/-- for over range(n), by what holds at each turn -/
theorem for_inx {tm : GM} {body : SM} {vs ws : List Nat} (F : Nat → D) (I : Nat → Y.Env → Prop) (n : Nat) (ρ : Y.Env) (h0 : I 0 ρ)
    (hs : ∀ i ρ, i < n → I i ρ → ∃ ρ', turnF tm body vs (F i) ρ = .ok (.nx, ρ') ∧ I (i + 1) ρ' ∧ ∀ w ∈ ws, ρ'[w]? = ρ[w]?) : ∃ ρ', forL tm body vs ws ((List.range n).map F) ρ = .ok (.nx, ρ') ∧ I n ρ' := by
  have : ∀ (k i : Nat) (ρ : Y.Env), i + k = n → I i ρ → ∃ ρ', forL tm body vs ws ((List.range' i k).map F) ρ = .ok (.nx, ρ') ∧ I n ρ' := by
    intro k
    induction k with
    | zero => intro i ρ e h; exact ⟨ρ, rfl, by rw [← e]; exact h⟩
    | succ k ih =>
      intro i ρ e h
      obtain ⟨ρ1, e1, h1, w1⟩ := hs i ρ (by omega) h
      obtain ⟨ρ2, e2, h2⟩ := ih (i + 1) ρ1 (by omega) h1
      rw [List.range'_succ, List.map_cons]
      exact ⟨ρ2, for_cons e1 w1 e2, h2⟩
  rw [List.range_eq_range']
  exact this n 0 ρ (by omega) h0
theorem sub_range {es : List Nat} {m : Nat} (h : es.Pairwise (· < ·)) (hm : ∀ x ∈ es, x < m) : es.Sublist (List.range m) := by
  have e : es = (List.range m).filter fun k => decide (k ∈ es) := by
    have hf : ((List.range m).filter fun k => decide (k ∈ es)).Pairwise (· < ·) := List.Pairwise.filter _ List.pairwise_lt_range
    refine List.Perm.eq_of_pairwise (le := fun a b : Nat => a < b) (fun a b _ _ h1 h2 => by omega) h hf ?_
    refine (List.perm_ext_iff_of_nodup (h.imp fun h => by omega) (hf.imp fun h => by omega)).mpr fun k => ?_
    rw [List.mem_filter, List.mem_range, decide_eq_true_eq]
    exact ⟨fun h => ⟨hm k h, h⟩, fun h => h.2⟩
  rw [e]
  exact List.filter_sublist
/-- whole numbers, none twice, sorted: a part of a range -/
theorem sort_sub {E : List Nat} {m : Nat} (hn : E.Nodup) (hm : ∀ x ∈ E, x < m) : ∃ es : List Nat, sortI (E.map fun k : Nat => (k : Int)) = es.map (fun k : Nat => (k : Int)) ∧ es.Sublist (List.range m) ∧ es.length = E.length := by
  have p := sortI_perm (E.map fun k : Nat => (k : Int))
  have pw := sortI_pw (E.map fun k : Nat => (k : Int))
  generalize sortI (E.map fun k : Nat => (k : Int)) = S at p pw
  have nn : ∀ x ∈ S, 0 ≤ x ∧ x < m := fun x hx => by
    obtain ⟨k, hk, rfl⟩ := List.mem_map.mp (p.mem_iff.mp hx)
    have := hm k hk
    omega
  have e : S = (S.map Int.toNat).map fun k : Nat => (k : Int) := by
    rw [List.map_map]
    conv => lhs; rw [← List.map_id S]
    exact List.map_congr_left fun x hx => by
      have := nn x hx
      show x = ((x.toNat : Nat) : Int)
      omega
  refine ⟨S.map Int.toNat, e, sub_range ?_ fun x hx => ?_, ?_⟩
  · have nd : S.Nodup := p.nodup_iff.mpr (by
      refine List.pairwise_map.mpr (hn.imp fun {a b} h z => h ?_)
      exact_mod_cast z)
    rw [List.pairwise_map]
    have := List.Pairwise.and pw nd
    refine List.Pairwise.imp_of_mem (fun {a b} ha hb h => ?_) this
    have h1 := nn a ha
    have h2 := nn b hb
    have h3 := h.1
    have h4 : a ≠ b := h.2
    omega
  · obtain ⟨y, hy, rfl⟩ := List.mem_map.mp hx
    have := nn y hy
    omega
  · have := p.length_eq
    simpa using this
theorem erase_map {α β : Type} {f : α → β} : ∀ {xs : List α} {j : Nat}, (xs.map f).eraseIdx j = (xs.eraseIdx j).map f
  | [], _ => by simp
  | x :: xs, 0 => by simp
  | x :: xs, j + 1 => by simp [erase_map (xs := xs)]
theorem pick_perm {α : Type} : ∀ {xs : List α} {j : Nat} (h : j < xs.length), (xs[j] :: xs.eraseIdx j).Perm xs
  | x :: xs, 0, _ => by simp
  | x :: xs, j + 1, h => by
    have h : j < xs.length := by simpa using h
    have := pick_perm h
    rw [List.eraseIdx_cons_succ, List.getElem_cons_succ]
    exact (List.Perm.swap x xs[j] (xs.eraseIdx j)).trans (this.cons x)
theorem nls_rg {n : Int} : nls (rgD 0 n) = true := nls_map fun _ _ => by simp
theorem rule2_any {n : Int} {m : Nat} (hm : m ≤ 100) : ∃ (r : RuleT) (n' : Int), C.g__law_rule_2 [.lst [.int n], .int m] = .ok (.fr (dRule r), [some (.lst [.int n']), none]) ∧ RuleOk m r := by
  obtain ⟨M, hM⟩ : ∃ M : Nat, min (n % 5) (m : Int) = M := ⟨(min (n % 5) (m : Int)).toNat, by have := Int.emod_nonneg n (b := 5) (by omega); omega⟩
  have hM4 : M ≤ 4 ∧ M ≤ m := by have := Int.emod_lt_of_pos n (b := 5) (by omega); omega
  obtain ⟨ρ1, hl, n1, L, E, o, eρ, pm, el⟩ := for_inx (tm := tmName 4) (body := C.b__law_rule_2_1) (vs := []) (ws := []) (fun k : Nat => D.int (k : Nat))
    (fun i ρ => ∃ (b : Int) (L E : List Nat) (o : Option D), ρ = [some (.lst [.int b]), some (.int m), some (ln' L), some (ln' E), o, none, none, none, none, none, none, none] ∧ (E ++ L).Perm (List.range m) ∧ E.length = i) M
    [some (.lst [.int (n / 5)]), some (.int m), some (ln' (List.range m)), some (.lst []), none, none, none, none, none, none, none, none]
    ⟨n / 5, List.range m, [], none, rfl, by simp, rfl⟩ (fun i ρ hi ⟨b, L, E, o, eρ, pm, el⟩ => by
      subst eρ
      have ll : L.length = m - i := by have := pm.length_eq; rw [List.length_append, List.length_range] at this; omega
      have tk := take2_ok (n := b) (m := L.length) (by omega) (by omega)
      obtain ⟨j, hj⟩ : ∃ j : Nat, b % (L.length : Int) = j := ⟨(b % (L.length : Int)).toNat, by have := Int.emod_nonneg b (b := (L.length : Int)) (by omega); omega⟩
      have hjl : j < L.length := by have := Int.emod_lt_of_pos b (b := (L.length : Int)) (by omega); omega
      have ix := ixN_nat (n := L.length) (k := j) hjl
      have zl : szOk L.length = true := szOk_of (by omega)
      have ze : szOk (E.length + 1) = true := szOk_of (by omega)
      refine ⟨[some (.lst [.int (b / L.length)]), some (.int m), some (ln' (L.eraseIdx j)), some (ln' (E ++ [L[j]])), some (.int i), none, none, none, none, none, none, none], ?_, ⟨_, L.eraseIdx j, E ++ [L[j]], _, rfl, ?_, by simp [el]⟩, by simp⟩
      · simp only [turnF, C.b__law_rule_2_1]
        simp [tk, hj, popRes, zl, ze, ix, hjl, erase_map]
      · have := pick_perm hjl
        rw [List.append_assoc]
        exact (List.Perm.append_left E this).trans pm)
  subst eρ
  have nd : E.Nodup := by
    have : (E ++ L).Nodup := pm.nodup_iff.mpr List.nodup_range
    exact (List.pairwise_append.mp this).1
  have em : ∀ x ∈ E, x < m := fun x hx => List.mem_range.mp (pm.mem_iff.mp (by simp [hx]))
  obtain ⟨es, hs, sub, le⟩ := sort_sub nd em
  have hsd : sortD [ln' E] = .ok (.lst ((es.map fun k : Nat => (k : Int)).map D.int)) := by
    have : ln' E = .lst ((E.map fun k : Nat => (k : Int)).map D.int) := by rw [List.map_map]; rfl
    rw [this, d_sortN, hs]
  have rok : ∀ t : List Int, t.length = 2 ^ E.length → (∀ x ∈ t, 0 ≤ x ∧ x < 2) → RuleOk m (es.map (fun k : Nat => (k : Int)), t) := fun t h1 h2 => ⟨by simp [le]; omega, ⟨es, rfl, sub⟩, by simpa [le] using h1, h2⟩
  have rd := readings_ok (m := E.length) (by omega)
  have sl := stands_len E.length
  have pw : 2 ^ E.length ≤ 16 := Nat.pow_le_pow_right (n := 2) (by omega) (show E.length ≤ 4 by omega)
  have zE : szOk E.length = true := szOk_of (by omega)
  have rE : rngOk E.length = true := rngOk_of (by omega) (by omega)
  have zS : szOk (stands E.length).length = true := szOk_of (by omega)
  have rM : rngOk M = true := rngOk_of (by omega) (by omega)
  have zM : szOk M = true := szOk_of (by omega)
  have rg := rgB_of (n := m) (by omega)
  have rg0 : ln' (List.range m) = .lst (rgD 0 m) := by rw [rgD_nat]
  rw [rg0] at hl
  have t3 : ∀ b : Int, C.g__law_take_2 [.lst [.int b], .int 3] = .ok (.vl (.int (b % 3)), [some (.lst [.int (b / 3)]), none]) := fun b => take2_ok (by omega) (by omega)
  have t2 : ∀ b : Int, C.g__law_take_2 [.lst [.int b], .int 2] = .ok (.vl (.int (b % 2)), [some (.lst [.int (b / 2)]), none]) := fun b => take2_ok (by omega) (by omega)
  have t5 : C.g__law_take_2 [.lst [.int n], .int 5] = .ok (.vl (.int (n % 5)), [some (.lst [.int (n / 5)]), none]) := take2_ok (by omega) (by omega)
  have tl : ∀ b : Int, C.g__law_take_2 [.lst [.int b], .int ((E.length : Nat) + 2)] = .ok (.vl (.int (b % ((E.length : Nat) + 2))), [some (.lst [.int (b / ((E.length : Nat) + 2))]), none]) := fun b => take2_ok (by omega) (by omega)
  have hlen : lenD [ln' E] = .ok (.int E.length) := by simp
  have hmu : D.shallow (ln' E) = true := by simp [nls_all]
  have hix : itD (ln' E) = .ok (E.map fun k : Nat => D.int (k : Nat)) := rfl
  generalize hX : ln' E = XE at hl hsd hlen hmu hix
  generalize hSt : lti (stands E.length) = XS at rd
  by_cases w0 : n1 % 3 = 0
  · obtain ⟨ts, n2, e2, l2, p2⟩ := comp_ex (tm := tmName 11) (t := cYes) (e := C.e__law_rule_2_1) (vs := [11]) (ws := []) ti D.int (fun b : Int => [some (.lst [.int b]), some (.int m), some (ln' L), some XE, o, some XS, some (.int 0), none, none, none, none, none]) (fun x : Int => 0 ≤ x ∧ x < 2) (stands E.length) (n1 / 3) (fun b st hst => by
      refine ⟨b % 2, b / 2, ?_, by omega, by simp⟩
      simp only [turnC, C.e__law_rule_2_1]
      simp [t2])
    refine ⟨(es.map (fun k : Nat => (k : Int)), ts), n2, ?_, rok ts (by rw [l2, sl]) p2⟩
    subst hSt
    simp only [C.g__law_rule_2, C.m__law_rule_2]
    generalize C.b__law_rule_2_1 = B1 at hl ⊢
    simp [e_fnD, t5, hM, rM, zM, rg, hl, shAt, chkO_ws, nls_rg, hmu, hlen, rd, t3, w0, hsd, zS, e2]
  · -- by how many of its ears
    have tab : ∀ (ss : List Int) (x0 x2 x6 : Option D) (le : Int) (o : Option D), ss.length = E.length → ∃ (ts : List Int) (o' : Option D), cCompL (tmName 11) cYes C.e__law_rule_2_5 [11] [] ((stands E.length).map ti) [x0, some (.int m), x2, some XE, o, some XS, x6, some (.lst (ss.map D.int)), some (.int le), none, none, none] = .ok (ts.map D.int, [x0, some (.int m), x2, some XE, o', some XS, x6, some (.lst (ss.map D.int)), some (.int le), none, none, none]) ∧ ts.length = 2 ^ E.length ∧ ∀ x ∈ ts, 0 ≤ x ∧ x < 2 := fun ss x0 x2 x6 le o hl => by
      obtain ⟨ts, o', e, l, p⟩ := comp_ex (tm := tmName 11) (t := cYes) (e := C.e__law_rule_2_5) (vs := [11]) (ws := []) ti D.int (fun o : Option D => [x0, some (.int m), x2, some XE, o, some XS, x6, some (.lst (ss.map D.int)), some (.int le), none, none, none]) (fun x : Int => 0 ≤ x ∧ x < 2) (stands E.length) o (fun o st hst => by
        have hs := stands_st hst
        have inner : cCompL (tmName 4) C.t__law_rule_2_4 C.e__law_rule_2_4 [4] [] ((List.range E.length).map fun k : Nat => D.int (k : Nat)) [x0, some (.int m), x2, some XE, none, some XS, x6, some (.lst (ss.map D.int)), some (.int le), none, none, some (ti st)] = .ok (((List.range E.length).filter fun k => decide (st.getD k 0 = ss.getD k 0)).map fun k : Nat => D.int (k : Nat), [x0, some (.int m), x2, some XE, none, some XS, x6, some (.lst (ss.map D.int)), some (.int le), none, none, some (ti st)]) :=
          comp_filter (fun k : Nat => D.int (k : Nat)) (fun k => decide (st.getD k 0 = ss.getD k 0)) (fun k : Nat => D.int (k : Nat)) (List.range E.length) (fun k hk => by
            have hk := List.mem_range.mp hk
            have a1 := atI_mapI (xs := st) (i := k) (by omega) (by rw [hs.len]; omega)
            have a2 := atI_mapI (xs := ss) (i := k) (by omega) (by omega)
            simp only [Int.toNat_natCast] at a1 a2
            simp only [turnC, C.t__law_rule_2_4, C.e__law_rule_2_4]
            simp [a1, a2, ixD, -List.getD_eq_getElem?_getD]
            split <;> rfl)
        refine ⟨if le ≤ (((List.range E.length).filter fun k => decide (st.getD k 0 = ss.getD k 0)).length : Nat) then 1 else 0, none, ?_, by split <;> omega, by simp⟩
        generalize ((List.range E.length).filter fun k => decide (st.getD k 0 = ss.getD k 0)) = Fl at inner ⊢
        simp only [turnC, C.e__law_rule_2_5]
        simp [hlen, rE, zE, inner])
      exact ⟨ts, o', e, by rw [l, sl], p⟩
    have ones : ∀ (x0 x2 x4 x6 x7 : Option D), cCompL (tmName 10) cYes C.e__law_rule_2_2 [10] [3] (E.map fun k : Nat => D.int (k : Nat)) [x0, some (.int m), x2, some XE, x4, some XS, x6, x7, none, none, none, none] = .ok ((E.map fun _ => (1 : Int)).map D.int, [x0, some (.int m), x2, some XE, x4, some XS, x6, x7, none, none, none, none]) := fun x0 x2 x4 x6 x7 => by
      rw [List.map_map]
      exact comp_map (fun k : Nat => D.int (k : Nat)) (fun _ => D.int 1) E fun k hk => by
        simp only [turnC, C.e__law_rule_2_2]
        simp
    by_cases w1 : n1 % 3 = 1
    · obtain ⟨ss, n2, e2, l2, p2⟩ := comp_ex (tm := tmName 10) (t := cYes) (e := C.e__law_rule_2_3) (vs := [10]) (ws := [3]) (fun k : Nat => D.int (k : Nat)) D.int (fun b : Int => [some (.lst [.int b]), some (.int m), some (ln' L), some XE, o, some XS, some (.int 1), some (.lst ((E.map fun _ => (1 : Int)).map D.int)), none, none, none, none]) (fun x : Int => True) E (n1 / 3) (fun b k hk => by
        refine ⟨b % 2, b / 2, ?_, trivial, by simp⟩
        simp only [turnC, C.e__law_rule_2_3]
        simp [t2])
      obtain ⟨ts, o', e3, l3, p3⟩ := tab ss (some (.lst [.int (n2 / ((E.length : Nat) + 2))])) (some (ln' L)) (some (.int 1)) (n2 % ((E.length : Nat) + 2)) o l2
      refine ⟨(es.map (fun k : Nat => (k : Int)), ts), n2 / ((E.length : Nat) + 2), ?_, rok ts l3 p3⟩
      subst hSt
      have on := ones (some (.lst [.int (n1 / 3)])) (some (ln' L)) o (some (.int 1)) none
      simp only [C.g__law_rule_2, C.m__law_rule_2]
      generalize C.b__law_rule_2_1 = B1 at hl ⊢
      generalize (E.map fun _ => (1 : Int)).map D.int = ON at on e2
      simp [e_fnD, t5, hM, rM, zM, rg, hl, shAt, chkO_ws, nls_rg, hmu, hlen, rd, t3, w1, hsd, zS, hix, zE, on, e2, tl, e3]
      trace_state
    · obtain ⟨ts, o', e3, l3, p3⟩ := tab (E.map fun _ => (1 : Int)) (some (.lst [.int (n1 / 3 / ((E.length : Nat) + 2))])) (some (ln' L)) (some (.int (n1 % 3))) (n1 / 3 % ((E.length : Nat) + 2)) o (by simp)
      refine ⟨(es.map (fun k : Nat => (k : Int)), ts), n1 / 3 / ((E.length : Nat) + 2), ?_, rok ts l3 p3⟩
      subst hSt
      have on := ones (some (.lst [.int (n1 / 3)])) (some (ln' L)) o (some (.int (n1 % 3))) none
      simp only [C.g__law_rule_2, C.m__law_rule_2]
      generalize C.b__law_rule_2_1 = B1 at hl ⊢
      generalize (E.map fun _ => (1 : Int)).map D.int = ON at on e3
      simp [e_fnD, t5, hM, rM, zM, rg, hl, shAt, chkO_ws, nls_rg, hmu, hlen, rd, t3, w0, w1, hsd, zS, hix, zE, on, tl, e3]
      trace_state
end H

set_option Elab.async false
set_option linter.all false
set_option maxRecDepth 100000
namespace H
open PySem PySem.Spec PyProof.Rows L2 Y
def tolI (r : RuleT) (st : List Int) : Int := r.2.getD (placeI st).toNat 0
structure RuleLk (r : RuleT) : Prop where
  len : r.1.length ≤ 8
  tab : r.2.length = 2 ^ r.1.length
  bit : ∀ x ∈ r.2, 0 ≤ x ∧ x < 2
theorem RuleOk.lk {m : Nat} {r : RuleT} (h : RuleOk m r) : RuleLk r := ⟨Nat.le_trans h.len (by omega), h.tab, h.bit⟩
theorem told_at_ok {r : RuleT} {st : List Int} (h : RuleLk r) (hs : IsSt r.1.length st) : C.g_told_at [dRule r, ti st] = .ok (.vl (.int (tolI r st))) := by
  have p := place_of_tup (xs := st) (by rw [hs.len]; have := h.len; omega)
  have b := placeI_lt hs.bit
  rw [hs.len] at b
  have a := atI_mapI (xs := r.2) b.1 (by rw [h.tab]; exact_mod_cast b.2)
  simp only [C.g_told_at, C.m_told_at]
  simp [e_fnP, ixD, atI_of (i := 1) (j := 1), p, a, tolI, -List.getD_eq_getElem?_getD]
theorem tol_bit {r : RuleT} {st : List Int} (h : RuleLk r) : 0 ≤ tolI r st ∧ tolI r st < 2 := getD_bit h.bit _
theorem numD_map {α : Type} {f : α → D} {xs : List α} : numD (xs.map f) = ((List.range xs.length).zip xs).map fun p => D.tup [.int (p.1 : Nat), f p.2] := by
  unfold numD
  rw [List.length_map, pairsD_map]
end H

set_option Elab.async false
set_option linter.all false
set_option maxRecDepth 100000
namespace H
open PySem PySem.Spec PyProof.Rows L2 Y
end H

set_option Elab.async false
set_option linter.all false
set_option maxRecDepth 100000
namespace H
open PySem PySem.Spec PyProof.Rows L2 Y
theorem extend : ∀ (es : List Nat) (bs : List Int) (g : Nat → Int), es.Nodup → es.length = bs.length → ∃ h : Nat → Int, es.map h = bs ∧ ∀ j, j ∉ es → h j = g j
  | [], bs, g, _, hl => ⟨g, by rw [List.map_nil]; exact (List.eq_nil_of_length_eq_zero hl.symm).symm, fun _ _ => rfl⟩
  | e :: es, [], g, _, hl => by simp at hl
  | e :: es, b :: bs, g, hn, hl => by
    obtain ⟨hn1, hn2⟩ := List.nodup_cons.mp hn
    obtain ⟨h, h1, h2⟩ := extend es bs g hn2 (by simpa using hl)
    refine ⟨fun j => if j = e then b else h j, ?_, fun j hj => ?_⟩
    · rw [List.map_cons, if_pos rfl, ← h1]
      congr 1
      refine List.map_congr_left fun j hj => ?_
      show (if j = e then b else h j) = h j
      rw [if_neg fun q : j = e => hn1 (q ▸ hj)]
    · show (if j = e then b else h j) = g j
      rw [if_neg fun q => hj (by simp [q]), h2 j fun q => hj (by simp [q])]
structure EarsOk (m : Nat) (r : RuleT) : Prop where
  sub : ∃ es : List Nat, r.1 = es.map (fun j : Nat => (j : Int)) ∧ es.Nodup ∧ ∀ j ∈ es, j < m
theorem RuleOk.ears {m : Nat} {r : RuleT} (h : RuleOk m r) : EarsOk m r := by
  obtain ⟨es, e1, s⟩ := h.sub
  exact ⟨es, e1, s.nodup List.nodup_range, fun j hj => List.mem_range.mp (s.subset hj)⟩
end H

set_option Elab.async false
set_option linter.all false
set_option maxRecDepth 100000
namespace H
open PySem PySem.Spec PyProof.Rows L2 Y
abbrev li (xs : List Int) : D := .lst (xs.map D.int)
theorem NetOk.lk {ns : List RuleT} {most k : Nat} (h : NetOk ns most) (hk : k < ns.length) : RuleOk ns.length (ns.getD k ([], [])) := by
  rw [List.getD_eq_getElem?_getD, List.getElem?_eq_getElem hk]
  exact h.rule _ (List.getElem_mem hk)
end H

set_option Elab.async false
set_option linter.all false
set_option maxRecDepth 100000
namespace H
open PySem PySem.Spec PyProof.Rows L2 Y
end H

set_option Elab.async false
set_option linter.all false
set_option maxRecDepth 100000
namespace H
open PySem PySem.Spec PyProof.Rows L2 Y
def Nd : Nat → D → Prop
  | 0, d => noDit d = true
  | n + 1, d => noDit d = true ∧ ∀ xs, d = .tup xs → xs.length ≤ 1000000 ∧ ∀ x ∈ xs, Nd n x
theorem Nd.no : ∀ {n : Nat} {d : D}, Nd n d → noDit d = true
  | 0, _, h => h
  | _ + 1, _, h => h.1
theorem Nd.down : ∀ {n : Nat} {d : D}, Nd (n + 1) d → Nd n d
  | 0, _, h => h.1
  | n + 1, _, h => ⟨h.1, fun xs e => ⟨(h.2 xs e).1, fun x hx => Nd.down ((h.2 xs e).2 x hx)⟩⟩
theorem nd_flat {n : Nat} {d : D} (h : noDit d = true) (h2 : ∀ xs, d ≠ .tup xs) : Nd n d := by
  cases n with
  | zero => exact h
  | succ n => exact ⟨h, fun xs e => absurd e (h2 xs)⟩
@[simp] theorem nd_int {n : Nat} {i : Int} : Nd n (.int i) := nd_flat rfl (by simp)
@[simp] theorem nd_bl {n : Nat} {b : Bool} : Nd n (.bl b) := nd_flat rfl (by simp)
@[simp] theorem nd_non {n : Nat} : Nd n .non := nd_flat rfl (by simp)
@[simp] theorem nd_str {n : Nat} {x : Str} : Nd n (.str x) := nd_flat rfl (by simp)
@[simp] theorem nd_lst {n : Nat} {x : List D} : Nd n (.lst x) := nd_flat rfl (by simp)
@[simp] theorem nd_dik {n : Nat} {k : List Key} {x : List D} : Nd n (.dik k x) := nd_flat rfl (by simp)
theorem Nd.tup {n : Nat} {xs : List D} (h : Nd (n + 1) (.tup xs)) : xs.length ≤ 1000000 ∧ ∀ x ∈ xs, Nd n x := h.2 xs rfl
def whB : D → Bool
  | .int _ => true | _ => false
end H

set_option Elab.async false
set_option linter.all false
set_option maxRecDepth 100000
namespace H
open PySem PySem.Spec PyProof.Rows L2 Y
end H

set_option Elab.async false
set_option linter.all false
set_option maxRecDepth 100000
namespace H
open PySem PySem.Spec PyProof.Rows L2 Y
inductive Pap where
  | rest | against (k : Nat) | split (k : Nat) (a b : Pap)
abbrev wRest : D := dt [114, 101, 115, 116]
abbrev wAg : D := dt [97, 103, 97, 105, 110, 115, 116]
abbrev wSplit : D := dt [115, 112, 108, 105, 116]
def Pap.d : Pap → D
  | .rest => .tup [wRest]
  | .against k => .tup [wAg, .int k]
  | .split k a b => .tup [wSplit, .int k, a.d, b.d]
def Pap.ok (m : Nat) : Pap → Prop
  | .rest => True
  | .against k => k < m
  | .split k a b => k < m ∧ a.ok m ∧ b.ok m
def sign (f : List Nat) (k c : Nat) : List Nat := f.take k ++ c :: f.drop (k + 1)
def both (x y : Option (List (List Int))) : Option (List (List Int)) := match x with
  | none => none
  | some a => match y with
    | none => none
    | some b => some (a ++ b)
end H

set_option Elab.async false
set_option linter.all false
set_option maxRecDepth 100000
namespace H
open PySem PySem.Spec PyProof.Rows L2 Y
end H

set_option Elab.async false
set_option linter.all false
set_option maxRecDepth 100000
namespace H
open PySem PySem.Spec PyProof.Rows L2 Y
theorem ne_lnn {xs : List Nat} : neD (ln' xs) (.lst []) = .ok (.bl (!xs.isEmpty)) := by
  rw [neD_of (n := 2) fit_ln fit_nil, eqP_lst, eqPs_nil]; simp
theorem nin_of {x y : D} {b : Bool} (h : inD x y = .ok (.bl b)) : ninD x y = .ok (.bl (!b)) := by
  unfold inD at h
  unfold ninD
  cases e : inB x y with
  | none => rw [e] at h; cases h
  | some c => rw [e] at h; cases h; rfl
end H

set_option Elab.async false
set_option linter.all false
set_option maxRecDepth 100000
namespace H
open PySem PySem.Spec PyProof.Rows L2 Y
end H

set_option Elab.async false
set_option linter.all false
set_option maxRecDepth 100000
namespace H
open PySem PySem.Spec PyProof.Rows L2 Y
def flipI (st : List Int) (k : Nat) : List Int := withI st k (1 - st.getD k 0)
def addS (L : List (List Int)) (t : List Int) : List (List Int) := if t ∈ L then L else L ++ [t]
def nextI (ns : List RuleT) (st : List Int) : List (List Int) := (wrongI ns st).map (flipI st)
def stepS (ns : List RuleT) (L : List (List Int)) (st : List Int) : List (List Int) := (nextI ns st).foldl addS L
structure InS (m : Nat) (L : List (List Int)) : Prop where
  nd : L.Nodup
  st : ∀ x ∈ L, IsSt m x
theorem nodup_len {α : Type} [DecidableEq α] : ∀ {A B : List α}, A.Nodup → (∀ x ∈ A, x ∈ B) → A.length ≤ B.length
  | [], B, _, _ => by simp
  | x :: A, B, h, s => by
    obtain ⟨h1, h2⟩ := List.nodup_cons.mp h
    have hx := s x (by simp)
    have ih := nodup_len (A := A) (B := B.erase x) h2 fun y hy => (List.mem_erase_of_ne fun z : y = x => h1 (by rw [← z]; exact hy)).mpr (s y (by simp [hy]))
    rw [List.length_erase_of_mem hx] at ih
    have : 0 < B.length := List.length_pos_of_mem hx
    rw [List.length_cons]
    omega
theorem InS.len {m : Nat} {L : List (List Int)} (h : InS m L) : L.length ≤ 2 ^ m := by
  have := nodup_len h.nd (B := stands m) fun x hx => mem_stands.mpr (h.st x hx)
  rwa [stands_len] at this
theorem InS.add {m : Nat} {L : List (List Int)} {t : List Int} (h : InS m L) (ht : IsSt m t) : InS m (addS L t) := by
  unfold addS
  by_cases c : t ∈ L
  · rwa [if_pos c]
  · rw [if_neg c]
    refine ⟨List.nodup_append.mpr ⟨h.nd, by simp, fun a ha b hb z => ?_⟩, fun x hx => ?_⟩
    · rw [List.mem_singleton] at hb
      exact c (by rw [← hb, ← z]; exact ha)
    · rcases List.mem_append.mp hx with hx | hx
      · exact h.st x hx
      · rw [List.mem_singleton] at hx
        rw [hx]; exact ht
theorem flip_st {m k : Nat} {st : List Int} (h : IsSt m st) (hk : k < m) : IsSt m (flipI st k) := by
  have g := h.get k
  refine ⟨?_, fun x hx => ?_⟩
  · unfold flipI withI
    rw [List.length_append, List.length_cons, List.length_take, List.length_drop, h.len]
    omega
  · unfold flipI withI at hx
    rcases List.mem_append.mp hx with hx | hx
    · exact h.bit x (List.mem_of_mem_take hx)
    · rcases List.mem_cons.mp hx with rfl | hx
      · omega
      · exact h.bit x (List.mem_of_mem_drop hx)
theorem wrong_lt {ns : List RuleT} {st : List Int} {k : Nat} (h : k ∈ wrongI ns st) : k < ns.length := by
  unfold wrongI at h
  exact List.mem_range.mp (List.mem_filter.mp h).1
theorem InS.step {ns : List RuleT} {L : List (List Int)} {st : List Int} (h : InS ns.length L) (hs : IsSt ns.length st) : InS ns.length (stepS ns L st) := by
  have : ∀ (ts : List (List Int)) (L : List (List Int)), InS ns.length L → (∀ t ∈ ts, IsSt ns.length t) → InS ns.length (ts.foldl addS L) := fun ts => by
    induction ts with
    | nil => intro L h _; exact h
    | cons t ts ih => intro L h ht; exact ih _ (h.add (ht t (by simp))) fun x hx => ht x (by simp [hx])
  refine this _ L h fun t ht => ?_
  obtain ⟨k, hk, rfl⟩ := List.mem_map.mp ht
  exact flip_st hs (wrong_lt hk)
abbrev kt (t : List Int) : List Key := t.map Sum.inl
theorem keys_ti : ∀ t : List Int, keysOf (t.map D.int) = some (kt t)
  | [] => rfl
  | x :: t => by
    rw [List.map_cons]
    unfold keysOf
    rw [keys_ti t]
    rfl
theorem kt_inj {a b : List Int} : kt a = kt b ↔ a = b := ⟨fun h => by
  have := congrArg (List.map fun k : Key => match k with | Sum.inl i => i | Sum.inr _ => 0) h
  simpa [kt, List.map_map, Function.comp_def] using this, fun h => by rw [h]⟩
theorem find_kt : ∀ {L : List (List Int)} {ds : List D} {t : List Int}, L.length = ds.length → (findD (L.map kt) ds (kt t)).isSome = decide (t ∈ L)
  | [], ds, t, _ => by simp [findD]
  | a :: L, [], t, h => by simp at h
  | a :: L, d :: ds, t, h => by
    have ih := find_kt (L := L) (ds := ds) (t := t) (by simpa using h)
    rw [List.map_cons]
    unfold findD
    by_cases c : a = t
    · rw [if_pos (kt_inj.mpr c)]; simp [c]
    · rw [if_neg fun z => c (kt_inj.mp z), ih]
      have : ¬ t = a := fun z => c z.symm
      simp [this]
theorem get_kt {L : List (List Int)} {ds : List D} {t : List Int} : getDic (.dit (L.map kt) ds) (ti t) = .ok (findD (L.map kt) ds (kt t)) := by
  show (match keysOf (t.map D.int) with | some k => _ | none => _) = _
  rw [keys_ti]
theorem put_kt {L : List (List Int)} {ds : List D} {t : List Int} {d : D} (h : t ∉ L) (hz : L.length + 1 ≤ 10000000) : putDic (.dit (L.map kt) ds) (ti t) d = .ok (.dit ((L ++ [t]).map kt) (ds ++ [d])) := by
  have n : kt t ∉ L.map kt := fun z => by
    obtain ⟨j, hj, e⟩ := List.mem_map.mp z
    exact h (by rw [← kt_inj.mp e]; exact hj)
  show (match keysOf (t.map D.int) with | some k => if szOk ((L.map kt).length + 1) = true then R.ok (D.dit (putKs (L.map kt) k) (putDs (L.map kt) ds k d)) else .stk | none => .stk) = _
  rw [keys_ti]
  have z : szOk ((L.map kt).length + 1) = true := szOk_of (by rw [List.length_map]; omega)
  simp only [z, if_true]
  unfold putKs putDs
  rw [if_neg n, if_neg n, List.map_append]
  rfl
end H

set_option Elab.async false
set_option linter.all false
set_option maxRecDepth 100000
namespace H
open PySem PySem.Spec PyProof.Rows L2 Y
theorem pow20 {m : Nat} (hm : m ≤ 20) : 2 ^ m ≤ 1048576 := Nat.le_trans (Nat.pow_le_pow_right (by omega) hm) (by decide)
end H

set_option Elab.async false
set_option linter.all false
set_option maxRecDepth 100000
namespace H
open PySem PySem.Spec PyProof.Rows L2 Y
end H

set_option Elab.async false
set_option linter.all false
set_option maxRecDepth 100000
namespace H
open PySem PySem.Spec PyProof.Rows L2 Y
theorem addS_mem {t x : List Int} {L : List (List Int)} : x ∈ addS L t ↔ x ∈ L ∨ x = t := by
  unfold addS
  split
  · rename_i c
    exact ⟨.inl, fun h => h.elim id fun e => e ▸ c⟩
  · rw [List.mem_append, List.mem_singleton]
theorem alike_ints : ∀ {a b : List Int}, PySem.W.alikeAll (toPys (a.map D.int)) (toPys (b.map D.int)) = true
  | [], _ => by simp [toPys, PySem.W.alikeAll]
  | _ :: _, [] => by simp [toPys, PySem.W.alikeAll]
  | x :: xs, y :: ys => by
    have ih := alike_ints (a := xs) (b := ys)
    simp only [List.map_cons, toPys, toPy, PySem.W.alikeAll, PySem.W.alike, ih, Bool.and_self]
end H

set_option Elab.async false
set_option linter.all false
set_option maxRecDepth 100000
namespace H
open PySem PySem.Spec PyProof.Rows L2 Y
theorem find_map {f : List Int → D} {t : List Int} : ∀ {L : List (List Int)}, t ∈ L → findD (L.map kt) (L.map f) (kt t) = some (f t)
  | [], h => by cases h
  | a :: L, h => by
    rw [List.map_cons, List.map_cons]
    unfold findD
    by_cases c : a = t
    · rw [if_pos (kt_inj.mpr c), c]
    · rw [if_neg fun z => c (kt_inj.mp z)]
      exact find_map ((List.mem_cons.mp h).resolve_left fun z => c z.symm)
end H

set_option Elab.async false
set_option linter.all false
set_option maxRecDepth 100000
namespace H
open PySem PySem.Spec PyProof.Rows L2 Y
end H

set_option Elab.async false
set_option linter.all false
set_option maxRecDepth 100000
namespace H
open PySem PySem.Spec PyProof.Rows L2 Y
end H

set_option Elab.async false
set_option linter.all false
set_option maxRecDepth 100000
namespace H
open PySem PySem.Spec PyProof.Rows L2 Y
end H

set_option Elab.async false
set_option linter.all false
set_option maxRecDepth 100000
namespace H
open PySem PySem.Spec PyProof.Rows L2 Y
end H

set_option Elab.async false
set_option linter.all false
set_option maxRecDepth 100000
namespace H
open PySem PySem.Spec PyProof.Rows L2 Y
theorem nl_net {ns : List RuleT} : (dNet ns).nl = true := by
  rw [nlT]
  refine nls_all fun d hd => ?_
  obtain ⟨r, _, rfl⟩ := List.mem_map.mp hd
  rw [nlT]
  simp
end H

set_option Elab.async false
set_option linter.all false
set_option maxRecDepth 100000
namespace H
open PySem PySem.Spec PyProof.Rows L2 Y
theorem nin_ints {x : Int} {xs : List Int} : ninD (.int x) (.lst (xs.map D.int)) = .ok (.bl (!decide (x ∈ xs))) := by
  have c1 : dOk (.int x) = true := dOk_fit (n := 1) fit_int
  have c2 : dOk (.lst (xs.map D.int)) = true := dOk_fit (n := 1) fit_lstI
  have e : ((xs.map D.int).any fun z => eqP z (.int x)) = decide (x ∈ xs) := by
    rw [List.any_map, Bool.eq_iff_iff, List.any_eq_true, decide_eq_true_eq]
    constructor
    · rintro ⟨y, hy, h⟩
      have : eqP (.int y) (.int x) = true := h
      rw [eqP_int, beq_iff_eq] at this
      rw [← this]; exact hy
    · intro h
      exact ⟨x, h, by show eqP (.int x) (.int x) = true; rw [eqP_int]; simp⟩
  show (match (if (dOk (.int x) && dOk (.lst (xs.map D.int))) = true then some ((xs.map D.int).any fun z => eqP z (.int x)) else none) with | some b => R.ok (D.bl (!b)) | none => .stk) = _
  rw [c1, c2, e]
  rfl
end H

set_option Elab.async false
set_option linter.all false
set_option maxRecDepth 100000
namespace H
open PySem PySem.Spec PyProof.Rows L2 Y
structure NetM (m : Nat) (ns : List RuleT) : Prop where
  len : ns.length = m
  rule : ∀ r ∈ ns, RuleOk m r
theorem NetM.good {m : Nat} {ns : List RuleT} (h : NetM m ns) (hm : m ≤ 100) : GoodNet ns where
  sz := by rw [h.len]; exact hm
  ear := fun r hr => by
    have k := h.rule r hr
    refine ⟨by have := k.len; omega, fun e he => ?_, k.tab⟩
    obtain ⟨es, e1, sub⟩ := k.sub
    rw [e1] at he
    obtain ⟨j, hj, rfl⟩ := List.mem_map.mp he
    have := List.mem_range.mp (sub.subset hj)
    rw [h.len]
    omega
theorem NetM.at {m k : Nat} {ns : List RuleT} (h : NetM m ns) (hk : k < m) : RuleOk m (ns.getD k ([], [])) := by
  rw [List.getD_eq_getElem?_getD, List.getElem?_eq_getElem (by rw [h.len]; exact hk)]
  exact h.rule _ (List.getElem_mem _)
theorem NetM.bit {m k : Nat} {ns : List RuleT} {st : List Int} (h : NetM m ns) (hk : k < m) : oughtI ns st k = 0 ∨ oughtI ns st k = 1 := by
  have := getD_bit (h.at hk).bit (placeI ((ns.getD k ([], [])).1.map fun e => st.getD e.toNat 0)).toNat
  unfold oughtI tellI
  omega
theorem told_ok {ns : List RuleT} {st : List Int} {k : Nat} (g : GoodNet ns) (hs : IsSt ns.length st) (hk : k < ns.length) : C.g__law_told [dNet ns, ti st, .int k] = .ok (.vl (.int (oughtI ns st k))) := by
  obtain ⟨h1, h2, h3⟩ := g.at hk
  have h5 := read_lt hs (ns.getD k ([], [])).1
  have h6 := atI_mapI (xs := (ns.getD k ([], [])).2) h5.1 (by rw [h3]; exact_mod_cast h5.2)
  have zE : szOk (ns.getD k ([], [])).1.length = true := szOk_of (by omega)
  have na := net_at hk
  have ho : oughtI ns st k = (ns.getD k ([], [])).2.getD (placeI ((ns.getD k ([], [])).1.map fun e => st.getD e.toNat 0)).toNat 0 := rfl
  rw [ho]
  clear ho
  generalize ns.getD k ([], []) = r at *
  obtain ⟨E, Tb⟩ := r
  simp only at h1 h2 h3 h5 h6 zE
  show _ = R.ok (Hd.vl (D.int (Tb.getD (placeI (E.map fun e => st.getD e.toNat 0)).toNat 0)))
  have h4 := for_run (tm := tmName 6) (body := C.b__law_told_1) (vs := [6]) (ws := []) D.int (fun p : Int => [some (dNet ns), some (ti st), some (.int k), some (ti E), some (ti Tb), some (.int p), none]) (fun p e => 2 * p + st.getD e.toNat 0) (fun _ => True) E 0 trivial (fun p e _ he => by
    have := h2 e he
    have ml : mulOk 2 p = true := mulOk_l (by decide)
    refine ⟨trivial, by simp, ?_⟩
    simp only [turnF, C.b__law_told_1]
    simp [atI_mapI this.1 (by rw [hs.len]; exact this.2), ml, -List.getD_eq_getElem?_getD])
  have hf : E.foldl (fun p e => 2 * p + st.getD e.toNat 0) 0 = placeI (E.map fun e => st.getD e.toNat 0) := by rw [placeI, List.foldl_map]
  rw [hf] at h4
  simp only [C.g__law_told, C.m__law_told]
  simp [e_fnP, na, zE, h4.1, h6, -List.getD_eq_getElem?_getD]
inductive Tree where
  | is (i : Int) | look (st : List Int) (k : Nat) (a b : Tree)
abbrev wIs : D := dt [105, 115]
abbrev wLk : D := dt [108, 111, 111, 107]
def Tree.d : Tree → D
  | .is i => .tup [wIs, .int i]
  | .look st k a b => .tup [wLk, ti st, .int k, a.d, b.d]
def Tree.ok (m : Nat) : Tree → Prop
  | .is _ => True
  | .look st k a b => IsSt m st ∧ k < m ∧ a.ok m ∧ b.ok m
theorem i2 {a b : D} : atI [a, b] 0 = some a ∧ atI [a, b] 1 = some b := ⟨atI_of (j := 0) rfl rfl, atI_of (j := 1) rfl rfl⟩
theorem whileN_step {t : BM} {body : SM} {vs : List Nat} {n : Nat} {ρ ρ1 ρ2 : Y.Env} (h1 : t ρ = .ok (true, ρ1)) (h2 : body ρ1 = .ok (.nx, ρ2)) : whileN t body vs (n + 1) ρ = whileN t body vs n (wipeE ρ2 vs) := by
  conv => lhs; unfold whileN
  rw [h1]
  simp only [R.bind_ok, if_true]
  rw [h2]
  rfl
theorem whileN_stop {t : BM} {body : SM} {vs : List Nat} {n : Nat} {ρ ρ1 : Y.Env} (h1 : t ρ = .ok (false, ρ1)) : whileN t body vs (n + 1) ρ = .ok (.nx, ρ1) := by
  unfold whileN
  rw [h1]
  rfl
end H

set_option Elab.async false
set_option linter.all false
set_option maxRecDepth 100000
namespace H
open PySem PySem.Spec PyProof.Rows L2 Y
end H

set_option Elab.async false
set_option linter.all false
set_option maxRecDepth 100000
namespace H
open PySem PySem.Spec PyProof.Rows L2 Y
end H

set_option Elab.async false
set_option linter.all false
set_option maxRecDepth 100000
namespace H
open PySem PySem.Spec PyProof.Rows L2 Y
section
variable {ns : List RuleT} {o : List (List Nat)}
end
end H

set_option Elab.async false
set_option linter.all false
set_option maxRecDepth 100000
namespace H
open PySem PySem.Spec PyProof.Rows L2 Y
theorem whs_ints : ∀ {xs : List D}, xs.all whB = true → ∃ is : List Int, xs = is.map D.int
  | [], _ => ⟨[], rfl⟩
  | x :: xs, h => by
    rw [List.all_cons, Bool.and_eq_true] at h
    obtain ⟨is, e⟩ := whs_ints h.2
    cases x with
    | int i => exact ⟨i :: is, by rw [e]; rfl⟩
    | _ => exact absurd h.1 (by simp [whB])
def rgI (n : Nat) : List Int := (List.range n).map fun k : Nat => (k : Int)
theorem law_whole2_any {d : D} (h : noDit d = true) : C.g__law_whole_2 [d] = .ok (.fr (.bl (whB d))) := by
  cases d <;> simp [noDit] at h <;> simp [C.g__law_whole_2, C.m__law_whole_2, e_fnP, noDit, Y.isInt, Y.isBl, whB]
end H

set_option Elab.async false
set_option linter.all false
set_option maxRecDepth 100000
namespace H
open PySem PySem.Spec PyProof.Rows L2 Y
end H

set_option Elab.async false
set_option linter.all false
set_option maxRecDepth 100000
namespace H
open PySem PySem.Spec PyProof.Rows L2 Y
theorem in_li {x : Int} {xs : List Int} : inD (.int x) (li xs) = .ok (.bl (decide (x ∈ xs))) := by
  have c1 : dOk (.int x) = true := dOk_fit (n := 1) fit_int
  have c2 : dOk (.lst (xs.map D.int)) = true := dOk_fit (n := 1) fit_lstI
  have e : ((xs.map D.int).any fun z => eqP z (.int x)) = decide (x ∈ xs) := by
    rw [List.any_map, Bool.eq_iff_iff, List.any_eq_true, decide_eq_true_eq]
    constructor
    · rintro ⟨y, hy, h⟩
      have h : eqP (.int y) (.int x) = true := h
      rw [eqP_int, beq_iff_eq] at h
      exact h ▸ hy
    · exact fun h => ⟨x, h, by show eqP (.int x) (.int x) = true; rw [eqP_int]; simp⟩
  show (match (if (dOk (.int x) && dOk (.lst (xs.map D.int))) = true then some ((xs.map D.int).any fun z => eqP z (.int x)) else none) with | some b => R.ok (D.bl b) | none => .stk) = _
  rw [c1, c2, e]
  rfl
end H

set_option Elab.async false
set_option linter.all false
set_option maxRecDepth 100000
namespace H
open PySem PySem.Spec PyProof.Rows L2 Y
theorem RuleOk.up {m k : Nat} {r : RuleT} (h : RuleOk k r) (hk : k ≤ m) : RuleOk m r := ⟨h.len, let ⟨es, e, s⟩ := h.sub; ⟨es, e, s.trans (by
  obtain ⟨d, rfl⟩ : ∃ d, m = k + d := ⟨m - k, by omega⟩
  rw [List.range_add]
  exact List.sublist_append_left _ _)⟩, h.tab, h.bit⟩
theorem RuleOk.nats {m : Nat} {r : RuleT} (h : RuleOk m r) : ∃ es : List Nat, r.1 = es.map (fun j : Nat => (j : Int)) ∧ es.Nodup ∧ ∀ x ∈ es, x < m := by
  obtain ⟨es, e, s⟩ := h.sub
  exact ⟨es, e, s.nodup List.nodup_range, fun x hx => List.mem_range.mp (s.subset hx)⟩
def mirI (m : Nat) (r : RuleT) : RuleT := (sortI (r.1.map fun e => (m : Int) - 1 - e), r.2)
theorem mir_ok {m : Nat} {r : RuleT} (h : RuleOk m r) : RuleOk m (mirI m r) := by
  obtain ⟨es, e, nd, lt⟩ := h.nats
  have e2 : (r.1.map fun e => (m : Int) - 1 - e) = (es.map fun k => m - 1 - k).map fun k : Nat => (k : Int) := by
    rw [e, List.map_map, List.map_map]
    exact List.map_congr_left fun k hk => by
      have := lt k hk
      show (m : Int) - 1 - (k : Nat) = ((m - 1 - k : Nat) : Int)
      omega
  have nd2 : (es.map fun k => m - 1 - k).Nodup := by
    refine List.pairwise_map.mpr (List.Pairwise.imp_of_mem (fun {a b} ha hb hne z => hne ?_) nd)
    have := lt a ha
    have := lt b hb
    omega
  obtain ⟨fs, h1, h2, h3⟩ := sort_sub nd2 (m := m) fun x hx => by
    obtain ⟨k, hk, rfl⟩ := List.mem_map.mp hx
    have := lt k hk
    omega
  have hl : r.1.length = es.length := by rw [e, List.length_map]
  have hf : fs.length = es.length := by rw [h3, List.length_map]
  have s1 : (mirI m r).1 = fs.map fun k : Nat => (k : Int) := by
    show sortI _ = _
    rw [e2, h1]
  refine ⟨?_, ⟨fs, s1, h2⟩, ?_, h.bit⟩
  · rw [s1, List.length_map, hf, ← hl]; exact h.len
  · show r.2.length = _
    rw [s1, List.length_map, hf, ← hl]; exact h.tab
theorem drawn2_ok {n : Int} {most : Nat} (h0 : 1 ≤ most) (h1 : most ≤ 20) : ∃ (ns : List RuleT) (n' : Int), C.g__law_drawn [.lst [.int n], .int most] = .ok (.fr (dNet ns), [some (.lst [.int n']), none]) ∧ NetOk ns most := by
  have tk := take2_ok (n := n) (m := most) (by omega) (by omega)
  obtain ⟨M, hM⟩ : ∃ M : Nat, 1 + n % (most : Int) = M := ⟨(1 + n % (most : Int)).toNat, by have := Int.emod_nonneg n (b := (most : Int)) (by omega); omega⟩
  have hM1 : 1 ≤ M ∧ M ≤ most := by
    have := Int.emod_nonneg n (b := (most : Int)) (by omega)
    have := Int.emod_lt_of_pos n (b := (most : Int)) (by omega)
    omega
  have tk4 := take2_ok (n := n / most) (m := 4) (by omega) (by omega)
  have rM : rngOk M = true := rngOk_of (by omega) (by omega)
  have zM : szOk M = true := szOk_of (by omega)
  generalize hw : n / (most : Int) % 4 = w at tk4
  generalize n / (most : Int) / 4 = b0 at tk4
  by_cases w1 : 1 < w
  · obtain ⟨ns, n2, e, hl, hr⟩ := comp_ex (tm := tmName 5) (t := cYes) (e := C.e__law_drawn_1) (vs := [5]) (ws := []) (fun j : Nat => D.int (j : Nat)) dRule (fun b : Int => [some (.lst [.int b]), some (.int most), some (.int M), some (.int w), none, none, none, none, none]) (RuleOk M) (List.range M) b0 (fun b j hj => by
      obtain ⟨r, b2, e, hr⟩ := rule2_any (n := b) (m := M) (by omega)
      refine ⟨r, b2, ?_, hr, by simp⟩
      simp only [turnC, C.e__law_drawn_1]
      simp [e])
    rw [List.length_range] at hl
    refine ⟨ns, n2, ?_, ⟨by omega, by omega, by rw [hl]; exact hr⟩⟩
    simp only [C.g__law_drawn, C.m__law_drawn]
    simp [e_fnD, tk, tk4, hM, rM, zM, e, w1]
  · obtain ⟨ns, n2, e, hl, hr⟩ := comp_ex (tm := tmName 5) (t := cYes) (e := C.e__law_drawn_2) (vs := [5]) (ws := []) (fun j : Nat => D.int (j : Nat)) dRule (fun b : Int => [some (.lst [.int b]), some (.int most), some (.int M), some (.int w), none, none, none, none, none]) (RuleOk M) (List.range M) b0 (fun b j hj => by
      have hj := List.mem_range.mp hj
      obtain ⟨r, b2, e, hr⟩ := rule2_any (n := b) (m := j) (by omega)
      refine ⟨r, b2, ?_, hr.up (by omega), by simp⟩
      simp only [turnC, C.e__law_drawn_2]
      simp [e])
    rw [List.length_range] at hl
    by_cases w2 : w = 1
    · have e3 : cCompL (tmTup [6, 7]) cYes C.e__law_drawn_4 [6, 7] [] (ns.reverse.map dRule) [some (.lst [.int n2]), some (.int most), some (.int M), some (.int w), some (.lst (ns.map dRule)), none, none, none, none] = .ok (ns.reverse.map fun r => dRule (mirI M r), [some (.lst [.int n2]), some (.int most), some (.int M), some (.int w), some (.lst (ns.map dRule)), none, none, none, none]) :=
        comp_map dRule (fun r => dRule (mirI M r)) ns.reverse fun r hr0 => by
          have ok := hr r (List.mem_reverse.mp hr0)
          have inner := comp_map (tm := tmName 8) (t := cYes) (e := C.e__law_drawn_3) (vs := [8]) (ws := []) (ρ := [some (.lst [.int n2]), some (.int most), some (.int M), some (.int w), some (.lst (ns.map dRule)), none, some (ti r.1), some (ti r.2), none]) D.int (fun e => D.int ((M : Int) - 1 - e)) r.1 fun x hx => by
            simp only [turnC, C.e__law_drawn_3]
            simp
          have em : (r.1.map fun e => D.int ((M : Int) - 1 - e)) = (r.1.map fun e => (M : Int) - 1 - e).map D.int := by rw [List.map_map]; rfl
          rw [em] at inner
          have sd := d_sortN (xs := r.1.map fun e => (M : Int) - 1 - e)
          have zr : szOk r.1.length = true := szOk_of (by have := ok.len; omega)
          simp only [turnC, C.e__law_drawn_4]
          unfold mirI
          have lr := ok.len
          clear em
          generalize (r.1.map fun e => (M : Int) - 1 - e) = X at *
          simp [inner, sd, zr]
      have rv : revD (.lst (ns.map dRule)) = .ok (.lst (ns.reverse.map dRule)) := by rw [List.map_reverse]; rfl
      have zn : szOk ns.length = true := szOk_of (by omega)
      refine ⟨ns.reverse.map (mirI M), n2, ?_, ⟨by simp; omega, by simp; omega, fun r hr0 => ?_⟩⟩
      · subst w2
        have em : ((ns.reverse.map (mirI M)).map dRule) = ns.reverse.map fun r => dRule (mirI M r) := by rw [List.map_map]; rfl
        have lr : (ns.reverse.map dRule).length = ns.length := by simp
        have lr2 : (ns.reverse.map fun r => dRule (mirI M r)).length = ns.length := by simp
        show _ = R.ok (Hd.fr (.tup ((ns.reverse.map (mirI M)).map dRule)), _)
        rw [em]
        clear em
        generalize (ns.reverse.map fun r => dRule (mirI M r)) = R2 at *
        generalize ns.reverse.map dRule = R1 at *
        rw [← lr] at zn
        have zn2 : szOk R2.length = true := by rw [lr2, ← lr]; exact zn
        simp only [C.g__law_drawn, C.m__law_drawn]
        simp [e_fnD, tk, tk4, hM, rM, zM, e, rv, e3, zn, zn2, -d_revL]
      · obtain ⟨r', h', rfl⟩ := List.mem_map.mp hr0
        rw [List.length_map, List.length_reverse, hl]
        exact mir_ok (hr r' (List.mem_reverse.mp h'))
    · refine ⟨ns, n2, ?_, ⟨by omega, by omega, by rw [hl]; exact hr⟩⟩
      simp only [C.g__law_drawn, C.m__law_drawn]
      simp [e_fnD, tk, tk4, hM, rM, zM, e, w1, w2]
end H

set_option Elab.async false
set_option linter.all false
set_option maxRecDepth 100000
namespace H
open PySem PySem.Spec PyProof.Rows L2 Y
/-- a reading is that of some stand -/
theorem real_stand {es : List Nat} {m : Nat} {rd : List Int} (nd : es.Nodup) (hr : IsSt es.length rd) (lt : ∀ x ∈ es, x < m) : ∃ st, IsSt m st ∧ es.map (fun e => st.getD e 0) = rd := by
  refine ⟨(List.range m).map fun j => if j ∈ es then rd.getD (es.idxOf j) 0 else 0, ⟨by simp, fun x hx => ?_⟩, ?_⟩
  · obtain ⟨j, _, rfl⟩ := List.mem_map.mp hx
    split
    · exact hr.get _
    · omega
  · refine List.ext_getElem (by rw [List.length_map, hr.len]) fun i h1 h2 => ?_
    rw [List.length_map] at h1
    rw [List.getElem_map, List.getD_eq_getElem?_getD, List.getElem?_map, List.getElem?_range (lt _ (List.getElem_mem h1))]
    have := nd.idxOf_getElem i h1
    simp [this, List.getElem_mem h1, List.getD_eq_getElem?_getD, List.getElem?_eq_getElem h2]
theorem with_get {st : List Int} {k j : Nat} {b : Int} (hk : k < st.length) : (withI st k b).getD j 0 = if j = k then b else st.getD j 0 := by
  have l1 : (st.take k).length = k := by rw [List.length_take]; omega
  unfold withI
  rw [List.getD_eq_getElem?_getD, List.getD_eq_getElem?_getD]
  by_cases c : j = k
  · subst c
    rw [if_pos rfl, List.getElem?_append_right (by omega), l1, Nat.sub_self]
    rfl
  · rw [if_neg c]
    by_cases d : j < k
    · rw [List.getElem?_append_left (by omega), List.getElem?_take_of_lt d]
    · rw [List.getElem?_append_right (by omega), l1, show j - k = (j - k - 1) + 1 by omega, List.getElem?_cons_succ, List.getElem?_drop, show k + 1 + (j - k - 1) = j by omega]
theorem with_len {st : List Int} {k : Nat} {b : Int} (hk : k < st.length) : (withI st k b).length = st.length := by
  unfold withI
  rw [List.length_append, List.length_cons, List.length_take, List.length_drop]
  omega
theorem with_st {m k : Nat} {st : List Int} {b : Int} (h : IsSt m st) (hk : k < m) (hb : 0 ≤ b ∧ b < 2) : IsSt m (withI st k b) := by
  refine ⟨by rw [with_len (by rw [h.len]; exact hk), h.len], fun x hx => ?_⟩
  unfold withI at hx
  rcases List.mem_append.mp hx with hx | hx
  · exact h.bit x (List.mem_of_mem_take hx)
  · rcases List.mem_cons.mp hx with rfl | hx
    · exact hb
    · exact h.bit x (List.mem_of_mem_drop hx)
theorem getD_ext {a b : List Int} (hl : a.length = b.length) (h : ∀ j, j < a.length → a.getD j 0 = b.getD j 0) : a = b := List.ext_getElem hl fun i h1 h2 => by
  have := h i h1
  rwa [List.getD_eq_getElem?_getD, List.getD_eq_getElem?_getD, List.getElem?_eq_getElem h1, List.getElem?_eq_getElem h2] at this
/-- what a rule reads of a stand with one switch put: the reading with its place put -/
theorem read_with {es : List Nat} {st : List Int} {i : Nat} {b : Int} (nd : es.Nodup) (hi : i < es.length) (hl : es[i] < st.length) : es.map (fun e => (withI st es[i] b).getD e 0) = withI (es.map fun e => st.getD e 0) i b := by
  refine getD_ext (by rw [with_len (by simpa using hi)]; simp) fun j hj => ?_
  rw [List.length_map] at hj
  rw [with_get (by simpa using hi), List.getD_eq_getElem?_getD, List.getElem?_map, List.getElem?_eq_getElem hj]
  show (withI st es[i] b).getD es[j] 0 = _
  rw [with_get hl]
  by_cases c : j = i
  · subst c; rw [if_pos rfl, if_pos rfl]
  · have n : ¬ es[j] = es[i] := fun z => c (by rw [← nd.idxOf_getElem j hj, z, nd.idxOf_getElem i hi])
    rw [if_neg n, if_neg c, List.getD_eq_getElem?_getD, List.getD_eq_getElem?_getD, List.getElem?_map, List.getElem?_eq_getElem hj]
    simp [List.getD_eq_getElem?_getD]
theorem read_off {es : List Nat} {st : List Int} {j : Nat} {b : Int} (hj : j ∉ es) (hl : j < st.length) : es.map (fun e => (withI st j b).getD e 0) = es.map fun e => st.getD e 0 := List.map_congr_left fun e he => by
  rw [with_get hl, if_neg fun z => hj (by rw [← z]; exact he)]
def addU (acc : List Int) (x : Int) : List Int := if x ≠ 0 ∧ x ∉ acc then acc ++ [x] else acc
theorem addU_mem {xs acc : List Int} {s : Int} : s ∈ xs.foldl addU acc ↔ s ∈ acc ∨ (s ∈ xs ∧ s ≠ 0) := by
  induction xs generalizing acc with
  | nil => simp
  | cons x xs ih =>
    rw [List.foldl_cons, ih]
    unfold addU
    by_cases c : x ≠ 0 ∧ x ∉ acc
    · rw [if_pos c]
      simp only [List.mem_append, List.mem_singleton, List.mem_cons, List.not_mem_nil, or_false]
      constructor
      · rintro ((h | rfl) | h)
        · exact .inl h
        · exact .inr ⟨.inl rfl, c.1⟩
        · exact .inr ⟨.inr h.1, h.2⟩
      · rintro (h | ⟨rfl | h, h2⟩)
        · exact .inl (.inl h)
        · exact .inl (.inr rfl)
        · exact .inr ⟨h, h2⟩
    · rw [if_neg c]
      simp only [List.mem_cons]
      constructor
      · rintro (h | h)
        · exact .inl h
        · exact .inr ⟨.inr h.1, h.2⟩
      · rintro (h | ⟨rfl | h, h2⟩)
        · exact .inl h
        · exact .inl (Classical.byContradiction fun z => c ⟨h2, z⟩)
        · exact .inr ⟨h, h2⟩
theorem addU_nd {xs acc : List Int} (h : acc.Nodup) : (xs.foldl addU acc).Nodup := by
  induction xs generalizing acc with
  | nil => exact h
  | cons x xs ih =>
    rw [List.foldl_cons]
    refine ih ?_
    unfold addU
    by_cases c : x ≠ 0 ∧ x ∉ acc
    · rw [if_pos c]
      exact List.nodup_append.mpr ⟨h, by simp, fun a ha b hb z => by
        rw [List.mem_singleton] at hb
        exact c.2 (by rw [← hb, ← z]; exact ha)⟩
    · rw [if_neg c]; exact h
theorem addU_len {xs acc : List Int} : (xs.foldl addU acc).length ≤ acc.length + xs.length := by
  induction xs generalizing acc with
  | nil => simp
  | cons x xs ih =>
    rw [List.foldl_cons]
    refine Nat.le_trans ih ?_
    unfold addU
    split
    · rw [List.length_append, List.length_cons, List.length_cons]; simp; omega
    · rw [List.length_cons]; omega
def diffI (r : RuleT) (k : Nat) (rd : List Int) : Int := tolI r (withI rd k 1) - tolI r (withI rd k 0)
def signsI (r : RuleT) (k : Nat) : List Int := ((stands r.1.length).map (diffI r k)).foldl addU []
theorem addU_diff {r : RuleT} {k : Nat} {rd acc : List Int} : addU acc (diffI r k rd) = if tolI r (withI rd k 0) ≠ tolI r (withI rd k 1) ∧ diffI r k rd ∉ acc then acc ++ [diffI r k rd] else acc := by
  unfold addU
  have : diffI r k rd ≠ 0 ↔ tolI r (withI rd k 0) ≠ tolI r (withI rd k 1) := by unfold diffI; omega
  by_cases c : diffI r k rd ≠ 0
  · have := this.mp c
    simp [c, this]
  · have t2 : tolI r (withI rd k 0) = tolI r (withI rd k 1) := Classical.byContradiction fun z => c (this.mpr z)
    simp [t2] at c ⊢
    simp [c]
theorem signs_at_ok {r : RuleT} {k : Nat} (h : RuleLk r) (hk : k < r.1.length) : C.g_signs_at [dRule r, .int k] = .ok (.fr (.lst ((signsI r k).map D.int))) := by
  have hl := h.len
  have p2 : 2 ^ r.1.length ≤ 2 ^ 8 := Nat.pow_le_pow_right (by omega) hl
  have sl := stands_len r.1.length
  have so := stands_of_ok (m := r.1.length) (by omega)
  have run := for_run (tm := tmName 3) (body := C.b_signs_at_1) (vs := [3, 4, 5]) (ws := []) ti (fun acc : List Int => [some (dRule r), some (.int k), some (.lst (acc.map D.int)), none, none, none]) (fun acc rd => addU acc (diffI r k rd)) (fun acc => acc.Nodup ∧ ∀ x ∈ acc, x = 1 ∨ x = -1) (stands r.1.length) [] ⟨by simp, by simp⟩ (fun acc rd ⟨nd, hx⟩ hrd => by
    have hs := stands_st hrd
    have w0 := with_bit_ok (st := rd) (k := k) (b := 0) (by rw [hs.len]; omega)
    have w1 := with_bit_ok (st := rd) (k := k) (b := 1) (by rw [hs.len]; omega)
    have t0 := told_at_ok h (with_st hs hk (b := 0) (by omega))
    have t1 := told_at_ok h (with_st hs hk (b := 1) (by omega))
    have b0 := tol_bit (st := withI rd k 0) h
    have b1 := tol_bit (st := withI rd k 1) h
    have nn := nin_ints (x := diffI r k rd) (xs := acc)
    have al : acc.length ≤ 2 := nodup_len (B := [1, -1]) nd fun x hx' => by simpa using hx x hx'
    have zl : szOk (acc.length + 1) = true := szOk_of (by omega)
    have dd : diffI r k rd = tolI r (withI rd k 1) - tolI r (withI rd k 0) := rfl
    refine ⟨⟨addU_nd (xs := [diffI r k rd]) nd, fun x hx' => ?_⟩, by simp, ?_⟩
    · rcases (addU_mem (xs := [diffI r k rd])).mp hx' with q | ⟨q, q2⟩
      · exact hx x q
      · rw [List.mem_singleton] at q
        omega
    · rw [addU_diff]
      simp only [turnF, C.b_signs_at_1]
      rw [dd] at nn ⊢
      generalize withI rd k 0 = r0 at *
      generalize withI rd k 1 = r1 at *
      generalize tolI r r0 = v0 at *
      generalize tolI r r1 = v1 at *
      by_cases c : v0 = v1
      · subst c
        simp [w0, w1, t0, t1]
      · by_cases c2 : v1 - v0 ∈ acc
        · simp [w0, w1, t0, t1, c, c2, nn]
        · simp [w0, w1, t0, t1, c, c2, nn, zl])
  have e : (stands r.1.length).foldl (fun acc rd => addU acc (diffI r k rd)) [] = signsI r k := by
    unfold signsI
    rw [List.foldl_map]
  rw [e] at run
  have run := run.1
  have a1 : atI [ti r.1, ti r.2] 0 = some (ti r.1) := rfl
  have zs : szOk (stands r.1.length).length = true := szOk_of (by omega)
  have run : forL (tmName 3) C.b_signs_at_1 [3, 4, 5] [] ((stands r.1.length).map ti) [some (dRule r), some (.int k), some (.lst []), none, none, none] = _ := run
  simp only [C.g_signs_at, C.m_signs_at]
  generalize C.b_signs_at_1 = B at run ⊢
  simp [e_fnP, ixD, a1, so, itD, zs, run]
theorem signs_mem {r : RuleT} {k : Nat} {s : Int} : s ∈ signsI r k ↔ s ≠ 0 ∧ ∃ rd, IsSt r.1.length rd ∧ diffI r k rd = s := by
  unfold signsI
  rw [addU_mem, List.mem_map]
  constructor
  · rintro (q | ⟨⟨rd, h1, h2⟩, h3⟩)
    · cases q
    · exact ⟨h3, rd, stands_st h1, h2⟩
  · rintro ⟨h3, rd, h1, h2⟩
    exact .inr ⟨⟨rd, mem_stands.mpr h1, h2⟩, h3⟩
theorem signs_len {r : RuleT} {k : Nat} : (signsI r k).length ≤ 2 ^ r.1.length := by
  unfold signsI
  have := addU_len (xs := (stands r.1.length).map (diffI r k)) (acc := [])
  rw [List.length_map, stands_len] at this
  simpa using this
theorem fold_mem {α β : Type} {step : List β → α → List β} {P : α → β → Prop} (h : ∀ L x t, t ∈ step L x ↔ t ∈ L ∨ P x t) : ∀ (xs : List α) (L : List β) (t : β), t ∈ xs.foldl step L ↔ t ∈ L ∨ ∃ x ∈ xs, P x t
  | [], L, t => by simp
  | x :: xs, L, t => by
    rw [List.foldl_cons, fold_mem h xs, h]
    simp only [List.mem_cons]
    constructor
    · rintro ((q | q) | ⟨y, h1, h2⟩)
      · exact .inl q
      · exact .inr ⟨x, .inl rfl, q⟩
      · exact .inr ⟨y, .inr h1, h2⟩
    · rintro (q | ⟨y, rfl | h1, h2⟩)
      · exact .inl (.inl q)
      · exact .inl (.inr h2)
      · exact .inr ⟨y, h1, h2⟩
theorem flat_len {α β : Type} {f : α → List β} {c : Nat} : ∀ {xs : List α}, (∀ x ∈ xs, (f x).length ≤ c) → (xs.flatMap f).length ≤ xs.length * c
  | [], _ => by simp
  | x :: xs, h => by
    rw [List.flatMap_cons, List.length_append, List.length_cons, Nat.succ_mul]
    have := h x (by simp)
    have := flat_len (xs := xs) fun y hy => h y (by simp [hy])
    omega
theorem flat_range {β : Type} {f : Nat → List β} {i : Nat} : (List.range (i + 1)).flatMap f = (List.range i).flatMap f ++ f i := by
  rw [List.range_succ, List.flatMap_append]; simp
theorem sortL_congr {A B : List (List Int)} (p : A.Perm B) : sortL A = sortL B := sortL_of ((sortL_perm A).trans p) (sortL_pw A)
theorem sortD_lti {L : List (List Int)} (h : ∀ x ∈ L, x ≠ []) : sortD [lti L] = .ok (lti (sortL L)) := by
  cases L with
  | nil =>
    have := d_sortN (xs := [])
    rw [List.map_nil] at this
    exact this.trans (by simp [sortI, sortL])
  | cons x xs =>
    refine sortD_tups ?_
    unfold sortOk
    rw [Bool.or_eq_true]
    refine .inr (List.all_eq_true.mpr fun y hy => ?_)
    have := h y hy
    cases y with
    | nil => exact absurd rfl this
    | cons => rfl
theorem for_enum {α : Type} {tm : GM} {body : SM} {vs ws : List Nat} (f : α → D) (xs : List α) (rho : Nat → Y.Env) (h : ∀ i (hi : i < xs.length), (∀ w ∈ ws, (rho (i + 1))[w]? = (rho i)[w]?) ∧ turnF tm body vs (.tup [.int (i : Nat), f xs[i]]) (rho i) = .ok (.nx, rho (i + 1))) :
    forL tm body vs ws (numD (xs.map f)) (rho 0) = .ok (.nx, rho xs.length) := by
  rw [numD_map]
  have := for_idx (tm := tm) (body := body) (vs := vs) (ws := ws) (fun p : Nat × α => D.tup [.int (p.1 : Nat), f p.2]) ((List.range xs.length).zip xs) rho fun i hi => by
    rw [List.length_zip, List.length_range, Nat.min_self] at hi
    rw [List.getElem_zip, List.getElem_range]
    exact h i hi
  rwa [List.length_zip, List.length_range, Nat.min_self] at this
def wAt (sw : Nat) (r : RuleT) (k : Nat) : List (List Int) := (signsI r k).map fun s => [r.1.getD k 0, (sw : Int), s]
def wRule (sw : Nat) (r : RuleT) : List (List Int) := (List.range r.1.length).flatMap (wAt sw r)
def wiresL (ns : List RuleT) : List (List Int) := (List.range ns.length).flatMap fun sw => wRule sw (ns.getD sw ([], []))
def wiresI (ns : List RuleT) : List (List Int) := sortL (wiresL ns)
theorem wAt_len {sw k : Nat} {r : RuleT} (h : RuleLk r) : (wAt sw r k).length ≤ 256 := by
  unfold wAt
  rw [List.length_map]
  exact Nat.le_trans signs_len (Nat.pow_le_pow_right (n := 2) (by omega) h.len)
theorem wRule_len {sw : Nat} {r : RuleT} (h : RuleLk r) : (wRule sw r).length ≤ 2048 := by
  unfold wRule
  have := flat_len (xs := List.range r.1.length) (f := wAt sw r) (c := 256) fun k _ => wAt_len h
  rw [List.length_range] at this
  have := h.len
  omega
theorem NetOk.lkAt {ns : List RuleT} {most k : Nat} (h : NetOk ns most) (hk : k < ns.length) : RuleOk ns.length (ns.getD k ([], [])) := by
  rw [List.getD_eq_getElem?_getD, List.getElem?_eq_getElem hk]
  exact h.rule _ (List.getElem_mem hk)
theorem wires_of_ok {ns : List RuleT} {most : Nat} (h : NetOk ns most) (hm : most ≤ 20) : C.g_wires_of [dNet ns] = .ok (.fr (lti (wiresI ns))) := by
  have hle := h.le
  have inner : ∀ (sw : Nat) (r : RuleT) (acc : List (List Int)), RuleLk r → acc.length ≤ 1000000 → forL (tmTup [4, 5]) C.b_wires_of_1 [4, 5] [] (numD (r.1.map D.int)) [some (dNet ns), some (lti acc), some (.int sw), some (dRule r), none, none, none] = .ok (.nx, [some (dNet ns), some (lti (acc ++ wRule sw r)), some (.int sw), some (dRule r), none, none, none]) := fun sw r acc lk ha => by
    have hl := lk.len
    have := for_enum (tm := tmTup [4, 5]) (body := C.b_wires_of_1) (vs := [4, 5]) (ws := []) D.int r.1 (fun i => [some (dNet ns), some (lti (acc ++ (List.range i).flatMap (wAt sw r))), some (.int sw), some (dRule r), none, none, none]) fun i hi => by
      refine ⟨by simp, ?_⟩
      have sa := signs_at_ok lk hi
      have c1 := comp_map (tm := tmName 6) (t := cYes) (e := C.e_wires_of_1) (vs := [6]) (ws := []) (ρ := [some (dNet ns), some (lti (acc ++ (List.range i).flatMap (wAt sw r))), some (.int sw), some (dRule r), some (.int (i : Nat)), some (.int r.1[i]), none]) D.int (fun s => ti [r.1.getD i 0, (sw : Int), s]) (signsI r i) fun s hs => by
        have e : r.1.getD i 0 = r.1[i] := by rw [List.getD_eq_getElem?_getD, List.getElem?_eq_getElem hi]; rfl
        rw [e]
        simp only [turnC, C.e_wires_of_1]
        simp
      have zl : szOk (signsI r i).length = true := szOk_of (Nat.le_trans signs_len (Nat.le_trans (Nat.pow_le_pow_right (n := 2) (by omega) hl) (by omega)))
      have al : ((List.range i).flatMap (wAt sw r)).length ≤ i * 256 := by
        have := flat_len (xs := List.range i) (f := wAt sw r) (c := 256) fun k _ => wAt_len lk
        rwa [List.length_range] at this
      have wl := wAt_len (sw := sw) (k := i) lk
      have em : (signsI r i).map (fun s => ti [r.1.getD i 0, (sw : Int), s]) = (wAt sw r i).map ti := by unfold wAt; rw [List.map_map]; rfl
      rw [em] at c1
      rw [flat_range, ← List.append_assoc]
      have zz : szOk (((acc ++ (List.range i).flatMap (wAt sw r)).map ti).length + ((wAt sw r i).map ti).length) = true := szOk_of (by
        rw [List.length_map, List.length_map, List.length_append]; omega)
      simp only [turnF, C.b_wires_of_1]
      generalize (acc ++ (List.range i).flatMap (wAt sw r)) = A at *
      generalize wAt sw r i = B at *
      have lA : lti (A ++ B) = .lst (A.map ti ++ B.map ti) := by simp [lti]
      rw [lA]
      have lA2 : lti A = .lst (A.map ti) := rfl
      rw [lA2] at c1 ⊢
      generalize A.map ti = A' at *
      generalize B.map ti = B' at *
      generalize C.e_wires_of_1 = E1 at *
      simp [sa, zl, c1, zz]
    have e0 : acc ++ (List.range 0).flatMap (wAt sw r) = acc := by simp
    rw [e0] at this
    exact this
  have outer := for_enum (tm := tmTup [2, 3]) (body := C.b_wires_of_2) (vs := [2, 3, 4, 5]) (ws := []) dRule ns (fun i => [some (dNet ns), some (lti ((List.range i).flatMap fun sw => wRule sw (ns.getD sw ([], [])))), none, none, none, none, none]) fun i hi => by
    refine ⟨by simp, ?_⟩
    have rk := (h.lkAt hi).lk
    have eg : ns.getD i ([], []) = ns[i] := by rw [List.getD_eq_getElem?_getD, List.getElem?_eq_getElem hi]; rfl
    rw [flat_range, eg]
    rw [eg] at rk
    have al : ((List.range i).flatMap fun sw => wRule sw (ns.getD sw ([], []))).length ≤ i * 2048 := by
      have := flat_len (xs := List.range i) (f := fun sw => wRule sw (ns.getD sw ([], []))) (c := 2048) fun k hk => wRule_len (h.lkAt (Nat.lt_trans (List.mem_range.mp hk) hi)).lk
      rwa [List.length_range] at this
    have inn := inner i ns[i] _ rk (Nat.le_trans al (by omega))
    generalize ((List.range i).flatMap fun sw => wRule sw (ns.getD sw ([], []))) = A at *
    generalize ns[i] = r at *
    have zr : szOk r.1.length = true := szOk_of (by have := rk.len; omega)
    have a1 : atI [ti r.1, ti r.2] 0 = some (ti r.1) := rfl
    simp only [turnF, C.b_wires_of_2]
    generalize lti A = A1 at *
    generalize lti (A ++ wRule i r) = A2 at *
    generalize C.b_wires_of_1 = B at *
    simp [ixD, a1, itD, zr, inn]
  have outer : forL (tmTup [2, 3]) C.b_wires_of_2 [2, 3, 4, 5] [] (numD (ns.map dRule)) [some (dNet ns), some (.lst []), none, none, none, none, none] = .ok (.nx, [some (dNet ns), some (lti (wiresL ns)), none, none, none, none, none]) := outer
  have zn : szOk ns.length = true := szOk_of (by omega)
  have sd := sortD_lti (L := wiresL ns) fun x hx => by
    unfold wiresL at hx
    obtain ⟨sw, _, hx⟩ := List.mem_flatMap.mp hx
    unfold wRule at hx
    obtain ⟨k, _, hx⟩ := List.mem_flatMap.mp hx
    unfold wAt at hx
    obtain ⟨s, _, rfl⟩ := List.mem_map.mp hx
    simp
  simp only [C.g_wires_of, C.m_wires_of]
  unfold wiresI
  generalize lti (wiresL ns) = WL at *
  generalize lti (sortL (wiresL ns)) = SL at *
  generalize C.b_wires_of_2 = B at *
  simp [e_fnP, zn, outer, sd]
def chI (ns : List RuleT) (st : List Int) (j k : Nat) : Int := oughtI ns (withI st j 1) k - oughtI ns st k
def stepW (ns : List RuleT) (st : List Int) (j : Nat) (L : List (List Int)) (k : Nat) : List (List Int) := if chI ns st j k ≠ 0 then addS L [(j : Int), (k : Int), chI ns st j k] else L
def lawL (ns : List RuleT) : List (List Int) := (stands ns.length).foldl (fun L st => (List.range ns.length).foldl (fun L j => (List.range ns.length).foldl (stepW ns st j) L) L) []
theorem addS_nd {L : List (List Int)} {t : List Int} (h : L.Nodup) : (addS L t).Nodup := by
  unfold addS
  by_cases c : t ∈ L
  · rwa [if_pos c]
  · rw [if_neg c]
    exact List.nodup_append.mpr ⟨h, by simp, fun a ha b hb z => by
      rw [List.mem_singleton] at hb
      exact c (by rw [← hb, ← z]; exact ha)⟩
theorem lawL_mem {ns : List RuleT} {t : List Int} : t ∈ lawL ns ↔ ∃ st ∈ stands ns.length, ∃ j ∈ List.range ns.length, ∃ k ∈ List.range ns.length, chI ns st j k ≠ 0 ∧ t = [(j : Int), (k : Int), chI ns st j k] := by
  unfold lawL
  rw [fold_mem (P := fun st t => ∃ j ∈ List.range ns.length, ∃ k ∈ List.range ns.length, chI ns st j k ≠ 0 ∧ t = [(j : Int), (k : Int), chI ns st j k])]
  · simp
  · intro L st t
    rw [fold_mem (P := fun j t => ∃ k ∈ List.range ns.length, chI ns st j k ≠ 0 ∧ t = [(j : Int), (k : Int), chI ns st j k])]
    intro L j t
    rw [fold_mem (P := fun k t => chI ns st j k ≠ 0 ∧ t = [(j : Int), (k : Int), chI ns st j k])]
    intro L k t
    unfold stepW
    by_cases c : chI ns st j k ≠ 0
    · rw [if_pos c, addS_mem]; simp [c]
    · rw [if_neg c]; simp [c]
def WOk (m : Nat) (L : List (List Int)) : Prop := L.Nodup ∧ ∀ t ∈ L, ∃ j k : Nat, j < m ∧ k < m ∧ (t = [(j : Int), (k : Int), 1] ∨ t = [(j : Int), (k : Int), -1])
theorem WOk.len {m : Nat} {L : List (List Int)} (h : WOk m L) : L.length ≤ m * (m * 2) := by
  have := nodup_len (B := (List.range m).flatMap fun j => (List.range m).flatMap fun k => [[((j : Nat) : Int), ((k : Nat) : Int), 1], [(j : Int), (k : Int), -1]]) h.1 fun t ht => by
    obtain ⟨j, k, hj, hk, e⟩ := h.2 t ht
    exact List.mem_flatMap.mpr ⟨j, List.mem_range.mpr hj, List.mem_flatMap.mpr ⟨k, List.mem_range.mpr hk, by simpa using e⟩⟩
  refine Nat.le_trans this ?_
  have a := flat_len (xs := List.range m) (f := fun j => (List.range m).flatMap fun k => [[((j : Nat) : Int), ((k : Nat) : Int), 1], [(j : Int), (k : Int), -1]]) (c := m * 2) fun j _ => by
    have := flat_len (xs := List.range m) (f := fun k => [[((j : Nat) : Int), ((k : Nat) : Int), 1], [(j : Int), (k : Int), -1]]) (c := 2) fun k _ => by simp
    rwa [List.length_range] at this
  rwa [List.length_range] at a
theorem WOk.step {ns : List RuleT} {m : Nat} {st : List Int} {j k : Nat} {L : List (List Int)} (h : WOk m L) (hj : j < m) (hk : k < m) (b : ∀ st, oughtI ns st k = 0 ∨ oughtI ns st k = 1) : WOk m (stepW ns st j L k) := by
  unfold stepW
  by_cases c : chI ns st j k ≠ 0
  · rw [if_pos c]
    refine ⟨addS_nd h.1, fun t ht => ?_⟩
    rcases addS_mem.mp ht with q | q
    · exact h.2 t q
    · refine ⟨j, k, hj, hk, ?_⟩
      have b1 := b (withI st j 1)
      have b2 := b st
      have : chI ns st j k = 1 ∨ chI ns st j k = -1 := by unfold chI at c ⊢; omega
      rcases this with z | z <;> rw [z] at q
      · exact .inl q
      · exact .inr q
  · rw [if_neg c]; exact h
theorem NetOk.bit {ns : List RuleT} {most k : Nat} (h : NetOk ns most) (hk : k < ns.length) (st : List Int) : oughtI ns st k = 0 ∨ oughtI ns st k = 1 := by
  have := getD_bit (h.lkAt hk).bit (placeI ((ns.getD k ([], [])).1.map fun e => st.getD e.toNat 0)).toNat
  have e : oughtI ns st k = (ns.getD k ([], [])).2.getD (placeI ((ns.getD k ([], [])).1.map fun e => st.getD e.toNat 0)).toNat 0 := rfl
  omega
abbrev dTrue (L : List (List Int)) : D := .dit (L.map kt) (L.map fun _ => .bl true)
theorem setD_true {k : List Key} : ∀ {L : List (List Int)}, setD (L.map kt) (L.map fun _ => D.bl true) k (.bl true) = L.map fun _ => D.bl true
  | [] => rfl
  | a :: L => by
    have ih := setD_true (k := k) (L := L)
    rw [List.map_cons, List.map_cons]
    unfold setD
    rw [ih]
    simp
theorem put_true {L : List (List Int)} {t : List Int} (hz : L.length + 1 ≤ 10000000) : putDic (dTrue L) (ti t) (.bl true) = .ok (dTrue (addS L t)) := by
  by_cases c : t ∈ L
  · have n : kt t ∈ L.map kt := List.mem_map.mpr ⟨t, c, rfl⟩
    show (match keysOf (t.map D.int) with | some k => if szOk ((L.map kt).length + 1) = true then R.ok (D.dit (putKs (L.map kt) k) (putDs (L.map kt) _ k _)) else .stk | none => .stk) = _
    rw [keys_ti]
    have z : szOk ((L.map kt).length + 1) = true := szOk_of (by rw [List.length_map]; omega)
    simp only [z, if_true]
    unfold putKs putDs addS
    rw [if_pos n, if_pos n, if_pos c, setD_true]
  · rw [put_kt c hz]
    unfold addS
    rw [if_neg c]
    simp [dTrue]
theorem law_wires_ok {ns : List RuleT} {most : Nat} (h : NetOk ns most) (hm : most ≤ 20) : C.g__law_wires [dNet ns] = .ok (.fr (lti (sortL (lawL ns)))) ∧ WOk ns.length (lawL ns) := by
  have hle := h.le
  have g := h.good (by omega)
  have rn : rngOk ns.length = true := rngOk_of (by omega) (by omega)
  have zn : szOk ns.length = true := szOk_of (by omega)
  have sq : ns.length * (ns.length * 2) ≤ 800 := Nat.le_trans (Nat.mul_le_mul (show ns.length ≤ 20 by omega) (Nat.mul_le_mul (show ns.length ≤ 20 by omega) (Nat.le_refl 2))) (by omega)
  have in1 : ∀ (st : List Int) (j : Nat) (L : List (List Int)), IsSt ns.length st → j < ns.length → WOk ns.length L → forL (tmName 5) C.b__law_wires_1 [5, 6] [] ((List.range ns.length).map fun k : Nat => D.int (k : Nat)) [some (dNet ns), some (dTrue L), some (ti st), some (.int j), some (ti (withI st j 1)), none, none] = .ok (.nx, [some (dNet ns), some (dTrue ((List.range ns.length).foldl (stepW ns st j) L)), some (ti st), some (.int j), some (ti (withI st j 1)), none, none]) ∧ WOk ns.length ((List.range ns.length).foldl (stepW ns st j) L) := fun st j L hs hj hL =>
    for_run (tm := tmName 5) (body := C.b__law_wires_1) (vs := [5, 6]) (ws := []) (fun k : Nat => D.int (k : Nat)) (fun L => [some (dNet ns), some (dTrue L), some (ti st), some (.int j), some (ti (withI st j 1)), none, none]) (stepW ns st j) (WOk ns.length) (List.range ns.length) L hL fun L k hL hk => by
      have hk := List.mem_range.mp hk
      refine ⟨hL.step hj hk (h.bit hk), by simp, ?_⟩
      have t0 := told_ok g hs hk
      have t1 := told_ok g (with_st hs hj (b := 1) (by omega)) hk
      have pt := put_true (L := L) (t := [(j : Int), (k : Int), chI ns st j k]) (by have := hL.len; omega)
      have ec : chI ns st j k = oughtI ns (withI st j 1) k - oughtI ns st k := rfl
      simp only [turnF, C.b__law_wires_1]
      unfold stepW
      rw [ec] at pt ⊢
      generalize oughtI ns (withI st j 1) k = v1 at *
      generalize oughtI ns st k = v0 at *
      have et : ti [(j : Int), (k : Int), v1 - v0] = .tup [.int j, .int k, .int (v1 - v0)] := rfl
      rw [et] at pt
      generalize ti (withI st j 1) = T1 at *
      generalize ti st = T0 at *
      generalize addS L [(j : Int), (k : Int), v1 - v0] = L2 at *
      by_cases c : v1 - v0 = 0
      · have c2 : v1 = v0 := by omega
        subst c2
        simp [t0, t1]
      · rw [if_pos c]
        unfold dTrue at pt ⊢
        generalize L2.map kt = A1 at *
        generalize (L2.map fun _ => D.bl true) = A2 at *
        generalize L.map kt = A3 at *
        generalize (L.map fun _ => D.bl true) = A4 at *
        simp [t0, t1, c, pt]
  have in2 : ∀ (st : List Int) (L : List (List Int)), IsSt ns.length st → WOk ns.length L → forL (tmName 3) C.b__law_wires_2 [3, 4, 5, 6] [] ((List.range ns.length).map fun k : Nat => D.int (k : Nat)) [some (dNet ns), some (dTrue L), some (ti st), none, none, none, none] = .ok (.nx, [some (dNet ns), some (dTrue ((List.range ns.length).foldl (fun L j => (List.range ns.length).foldl (stepW ns st j) L) L)), some (ti st), none, none, none, none]) ∧ WOk ns.length ((List.range ns.length).foldl (fun L j => (List.range ns.length).foldl (stepW ns st j) L) L) := fun st L hs hL =>
    for_run (tm := tmName 3) (body := C.b__law_wires_2) (vs := [3, 4, 5, 6]) (ws := []) (fun k : Nat => D.int (k : Nat)) (fun L => [some (dNet ns), some (dTrue L), some (ti st), none, none, none, none]) (fun L j => (List.range ns.length).foldl (stepW ns st j) L) (WOk ns.length) (List.range ns.length) L hL fun L j hL hj => by
      have hj := List.mem_range.mp hj
      obtain ⟨e1, h1⟩ := in1 st j L hs hj hL
      refine ⟨h1, by simp, ?_⟩
      have l := hs.len
      have c1 : Y.cutD (st.map D.int) none (some (j : Int)) = (st.take j).map D.int := by rw [cut_to, List.map_take]
      have c2 : Y.cutD (st.map D.int) (some ((j : Int) + 1)) none = (st.drop (j + 1)).map D.int := by rw [show ((j : Int) + 1) = ((j + 1 : Nat) : Int) by omega, cut_from, List.map_drop]
      have ew : ti (withI st j 1) = .tup ((st.take j).map D.int ++ .int 1 :: (st.drop (j + 1)).map D.int) := by simp [withI]
      have z1 : szOk (((st.take j).map D.int).length + 1) = true := szOk_of (by rw [List.length_map, List.length_take]; omega)
      have z3 : szOk (((st.take j).map D.int).length + 1 + ((st.drop (j + 1)).map D.int).length) = true := szOk_of (by rw [List.length_map, List.length_map, List.length_take, List.length_drop]; omega)
      have z4 : szOk (((st.take j).map D.int).length + (1 + ((st.drop (j + 1)).map D.int).length)) = true := szOk_of (by rw [List.length_map, List.length_map, List.length_take, List.length_drop]; omega)
      rw [ew] at e1
      simp only [turnF, C.b__law_wires_2]
      generalize (st.take j).map D.int = A at *
      generalize (st.drop (j + 1)).map D.int = B at *
      have zr : szOk ((List.range ns.length).map fun k : Nat => D.int (k : Nat)).length = true := szOk_of (by simp; omega)
      generalize dTrue L = DL at *
      generalize dTrue ((List.range ns.length).foldl (stepW ns st j) L) = DL2 at *
      generalize C.b__law_wires_1 = BB at *
      simp [c1, c2, z1, z3, z4, rn, zn, e1]
  have in3 := for_run (tm := tmName 2) (body := C.b__law_wires_3) (vs := [2, 3, 4, 5, 6]) (ws := []) ti (fun L => [some (dNet ns), some (dTrue L), none, none, none, none, none]) (fun L st => (List.range ns.length).foldl (fun L j => (List.range ns.length).foldl (stepW ns st j) L) L) (WOk ns.length) (stands ns.length) [] ⟨by simp, by simp⟩ fun L st hL hst => by
    have hs := stands_st hst
    obtain ⟨e1, h1⟩ := in2 st L hs hL
    refine ⟨h1, by simp, ?_⟩
    simp only [turnF, C.b__law_wires_3]
    generalize dTrue L = DL at *
    generalize dTrue ((List.range ns.length).foldl (fun L j => (List.range ns.length).foldl (stepW ns st j) L) L) = DL2 at *
    generalize C.b__law_wires_2 = BB at *
    generalize ti st = S at *
    simp [rn, zn, e1]
  obtain ⟨run, wok⟩ := in3
  have wok : WOk ns.length (lawL ns) := wok
  refine ⟨?_, wok⟩
  have rd := readings_ok (m := ns.length) (by omega)
  have sl := stands_len ns.length
  have p2 : 2 ^ ns.length ≤ 1048576 := pow20 (by omega)
  have zs : szOk ((stands ns.length).map ti).length = true := szOk_of (by rw [List.length_map]; omega)
  have run : forL (tmName 2) C.b__law_wires_3 [2, 3, 4, 5, 6] [] ((stands ns.length).map ti) [some (dNet ns), some (.dit [] []), none, none, none, none, none] = .ok (.nx, [some (dNet ns), some (dTrue (lawL ns)), none, none, none, none, none]) := run
  have sd := d_sortDT (ks := lawL ns) (ds := (lawL ns).map fun _ => .bl true)
  have ok : sortOk (lawL ns) = true := by
    unfold sortOk
    rw [Bool.or_eq_true]
    refine .inr (List.all_eq_true.mpr fun y hy => ?_)
    obtain ⟨j, k, _, _, e | e⟩ := wok.2 y hy <;> subst e <;> rfl
  rw [ok, if_pos rfl] at sd
  have sd : sortDD [dTrue (lawL ns)] = .ok (lti (sortL (lawL ns))) := sd
  have rd : C.g__law_readings [.int ns.length] = .ok (.fr (.lst ((stands ns.length).map ti))) := rd
  simp only [C.g__law_wires, C.m__law_wires]
  generalize dTrue (lawL ns) = WL at *
  generalize lti (sortL (lawL ns)) = SL at *
  generalize C.b__law_wires_3 = B at *
  generalize (stands ns.length).map ti = ST at *
  simp [e_fnP, itD, zn, zs, rd, run, sd]
abbrev rdOf (es : List Nat) (st : List Int) : List Int := es.map fun e => st.getD e 0
theorem ought_tol {ns : List RuleT} {k : Nat} {es : List Nat} {st : List Int} (e : (ns.getD k ([], [])).1 = es.map fun j : Nat => (j : Int)) : oughtI ns st k = tolI (ns.getD k ([], [])) (rdOf es st) := by
  show (ns.getD k ([], [])).2.getD (placeI ((ns.getD k ([], [])).1.map fun e => st.getD e.toNat 0)).toNat 0 = _
  rw [e, List.map_map]
  rfl
theorem with_with {rd : List Int} {i : Nat} {a b : Int} (hi : i < rd.length) : withI (withI rd i a) i b = withI rd i b := by
  have l1 := with_len (st := rd) (k := i) (b := a) hi
  refine getD_ext (by rw [with_len (by omega), with_len hi, with_len hi]) fun j hj => ?_
  rw [with_get (st := withI rd i a) (by omega), with_get (st := rd) (b := a) hi, with_get (st := rd) (b := b) hi]
  by_cases c : j = i
  · rw [if_pos c, if_pos c]
  · rw [if_neg c, if_neg c, if_neg c]
theorem rdOf_st {es : List Nat} {m : Nat} {st : List Int} (h : IsSt m st) : IsSt es.length (rdOf es st) := ⟨by simp, fun x hx => by
  obtain ⟨e, _, rfl⟩ := List.mem_map.mp hx
  exact h.get _⟩
theorem wires_mem {ns : List RuleT} {t : List Int} : t ∈ wiresL ns ↔ ∃ sw, sw < ns.length ∧ ∃ i, i < (ns.getD sw ([], [])).1.length ∧ ∃ s ∈ signsI (ns.getD sw ([], [])) i, t = [(ns.getD sw ([], [])).1.getD i 0, (sw : Int), s] := by
  unfold wiresL wRule wAt
  simp only [List.mem_flatMap, List.mem_range, List.mem_map]
  constructor
  · rintro ⟨sw, h1, i, h2, s, h3, rfl⟩; exact ⟨sw, h1, i, h2, s, h3, rfl⟩
  · rintro ⟨sw, h1, i, h2, s, h3, rfl⟩; exact ⟨sw, h1, i, h2, s, h3, rfl⟩
theorem wires_iff {ns : List RuleT} {most : Nat} (h : NetOk ns most) {t : List Int} : t ∈ wiresL ns ↔ t ∈ lawL ns := by
  rw [wires_mem, lawL_mem]
  constructor
  · rintro ⟨sw, hsw, i, hi, s, hs, rfl⟩
    have ok := h.lkAt hsw
    obtain ⟨es, e, nd, lt⟩ := ok.nats
    have el : (ns.getD sw ([], [])).1.length = es.length := by rw [e, List.length_map]
    have hi' : i < es.length := by omega
    obtain ⟨s0, rd, hrd, hd⟩ := signs_mem.mp hs
    rw [el] at hrd
    obtain ⟨st, hst, er⟩ := real_stand (m := ns.length) nd (with_st hrd hi' (b := 0) (by omega)) lt
    have hj : es[i] < ns.length := lt _ (List.getElem_mem hi')
    have c : chI ns st es[i] sw = s := by
      unfold chI
      rw [ought_tol e, ought_tol e]
      have : rdOf es (withI st es[i] 1) = withI rd i 1 := by
        show es.map _ = _
        rw [read_with nd hi' (by rw [hst.len]; exact hj), er, with_with (by rw [hrd.len]; exact hi')]
      rw [this, show rdOf es st = withI rd i 0 from er]
      exact hd
    refine ⟨st, mem_stands.mpr hst, es[i], List.mem_range.mpr hj, sw, List.mem_range.mpr hsw, by rw [c]; exact s0, ?_⟩
    rw [c, e, List.getD_eq_getElem?_getD, List.getElem?_map, List.getElem?_eq_getElem hi']
    rfl
  · rintro ⟨st, hst, j, hj, k, hk, c, rfl⟩
    have hst := mem_stands.mp hst
    have hj := List.mem_range.mp hj
    have hk := List.mem_range.mp hk
    have ok := h.lkAt hk
    obtain ⟨es, e, nd, lt⟩ := ok.nats
    have el : (ns.getD k ([], [])).1.length = es.length := by rw [e, List.length_map]
    have jm : j ∈ es := Classical.byContradiction fun z => c (by
      unfold chI
      rw [ought_tol e, ought_tol e, show rdOf es (withI st j 1) = rdOf es st from read_off z (by rw [hst.len]; exact hj)]
      omega)
    obtain ⟨i, hi, ej⟩ := List.getElem_of_mem jm
    subst ej
    have b0 : st.getD es[i] 0 = 0 := by
      have := hst.get es[i]
      refine Classical.byContradiction fun z => c ?_
      unfold chI
      rw [(with_same (b := 1) (by rw [hst.len]; exact hj)).mpr (by omega)]
      omega
    have hr : IsSt es.length (rdOf es st) := rdOf_st hst
    have w0 : withI (rdOf es st) i 0 = rdOf es st := (with_same (by rw [hr.len]; exact hi)).mpr (by
      rw [List.getD_eq_getElem?_getD, List.getElem?_map, List.getElem?_eq_getElem hi]
      exact b0.symm)
    have cd : chI ns st es[i] k = diffI (ns.getD k ([], [])) i (rdOf es st) := by
      unfold chI diffI
      rw [ought_tol e, ought_tol e, w0]
      congr 2
      exact read_with nd hi (by rw [hst.len]; exact hj)
    refine ⟨k, hk, i, by omega, _, signs_mem.mpr ⟨c, rdOf es st, by rw [el]; exact hr, cd.symm⟩, ?_⟩
    rw [e, List.getD_eq_getElem?_getD, List.getElem?_map, List.getElem?_eq_getElem hi]
    rfl
theorem wires_nd {ns : List RuleT} {most : Nat} (h : NetOk ns most) : (wiresL ns).Nodup := by
  unfold wiresL
  refine List.pairwise_flatMap.mpr ⟨fun sw hsw => ?_, ?_⟩
  · have hsw := List.mem_range.mp hsw
    obtain ⟨es, e, nd, lt⟩ := (h.lkAt hsw).nats
    unfold wRule
    refine List.pairwise_flatMap.mpr ⟨fun i hi => ?_, ?_⟩
    · unfold wAt
      exact List.pairwise_map.mpr ((addU_nd (xs := (stands _).map _) (acc := []) List.nodup_nil).imp fun {a b} hne z => hne (by simpa using z))
    · refine List.Pairwise.imp_of_mem (fun {a b} ha hb hne x hx y hy z => ?_) (List.nodup_range (n := (ns.getD sw ([], [])).1.length))
      unfold wAt at hx hy
      obtain ⟨s, _, rfl⟩ := List.mem_map.mp hx
      obtain ⟨s', _, rfl⟩ := List.mem_map.mp hy
      have el : (ns.getD sw ([], [])).1.length = es.length := by rw [e, List.length_map]
      have ha := List.mem_range.mp ha
      have hb := List.mem_range.mp hb
      rw [el] at ha hb
      have q : (ns.getD sw ([], [])).1.getD a 0 = (ns.getD sw ([], [])).1.getD b 0 := by
        have := List.cons.inj z
        exact this.1
      rw [e, List.getD_eq_getElem?_getD, List.getD_eq_getElem?_getD, List.getElem?_map, List.getElem?_map, List.getElem?_eq_getElem ha, List.getElem?_eq_getElem hb] at q
      have q : ((es[a] : Nat) : Int) = ((es[b] : Nat) : Int) := q
      have q : es[a] = es[b] := by omega
      exact hne (by rw [← nd.idxOf_getElem a ha, q, nd.idxOf_getElem b hb])
  · refine List.Pairwise.imp (fun {a b} hne x hx y hy z => ?_) (List.nodup_range (n := ns.length))
    unfold wRule wAt at hx hy
    obtain ⟨i, _, hx⟩ := List.mem_flatMap.mp hx
    obtain ⟨j, _, hy⟩ := List.mem_flatMap.mp hy
    obtain ⟨s, _, rfl⟩ := List.mem_map.mp hx
    obtain ⟨s', _, rfl⟩ := List.mem_map.mp hy
    have q := (List.cons.inj (List.cons.inj z).2).1
    exact hne (by exact_mod_cast q)
theorem wires_same {ns : List RuleT} {most : Nat} (h : NetOk ns most) (w : WOk ns.length (lawL ns)) : sortL (lawL ns) = wiresI ns :=
  sortL_congr ((List.perm_ext_iff_of_nodup w.1 (wires_nd h)).mpr fun t => (wires_iff h).symm)
theorem wiresI_ok {ns : List RuleT} {most : Nat} (h : NetOk ns most) (w : WOk ns.length (lawL ns)) : WOk ns.length (wiresI ns) := by
  have p : (wiresI ns).Perm (lawL ns) := by rw [← wires_same h w]; exact sortL_perm _
  exact ⟨p.nodup_iff.mpr w.1, fun t ht => w.2 t (p.mem_iff.mp ht)⟩
end H

set_option Elab.async false
set_option linter.all false
set_option maxRecDepth 100000
namespace H
open PySem PySem.Spec PyProof.Rows L2 Y
/-- the pairs of the wires, in their order -/
def prI (ws : List (List Int)) : List (List Int) := ws.foldl (fun L t => addS L (t.take 2)) []
/-- pairs of switches -/
def PrOk (m : Nat) (L : List (List Int)) : Prop := L.Nodup ∧ ∀ p ∈ L, ∃ j k : Nat, j < m ∧ k < m ∧ p = [(j : Int), (k : Int)]
theorem pr_ok {m : Nat} : ∀ {ws L : List (List Int)}, (∀ t ∈ ws, ∃ (j k : Nat) (s : Int), j < m ∧ k < m ∧ t = [(j : Int), (k : Int), s]) → PrOk m L → PrOk m (ws.foldl (fun L t => addS L (t.take 2)) L)
  | [], L, _, h => h
  | t :: ws, L, h, hL => by
    rw [List.foldl_cons]
    refine pr_ok (fun u hu => h u (by simp [hu])) ⟨addS_nd hL.1, fun p hp => ?_⟩
    unfold addS at hp
    split at hp
    · exact hL.2 p hp
    · rcases List.mem_append.mp hp with hp | hp
      · exact hL.2 p hp
      · obtain rfl := List.mem_singleton.mp hp
        obtain ⟨j, k, s, hj, hk, rfl⟩ := h t (by simp)
        exact ⟨j, k, hj, hk, rfl⟩
theorem PrOk.len {m : Nat} {L : List (List Int)} (h : PrOk m L) : L.length ≤ m * m := by
  have sub : L ⊆ (List.range m).flatMap fun j : Nat => (List.range m).map fun k : Nat => [(j : Int), (k : Int)] := fun p hp => by
    obtain ⟨j, k, hj, hk, rfl⟩ := h.2 p hp
    exact List.mem_flatMap.mpr ⟨j, List.mem_range.mpr hj, List.mem_map.mpr ⟨k, List.mem_range.mpr hk, rfl⟩⟩
  have := nodup_len h.1 fun p hp => sub hp
  have l : ((List.range m).flatMap fun j : Nat => (List.range m).map fun k : Nat => [(j : Int), (k : Int)]).length ≤ (List.range m).length * m := flat_len fun j _ => by simp
  rw [List.length_range] at l
  omega
end H

set_option Elab.async false
set_option linter.all false
set_option maxRecDepth 100000
namespace H
open PySem PySem.Spec PyProof.Rows L2 Y
def tk (t : List Int) : List Key × Int := ([.inl (t.getD 0 0), .inl (t.getD 1 0)], t.getD 2 0)
abbrev W3 (m : Nat) (ws : List (List Int)) : Prop := ∀ t ∈ ws, ∃ (j k : Nat) (s : Int), j < m ∧ k < m ∧ t = [(j : Int), (k : Int), s]
theorem trips_ok {m : Nat} : ∀ {ws : List (List Int)}, W3 m ws → trips (ws.map ti) = some (ws.map tk)
  | [], _ => rfl
  | t :: ws, h => by
    obtain ⟨j, k, s, _, _, rfl⟩ := h t (by simp)
    have ih := trips_ok (ws := ws) fun u hu => h u (by simp [hu])
    show (match trip (ti [(j : Int), (k : Int), s]), trips (ws.map ti) with | some t, some ts => some (t :: ts) | _, _ => none) = _
    rw [ih]
    rfl
theorem w3_of {m : Nat} {ws : List (List Int)} (h : WOk m ws) : W3 m ws := fun t ht => by
  obtain ⟨j, k, hj, hk, e⟩ := h.2 t ht
  rcases e with e | e
  · exact ⟨j, k, 1, hj, hk, e⟩
  · exact ⟨j, k, -1, hj, hk, e⟩
theorem key_tups {L : List (List Int)} : ((L.map kt).map fun k => D.tup (k.map keyD)) = L.map ti := by
  rw [List.map_map]
  refine List.map_congr_left fun p _ => ?_
  show D.tup ((p.map Sum.inl).map keyD) = .tup (p.map D.int)
  rw [List.map_map]
  rfl
end H

set_option Elab.async false
set_option linter.all false
set_option maxRecDepth 100000
namespace H
open PySem PySem.Spec PyProof.Rows L2 Y
def sgs (ws : List (List Int)) (p : List Int) : List Int := (ws.filter fun t => decide (t.take 2 = p)).map fun t => t.getD 2 0
def prD (ws : List (List Int)) : D := .dit ((prI ws).map kt) ((prI ws).map fun p => .lst ((sgs ws p).map D.int))
theorem gAdd_map {q : List Int} {s : Int} {f : List Int → List Int} : ∀ {L : List (List Int)}, L.Nodup → (q ∉ L → f q = []) → gAdd (kt q) s (L.map fun p => (kt p, f p)) = (addS L q).map fun p => (kt p, f p ++ if p = q then [s] else [])
  | [], _, h => by
    have := h (by simp)
    simp [gAdd, addS, this]
  | a :: L, nd, h => by
    obtain ⟨n1, n2⟩ := List.nodup_cons.mp nd
    rw [List.map_cons]
    unfold gAdd
    by_cases c : a = q
    · subst c
      rw [if_pos rfl]
      unfold addS
      rw [if_pos (by simp), List.map_cons, if_pos rfl]
      congr 1
      exact List.map_congr_left fun p hp => by
        have : ¬ p = a := fun z => n1 (by rw [← z]; exact hp)
        rw [if_neg this, List.append_nil]
    · rw [if_neg (fun z => c (kt_inj.mp z)), gAdd_map n2 fun hq => h fun z => (List.mem_cons.mp z).elim (fun z => c z.symm) hq]
      have e : addS (a :: L) q = a :: addS L q := by
        unfold addS
        by_cases d : q ∈ L
        · rw [if_pos d, if_pos (List.mem_cons_of_mem _ d)]
        · rw [if_neg d, if_neg (fun z => (List.mem_cons.mp z).elim (fun z => c z.symm) d)]; rfl
      rw [e, List.map_cons, if_neg c, List.append_nil]
theorem mem_addS {L : List (List Int)} {p q : List Int} : p ∈ addS L q ↔ p ∈ L ∨ p = q := by
  unfold addS
  by_cases c : q ∈ L
  · rw [if_pos c]
    exact ⟨.inl, fun h => h.elim id fun e => e ▸ c⟩
  · rw [if_neg c]; simp
theorem prI_snoc {us : List (List Int)} {t : List Int} : prI (us ++ [t]) = addS (prI us) (t.take 2) := by
  unfold prI
  rw [List.foldl_append]
  rfl
theorem mem_prF {p : List Int} : ∀ {ws L : List (List Int)}, p ∈ ws.foldl (fun L t => addS L (t.take 2)) L ↔ p ∈ L ∨ ∃ t ∈ ws, t.take 2 = p
  | [], L => by simp
  | t :: ws, L => by
    rw [List.foldl_cons, mem_prF, mem_addS]
    constructor
    · rintro ((h | h) | ⟨u, h1, h2⟩)
      · exact .inl h
      · exact .inr ⟨t, by simp, h.symm⟩
      · exact .inr ⟨u, by simp [h1], h2⟩
    · rintro (h | ⟨u, h1, h2⟩)
      · exact .inl (.inl h)
      · rcases List.mem_cons.mp h1 with h1 | h1
        · exact .inl (.inr (by rw [← h1, h2]))
        · exact .inr ⟨u, h1, h2⟩
theorem mem_prI {ws : List (List Int)} {p : List Int} : p ∈ prI ws ↔ ∃ t ∈ ws, t.take 2 = p := by
  unfold prI
  rw [mem_prF]
  simp
theorem prF_nd : ∀ {ws L : List (List Int)}, L.Nodup → (ws.foldl (fun L t => addS L (t.take 2)) L).Nodup
  | [], L, h => h
  | t :: ws, L, h => by rw [List.foldl_cons]; exact prF_nd (addS_nd h)
theorem sgs_nil {ws : List (List Int)} {p : List Int} (h : p ∉ prI ws) : sgs ws p = [] := by
  unfold sgs
  rw [List.map_eq_nil_iff, List.filter_eq_nil_iff]
  intro t ht z
  exact h (mem_prI.mpr ⟨t, ht, of_decide_eq_true z⟩)
theorem grp_acc {m : Nat} : ∀ {ws us : List (List Int)}, W3 m ws → (ws.map tk).foldl (fun g t => gAdd t.1 t.2 g) ((prI us).map fun p => (kt p, sgs us p)) = (prI (us ++ ws)).map fun p => (kt p, sgs (us ++ ws) p)
  | [], us, _ => by rw [List.append_nil]; rfl
  | t :: ws, us, h => by
    obtain ⟨j, k, s, _, _, rfl⟩ := h t (by simp)
    rw [List.map_cons, List.foldl_cons]
    have e1 : us ++ [(j : Int), (k : Int), s] :: ws = (us ++ [[(j : Int), (k : Int), s]]) ++ ws := by simp
    rw [e1]
    have g := gAdd_map (q := [(j : Int), (k : Int)]) (s := s) (f := sgs us) (L := prI us) (prF_nd List.nodup_nil) sgs_nil
    have e2 : (fun p : List Int => (kt p, sgs us p ++ if p = [(j : Int), (k : Int)] then [s] else [])) = fun p => (kt p, sgs (us ++ [[(j : Int), (k : Int), s]]) p) := by
      funext p
      unfold sgs
      rw [List.filter_append, List.map_append]
      by_cases c : p = [(j : Int), (k : Int)]
      · subst c; simp
      · have c' : ¬ [(j : Int), (k : Int)] = p := fun z => c z.symm
        simp [c, c']
    rw [e2] at g
    have e3 : addS (prI us) [(j : Int), (k : Int)] = prI (us ++ [[(j : Int), (k : Int), s]]) := by rw [prI_snoc]; rfl
    rw [e3] at g
    refine Eq.trans ?_ (grp_acc (us := us ++ [[(j : Int), (k : Int), s]]) fun u hu => h u (by simp [hu]))
    rw [← g]
    rfl
theorem grp_sgs {m : Nat} {ws : List (List Int)} (h : W3 m ws) : grp (ws.map tk) = (prI ws).map fun p => (kt p, sgs ws p) := grp_acc (us := []) h
theorem dGrp_sgs {m : Nat} {ws : List (List Int)} (h : W3 m ws) : dGrp (grp (ws.map tk)) = prD ws := by
  rw [grp_sgs h]
  unfold dGrp prD
  rw [List.map_map, List.map_map]
  rfl
theorem pairs_ok {ns : List RuleT} {most : Nat} (h : NetOk ns most) (hm : most ≤ 20) : C.g_signs_between [dNet ns] = .ok (.fr (prD (wiresI ns))) ∧ C.g__law_pairs_2 [dNet ns] = .ok (.fr (prD (wiresI ns))) ∧ WOk ns.length (wiresI ns) := by
  obtain ⟨lw, w⟩ := law_wires_ok h hm
  rw [wires_same h w] at lw
  have wk := wiresI_ok h w
  have wo := wires_of_ok h hm
  have w3 := w3_of wk
  have tr := trips_ok w3
  have dg := dGrp_sgs w3
  have hle := h.le
  have sq : ns.length * (ns.length * 2) ≤ 800 := Nat.le_trans (Nat.mul_le_mul (show ns.length ≤ 20 by omega) (Nat.mul_le_mul (show ns.length ≤ 20 by omega) (Nat.le_refl 2))) (by omega)
  have wl := wk.len
  have zl : szOk ((wiresI ns).map ti).length = true := szOk_of (by rw [List.length_map]; omega)
  have z2 : ((wiresI ns).map tk).length < 1000000 := by rw [List.length_map]; omega
  refine ⟨?_, ?_, wk⟩
  · rw [← dg]
    simp only [C.g_signs_between, C.m_signs_between]
    clear dg wk w
    have wo : C.g_wires_of [dNet ns] = .ok (.fr (.lst ((wiresI ns).map ti))) := wo
    generalize (wiresI ns).map tk = TS at *
    generalize (wiresI ns).map ti = WS at *
    generalize dNet ns = N at *
    simp [e_fnP, wo, tr, zl, z2]
  · rw [← dg]
    simp only [C.g__law_pairs_2, C.m__law_pairs_2]
    clear dg wk w
    have lw : C.g__law_wires [dNet ns] = .ok (.fr (.lst ((wiresI ns).map ti))) := lw
    generalize (wiresI ns).map tk = TS at *
    generalize (wiresI ns).map ti = WS at *
    generalize dNet ns = N at *
    simp [e_fnP, lw, tr, zl, z2]
theorem get_pr {ws : List (List Int)} {p : List Int} : getDic (prD ws) (ti p) = .ok (if p ∈ prI ws then some (.lst ((sgs ws p).map D.int)) else none) := by
  unfold prD
  rw [get_kt]
  by_cases c : p ∈ prI ws
  · rw [if_pos c, find_map (f := fun p => D.lst ((sgs ws p).map D.int)) c]
  · rw [if_neg c]
    have := find_kt (L := prI ws) (ds := (prI ws).map fun p => D.lst ((sgs ws p).map D.int)) (t := p) (by simp)
    rw [decide_eq_false c] at this
    cases e : findD ((prI ws).map kt) ((prI ws).map fun p => D.lst ((sgs ws p).map D.int)) (kt p) with
    | none => rfl
    | some d => rw [e] at this; cases this
end H

set_option Elab.async false
set_option linter.all false
set_option maxRecDepth 100000
namespace H
open PySem PySem.Spec PyProof.Rows L2 Y
def stI (r : List Int) : List (List Int) := (r.zip (r.tail ++ r.take 1)).map fun p => [p.1, p.2]
theorem pairs_zip : ∀ {a b : List Int}, pairsD (a.map D.int) (b.map D.int) = (a.zip b).map fun p => ti [p.1, p.2]
  | [], b => by cases b <;> rfl
  | a :: as, [] => rfl
  | a :: as, b :: bs => by
    show D.tup [.int a, .int b] :: pairsD (as.map D.int) (bs.map D.int) = _
    rw [pairs_zip]
    rfl
theorem stI_len {r : List Int} : (stI r).length = r.length := by
  unfold stI
  rw [List.length_map, List.length_zip, List.length_append, List.length_tail, List.length_take]
  omega
theorem steps_rd {r : List Int} (hl : r.length ≤ 1000) : C.g_steps_round [ti r] = .ok (.fr (lti (stI r))) := by
  have e1 : Y.cutD (r.map D.int) (some 1) none = r.tail.map D.int := by rw [cut_one, List.map_tail]
  have e2 : Y.cutD (r.map D.int) none (some 1) = (r.take 1).map D.int := by
    have := cut_hi (ds := r.map D.int) (k := 1)
    rw [List.map_take]; exact this
  have ez : pairsD (r.map D.int) (r.tail.map D.int ++ (r.take 1).map D.int) = (stI r).map ti := by
    rw [← List.map_append, pairs_zip]
    unfold stI
    rw [List.map_map]
    rfl
  have zl : szOk ((stI r).map ti).length = true := szOk_of (by rw [List.length_map, stI_len]; omega)
  have z2 : szOk (r.tail.length + (r.take 1).length) = true := szOk_of (by rw [List.length_tail, List.length_take]; omega)
  have et : ti r = .tup (r.map D.int) := rfl
  have el : lti (stI r) = .lst ((stI r).map ti) := rfl
  rw [et, el]
  simp only [C.g_steps_round, C.m_steps_round]
  generalize (stI r).map ti = X at *
  simp [e_fnP, e1, e2, ez, zl, z2, -List.map_tail, -List.map_take, -List.length_tail, -List.length_take]
def inP (ws : List (List Int)) (p : List Int) : Bool := decide (p ∈ prI ws)
def rndB (ws : List (List Int)) : List Int → Bool
  | [] => false
  | n :: ms => decide (n = minI n ms) && (stI (n :: ms)).all (inP ws)
theorem is_round_ok {ws : List (List Int)} {n : Int} {ms : List Int} (hl : (n :: ms).length ≤ 1000) : C.g_is_round [prD ws, ti (n :: ms)] = .ok (.fr (.bl (rndB ws (n :: ms)))) := by
  have sp := steps_rd (r := n :: ms) hl
  have mn : minSD [ti (n :: ms)] = .ok (.int (minI n ms)) := d_minS seqI_t
  have c := comp_map (tm := tmName 2) (t := cYes) (e := C.e_is_round_1) (vs := [2]) (ws := []) (ρ := [some (prD ws), some (ti (n :: ms)), none]) ti (fun p => D.bl (inP ws p)) (stI (n :: ms)) fun p _ => by
    have g := get_pr (ws := ws) (p := p)
    simp only [turnC, C.e_is_round_1]
    unfold inP
    generalize ti p = T at *
    by_cases h : p ∈ prI ws
    · rw [if_pos h] at g
      simp [g, h]
    · rw [if_neg h] at g
      simp [g, h]
  have e2 : ((stI (n :: ms)).map fun p => D.bl (inP ws p)) = ((stI (n :: ms)).map (inP ws)).map D.bl := by rw [List.map_map]; rfl
  have al : allD [.lst ((stI (n :: ms)).map fun p => D.bl (inP ws p))] = .ok (.bl ((stI (n :: ms)).all (inP ws))) := by rw [e2, d_all, List.all_map]; rfl
  have zl : szOk ((stI (n :: ms)).map ti).length = true := szOk_of (by rw [List.length_map, stI_len]; omega)
  have hr : rndB ws (n :: ms) = (decide (n = minI n ms) && (stI (n :: ms)).all (inP ws)) := rfl
  have a0 : ixD (ti (n :: ms)) (.int 0) = .ok (.int n) := by
    have : atI (D.int n :: ms.map D.int) 0 = some (.int n) := atI_of (j := 0) rfl rfl
    simp [ixD, this]
  rw [hr]
  simp only [C.g_is_round, C.m_is_round]
  have sp : C.g_steps_round [ti (n :: ms)] = .ok (.fr (.lst ((stI (n :: ms)).map ti))) := sp
  generalize C.e_is_round_1 = E1 at *
  generalize ((stI (n :: ms)).map fun p => D.bl (inP ws p)) = Q at *
  generalize (stI (n :: ms)).map ti = S at *
  generalize (stI (n :: ms)).all (inP ws) = q at *
  generalize prD ws = PD at *
  clear hl e2
  generalize ti (n :: ms) = R at *
  by_cases c1 : n = minI n ms
  · rw [← c1] at mn ⊢
    simp [e_fnP, sp, mn, a0, zl, c, al, -d_all]
  · simp [e_fnP, sp, mn, a0, zl, c, al, c1, -d_all]
end H

set_option Elab.async false
set_option linter.all false
set_option maxRecDepth 100000
namespace H
open PySem PySem.Spec PyProof.Rows L2 Y
def pvI (r : List Int) (k : Nat) : Int := if k = 0 then r.getD (r.length - 1) 0 else r.getD (k - 1) 0
theorem at_pv {r : List Int} {k : Nat} (h : k < r.length) : atI (r.map D.int) ((k : Int) - 1) = some (.int (pvI r k)) := by
  unfold pvI
  by_cases c : k = 0
  · subst c
    rw [if_pos rfl]
    have hi : ixN (r.map D.int).length (((0 : Nat) : Int) - 1) = some (r.length - 1) := by
      unfold ixN
      rw [List.length_map]
      simp
      omega
    unfold atI
    rw [hi]
    show (r.map D.int)[r.length - 1]? = _
    rw [List.getElem?_map, List.getElem?_eq_getElem (by omega), List.getD_eq_getElem?_getD, List.getElem?_eq_getElem (by omega)]
    rfl
  · rw [if_neg c]
    have := atI_mapI (xs := r) (i := (k : Int) - 1) (by omega) (by omega)
    rw [this]
    congr 3
    omega
theorem ints_of : ∀ {xs : List D} {is : List Int}, intsOf xs = some is → xs = is.map D.int
  | [], is, h => by cases h; rfl
  | x :: xs, is, h => by
    cases x with
    | int i =>
      unfold intsOf at h
      cases e : intsOf xs with
      | none => rw [e] at h; cases h
      | some js =>
        rw [e] at h
        cases h
        rw [List.map_cons, ints_of e]
    | _ => cases h
def insB (m : Int) (is : List Int) : Bool := is.all fun x => decide (0 ≤ x ∧ x < m)
end H

set_option Elab.async false
set_option linter.all false
set_option maxRecDepth 100000
namespace H
open PySem PySem.Spec PyProof.Rows L2 Y
end H

set_option Elab.async false
set_option linter.all false
set_option maxRecDepth 100000
namespace H
open PySem PySem.Spec PyProof.Rows L2 Y
def fsI (x : List Int) : Int := x.getD 0 0
def lsI (x : List Int) : Int := x.getD (x.length - 1) 0
def stepG (ws : List (List Int)) (f : List Int) (p : List Int) : List Int := setI (f.map (fun s => s * fsI (sgs ws p)) ++ f.map (fun s => s * lsI (sgs ws p)))
theorem at_lastI {r : List Int} (h : r ≠ []) : atI (r.map D.int) (-1) = some (.int (lsI r)) := by
  have hl : 0 < r.length := List.length_pos_iff.mpr h
  have := at_pv hl
  rw [pvI, if_pos rfl] at this
  exact this
theorem mem_stepG {ws : List (List Int)} {f p : List Int} {y : Int} : y ∈ stepG ws f p ↔ ∃ s ∈ f, y = s * fsI (sgs ws p) ∨ y = s * lsI (sgs ws p) := by
  unfold stepG
  rw [setI_mem, List.mem_append, List.mem_map, List.mem_map]
  constructor
  · rintro (⟨s, h, rfl⟩ | ⟨s, h, rfl⟩)
    · exact ⟨s, h, .inl rfl⟩
    · exact ⟨s, h, .inr rfl⟩
  · rintro ⟨s, h, rfl | rfl⟩
    · exact .inl ⟨s, h, rfl⟩
    · exact .inr ⟨s, h, rfl⟩
def signsR (ws ps : List (List Int)) : List Int := ps.foldl (stepG ws) [1]
end H

set_option Elab.async false
set_option linter.all false
set_option maxRecDepth 100000
namespace H
open PySem PySem.Spec PyProof.Rows L2 Y
def kidsW (ws : List (List Int)) (m first : Nat) (w : List Int) : List (List Int) :=
  ((List.range ((m : Int) - ((first : Int) + 1)).toNat).filter fun i : Nat => !decide ((first : Int) + 1 + (i : Int) ∈ w) && inP ws [lsI w, (first : Int) + 1 + (i : Int)]).map fun i : Nat => w ++ [(first : Int) + 1 + (i : Int)]
def treeW (ws : List (List Int)) (m first : Nat) : Nat → List Int → List (List Int)
  | 0, w => [w]
  | n + 1, w => w :: (kidsW ws m first w).reverse.flatMap (treeW ws m first n)
def remW (ws : List (List Int)) (m first lg : Nat) (S : List (List Int)) : List (List Int) := S.reverse.flatMap fun w => treeW ws m first (lg - w.length) w
def closW (ws : List (List Int)) (first : Nat) (w : List Int) : Bool := inP ws [lsI w, (first : Int)]
theorem fm_congr {α β : Type} {f g : α → List β} : ∀ {L : List α}, (∀ x ∈ L, f x = g x) → L.flatMap f = L.flatMap g
  | [], _ => rfl
  | x :: L, h => by rw [List.flatMap_cons, List.flatMap_cons, h x (by simp), fm_congr fun y hy => h y (by simp [hy])]
theorem fm_le {α β : Type} {f : α → List β} : ∀ {L : List α}, (∀ x, f x ≠ []) → L.length ≤ (L.flatMap f).length
  | [], _ => Nat.le_refl _
  | x :: L, h => by
    rw [List.flatMap_cons, List.length_append, List.length_cons]
    have := fm_le (L := L) h
    have := List.length_pos_iff.mpr (h x)
    omega
theorem tree_ne {ws : List (List Int)} {m first n : Nat} {w : List Int} : treeW ws m first n w ≠ [] := by
  cases n <;> unfold treeW <;> simp
theorem rem_le {ws : List (List Int)} {m first lg : Nat} {S : List (List Int)} : S.length ≤ (remW ws m first lg S).length := by
  have := fm_le (L := S.reverse) (f := fun w => treeW ws m first (lg - w.length) w) fun w => tree_ne
  rw [List.length_reverse] at this
  exact this
theorem rem_app {ws : List (List Int)} {m first lg : Nat} {S K : List (List Int)} : remW ws m first lg (S ++ K) = (K.reverse.flatMap fun w => treeW ws m first (lg - w.length) w) ++ remW ws m first lg S := by
  unfold remW
  rw [List.reverse_append, List.flatMap_append]
theorem kids_len {ws : List (List Int)} {m first : Nat} {w k : List Int} (h : k ∈ kidsW ws m first w) : k.length = w.length + 1 := by
  unfold kidsW at h
  obtain ⟨i, _, rfl⟩ := List.mem_map.mp h
  simp
theorem rem_step {ws : List (List Int)} {m first lg : Nat} {S : List (List Int)} {w : List Int} (hw : w.length ≤ lg) : remW ws m first lg (S ++ [w]) = w :: remW ws m first lg (S ++ if w.length < lg then kidsW ws m first w else []) := by
  rw [rem_app, rem_app]
  simp only [List.reverse_cons, List.reverse_nil, List.nil_append, List.flatMap_cons, List.flatMap_nil, List.append_nil]
  by_cases c : w.length < lg
  · rw [if_pos c]
    obtain ⟨n, hn⟩ : ∃ n, lg - w.length = n + 1 := ⟨lg - w.length - 1, by omega⟩
    rw [hn]
    show w :: ((kidsW ws m first w).reverse.flatMap (treeW ws m first n)) ++ _ = _
    rw [List.cons_append]
    congr 2
    refine fm_congr fun k hk => ?_
    have := kids_len (List.mem_reverse.mp hk)
    rw [this]
    congr 1
    omega
  · rw [if_neg c]
    have : lg - w.length = 0 := by omega
    rw [this]
    rfl
theorem in_tI {x : Int} {xs : List Int} : inD (.int x) (ti xs) = .ok (.bl (decide (x ∈ xs))) := by
  have c1 : flatD (.int x) = true := rfl
  have c2 : (xs.map D.int).all flatD = true := by rw [List.all_map]; exact List.all_eq_true.mpr fun _ _ => rfl
  have e : ((xs.map D.int).any fun z => eqP z (.int x)) = decide (x ∈ xs) := by
    rw [List.any_map, Bool.eq_iff_iff, List.any_eq_true, decide_eq_true_eq]
    constructor
    · rintro ⟨y, hy, h⟩
      have h : eqP (.int y) (.int x) = true := h
      rw [eqP_int, beq_iff_eq] at h
      exact h ▸ hy
    · exact fun h => ⟨x, h, by show eqP (.int x) (.int x) = true; rw [eqP_int]; simp⟩
  show (match (if (flatD (.int x) && (xs.map D.int).all flatD) = true then some ((xs.map D.int).any fun z => eqP z (.int x)) else none) with | some b => R.ok (D.bl b) | none => .stk) = _
  rw [c1, c2, e]
  rfl
theorem rings_turn {ws S F : List (List Int)} {m first lg : Nat} {w : List Int} (hm : m ≤ 1000) (hf : first < m) (hlg : lg ≤ 1000) (hw : w ≠ []) (hwl : w.length ≤ 1000) (zf : F.length + 1 ≤ 10000000) (zs : (S ++ if w.length < lg then kidsW ws m first w else []).length ≤ 10000000) :
    C.b__law_rings_1 [some (prD ws), some (.int m), some (.int lg), some (lti F), some (.int first), some (lti (S ++ [w])), none, none] = .ok (.nx, [some (prD ws), some (.int m), some (.int lg), some (lti (F ++ if closW ws first w = true then [w] else [])), some (.int first), some (lti (S ++ if w.length < lg then kidsW ws m first w else [])), some (ti w), none]) := by
  have p1 : ((S ++ [w]).map ti)[((S ++ [w]).map ti).length - 1]? = some (ti w) := by simp
  have p2 : ((S ++ [w]).map ti).dropLast = S.map ti := by rw [List.map_append]; simp
  have al := at_lastI hw
  have gc := get_pr (ws := ws) (p := [lsI w, (first : Int)])
  have et : ti [lsI w, (first : Int)] = .tup [.int (lsI w), .int first] := rfl
  rw [et] at gc
  have ln : lenD [ti w] = .ok (.int w.length) := by simp
  have cp := comp_filter (tm := tmName 7) (t := C.t__law_rings_1) (e := C.e__law_rings_1) (vs := [7]) (ws := []) (ρ := [some (prD ws), some (.int m), some (.int lg), some (lti (F ++ if closW ws first w = true then [w] else [])), some (.int first), some (lti S), some (ti w), none]) (fun i : Nat => D.int ((first : Int) + 1 + (i : Int))) (fun i : Nat => !decide ((first : Int) + 1 + (i : Int) ∈ w) && inP ws [lsI w, (first : Int) + 1 + (i : Int)]) (fun i : Nat => ti (w ++ [(first : Int) + 1 + (i : Int)])) (List.range ((m : Int) - ((first : Int) + 1)).toNat) fun i _ => by
    generalize (first : Int) + 1 + (i : Int) = k at *
    have ni : ninD (.int k) (ti w) = .ok (.bl (!decide (k ∈ w))) := by
      exact nin_of in_tI
    have g := get_pr (ws := ws) (p := [lsI w, k])
    have et : ti [lsI w, k] = .tup [.int (lsI w), .int k] := rfl
    rw [et] at g
    have ad : addD (ti w) (.tup [.int k]) = .ok (ti (w ++ [k])) := by
      have z : szOk (w.map D.int).length = true := szOk_of (by rw [List.length_map]; omega)
      have z2 : szOk ((w.map D.int).length + [D.int k].length) = true := szOk_of (by rw [List.length_map]; simp; omega)
      rw [d_addT, if_pos z2, ← List.map_singleton, ← List.map_append]
    have ix : ixD (ti w) (.int (-1)) = .ok (.int (lsI w)) := by
      show (match atI (w.map D.int) (-1) with | some d => R.ok d | none => R.stk) = _
      rw [al]
    simp only [turnC, C.t__law_rings_1, C.e__law_rings_1]
    generalize lti S = LS at *
    generalize lti (F ++ if closW ws first w = true then [w] else []) = LF at *
    generalize ti (w ++ [k]) = T2 at *
    generalize ti w = T at *
    generalize prD ws = PD at *
    have hin : inP ws [lsI w, k] = decide ([lsI w, k] ∈ prI ws) := rfl
    rw [hin]
    by_cases c1 : k ∈ w
    · simp [ni, c1]
    · by_cases c2 : [lsI w, k] ∈ prI ws
      · rw [if_pos c2] at g
        simp [ni, c1, c2, ix, g, ad]
      · rw [if_neg c2] at g
        simp [ni, c1, c2, ix, g]
  have ek : (((List.range ((m : Int) - ((first : Int) + 1)).toNat).filter fun i : Nat => !decide ((first : Int) + 1 + (i : Int) ∈ w) && inP ws [lsI w, (first : Int) + 1 + (i : Int)]).map fun i : Nat => ti (w ++ [(first : Int) + 1 + (i : Int)])) = (kidsW ws m first w).map ti := by
    unfold kidsW
    rw [List.map_map]
    rfl
  rw [ek] at cp
  have rk1 : rngOk ((first : Int) + 1) = true := rngOk_of (by omega) (by omega)
  have rk2 : rngOk (m : Int) = true := rngOk_of (by omega) (by omega)
  have zk : szOk ((m : Int) - ((first : Int) + 1)).toNat = true := szOk_of (by omega)
  have ix : ixD (ti w) (.int (-1)) = .ok (.int (lsI w)) := by
    show (match atI (w.map D.int) (-1) with | some d => R.ok d | none => R.stk) = _
    rw [al]
  have zfa : szOk ((F.map ti).length + 1) = true := szOk_of (by rw [List.length_map]; omega)
  have zsa : w.length < lg → szOk ((S.map ti).length + ((kidsW ws m first w).map ti).length) = true := fun c => by
    rw [if_pos c, List.length_append] at zs
    exact szOk_of (by rw [List.length_map, List.length_map]; omega)
  have hcl : closW ws first w = decide ([lsI w, (first : Int)] ∈ prI ws) := rfl
  have m1 : lti (F ++ [w]) = .lst (F.map ti ++ [ti w]) := by show D.lst _ = _; rw [List.map_append]; rfl
  have m2 : lti (S ++ kidsW ws m first w) = .lst (S.map ti ++ (kidsW ws m first w).map ti) := by show D.lst _ = _; rw [List.map_append]
  have m3 : lti F = .lst (F.map ti) := rfl
  have m4 : lti S = .lst (S.map ti) := rfl
  have m5 : lti (S ++ [w]) = .lst ((S ++ [w]).map ti) := rfl
  have lt : ltD (.int w.length) (.int lg) = .ok (.bl (decide (w.length < lg))) := by
    have e : decide ((w.length : Int) < (lg : Int)) = decide (w.length < lg) := by
      rw [decide_eq_decide]
      exact Int.ofNat_lt
    rw [d_lt, e]
  clear zs
  rw [m5]
  rw [hcl] at cp ⊢
  by_cases c1 : [lsI w, (first : Int)] ∈ prI ws
  · rw [if_pos c1] at gc
    rw [decide_eq_true c1, if_pos rfl, m1, m4] at cp
    rw [decide_eq_true c1, if_pos rfl, m1, m3]
    by_cases c2 : w.length < lg
    · have zsa := zsa c2
      rw [decide_eq_true c2] at lt
      rw [if_pos c2, m2]
      generalize (S ++ [w]).map ti = SW at *
      generalize (kidsW ws m first w).map ti = KW at *
      generalize S.map ti = SD at *
      generalize F.map ti = FD at *
      generalize ti w = T at *
      simp only [C.b__law_rings_1]
      generalize C.t__law_rings_1 = TT at *
      generalize C.e__law_rings_1 = EE at *
      generalize prD ws = PD at *
      simp [p1, p2, ix, gc, zfa, ln, lt, rk1, rk2, zk, cp, zsa, -d_lt]
    · rw [decide_eq_false c2] at lt
      rw [if_neg c2, List.append_nil, m4]
      generalize (S ++ [w]).map ti = SW at *
      generalize S.map ti = SD at *
      generalize F.map ti = FD at *
      generalize ti w = T at *
      simp only [C.b__law_rings_1]
      generalize C.t__law_rings_1 = TT at *
      generalize C.e__law_rings_1 = EE at *
      generalize prD ws = PD at *
      simp [p1, p2, ix, gc, zfa, ln, lt, -d_lt]
  · rw [if_neg c1] at gc
    rw [decide_eq_false c1, if_neg Bool.false_ne_true, List.append_nil, m3, m4] at cp
    rw [decide_eq_false c1, if_neg Bool.false_ne_true, List.append_nil, m3]
    by_cases c2 : w.length < lg
    · have zsa := zsa c2
      rw [decide_eq_true c2] at lt
      rw [if_pos c2, m2]
      generalize (S ++ [w]).map ti = SW at *
      generalize (kidsW ws m first w).map ti = KW at *
      generalize S.map ti = SD at *
      generalize F.map ti = FD at *
      generalize ti w = T at *
      simp only [C.b__law_rings_1]
      generalize C.t__law_rings_1 = TT at *
      generalize C.e__law_rings_1 = EE at *
      generalize prD ws = PD at *
      simp [p1, p2, ix, gc, ln, lt, rk1, rk2, zk, cp, zsa, -d_lt]
    · rw [decide_eq_false c2] at lt
      rw [if_neg c2, List.append_nil, m4]
      generalize (S ++ [w]).map ti = SW at *
      generalize S.map ti = SD at *
      generalize F.map ti = FD at *
      generalize ti w = T at *
      simp only [C.b__law_rings_1]
      generalize C.t__law_rings_1 = TT at *
      generalize C.e__law_rings_1 = EE at *
      generalize prD ws = PD at *
      simp [p1, p2, ix, gc, ln, lt, -d_lt]
theorem ne_nilL {S : List (List Int)} : neD (lti S) (.lst []) = .ok (.bl (!S.isEmpty)) := by
  have e : neD (lti S) (lti []) = .ok (.bl (!decide (S = []))) := by
    rw [neD_of (fit_lti (n := 1)) (fit_lti (n := 1))]
    cases S with
    | nil => rfl
    | cons a S => rfl
  have e2 : decide (S = []) = S.isEmpty := by cases S <;> rfl
  rw [← e2]
  exact e
theorem rings_run {ws : List (List Int)} {m first lg : Nat} (hm : m ≤ 1000) (hf : first < m) (hlg : lg ≤ 1000) : ∀ (N : Nat) (S F : List (List Int)), (remW ws m first lg S).length = N → (∀ w ∈ S, w ≠ [] ∧ w.length ≤ lg) → F.length + N ≤ 10000000 →
    whileN (cBl (cOp neD (cOwn 5) (cLst (cNil)))) C.b__law_rings_1 [6] (N + 1) [some (prD ws), some (.int m), some (.int lg), some (lti F), some (.int first), some (lti S), none, none] = .ok (.nx, [some (prD ws), some (.int m), some (.int lg), some (lti (F ++ (remW ws m first lg S).filter (closW ws first))), some (.int first), some (lti []), none, none])
  | 0, S, F, hN, _, _ => by
    have l := rem_le (ws := ws) (m := m) (first := first) (lg := lg) (S := S)
    have e : S = [] := List.eq_nil_of_length_eq_zero (by omega)
    subst e
    have ne := ne_nilL (S := [])
    have t : (cBl (cOp neD (cOwn 5) (cLst (cNil)))) [some (prD ws), some (.int m), some (.int lg), some (lti F), some (.int first), some (lti []), none, none] = .ok (false, [some (prD ws), some (.int m), some (.int lg), some (lti F), some (.int first), some (lti []), none, none]) := by
      have z0 : szOk ([] : List D).length = true := szOk_of (by simp)
      generalize lti [] = L0 at *
      generalize lti F = LF at *
      generalize prD ws = PD at *
      simp [ne]
    rw [whileN_stop t]
    have : (remW ws m first lg []).filter (closW ws first) = [] := rfl
    rw [this, List.append_nil]
  | N + 1, S, F, hN, hS, hz => by
    rcases List.eq_nil_or_concat S with e | ⟨S', w, e⟩
    · subst e; cases hN
    · rw [List.concat_eq_append] at e
      subst e
      obtain ⟨w1, w2⟩ := hS w (by simp)
      have rs := rem_step (ws := ws) (m := m) (first := first) (S := S') w2
      rw [rs, List.length_cons] at hN
      have l2 := rem_le (ws := ws) (m := m) (first := first) (lg := lg) (S := S' ++ if w.length < lg then kidsW ws m first w else [])
      have tn := rings_turn (ws := ws) (S := S') (F := F) (first := first) (lg := lg) hm hf hlg w1 (by omega) (by omega) (by omega)
      have ih := rings_run (ws := ws) hm hf hlg N (S' ++ if w.length < lg then kidsW ws m first w else []) (F ++ if closW ws first w = true then [w] else []) (by omega) (fun k hk => by
        rcases List.mem_append.mp hk with hk | hk
        · exact hS k (by simp [hk])
        · by_cases c : w.length < lg
          · rw [if_pos c] at hk
            have := kids_len hk
            exact ⟨fun z => by rw [z] at this; simp at this, by omega⟩
          · rw [if_neg c] at hk; cases hk) (by
        rw [List.length_append]
        by_cases c : closW ws first w = true
        · rw [if_pos c]; simp; omega
        · rw [if_neg c]; simp; omega)
      have ne := ne_nilL (S := S' ++ [w])
      have hne : (S' ++ [w]).isEmpty = false := by cases S' <;> rfl
      rw [hne] at ne
      have t : (cBl (cOp neD (cOwn 5) (cLst (cNil)))) [some (prD ws), some (.int m), some (.int lg), some (lti F), some (.int first), some (lti (S' ++ [w])), none, none] = .ok (true, [some (prD ws), some (.int m), some (.int lg), some (lti F), some (.int first), some (lti (S' ++ [w])), none, none]) := by
        generalize lti (S' ++ [w]) = L0 at *
        generalize lti F = LF at *
        generalize prD ws = PD at *
        simp [ne]
      rw [whileN_step t tn, rs]
      have e2 : wipeE [some (prD ws), some (.int m), some (.int lg), some (lti (F ++ if closW ws first w = true then [w] else [])), some (.int first), some (lti (S' ++ if w.length < lg then kidsW ws m first w else [])), some (ti w), none] [6] = [some (prD ws), some (.int m), some (.int lg), some (lti (F ++ if closW ws first w = true then [w] else [])), some (.int first), some (lti (S' ++ if w.length < lg then kidsW ws m first w else [])), none, none] := rfl
      rw [e2, ih, List.append_assoc]
      have e3 : (w :: remW ws m first lg (S' ++ if w.length < lg then kidsW ws m first w else [])).filter (closW ws first) = (if closW ws first w = true then [w] else []) ++ (remW ws m first lg (S' ++ if w.length < lg then kidsW ws m first w else [])).filter (closW ws first) := by
        rw [List.filter_cons]
        by_cases c : closW ws first w = true
        · rw [if_pos c, if_pos c]; rfl
        · rw [if_neg c, if_neg c]; rfl
      rw [e3]
end H

set_option Elab.async false
set_option linter.all false
set_option maxRecDepth 100000
namespace H
open PySem PySem.Spec PyProof.Rows L2 Y
def ringsF (ws : List (List Int)) (m lg f : Nat) : List (List Int) := (treeW ws m f (lg - 1) [(f : Int)]).filter (closW ws f)
def ringsL (ws : List (List Int)) (m lg : Nat) : List (List Int) := (List.range m).flatMap (ringsF ws m lg)
theorem tree_mem {ws : List (List Int)} {m first : Nat} : ∀ {n : Nat} {w x : List Int}, x ∈ treeW ws m first n w → w.length ≤ x.length ∧ x.length ≤ w.length + n
  | 0, w, x, h => by
    have : x = w := by simpa [treeW] using h
    subst this
    exact ⟨Nat.le_refl _, Nat.le_refl _⟩
  | n + 1, w, x, h => by
    unfold treeW at h
    rcases List.mem_cons.mp h with h | h
    · subst h; exact ⟨Nat.le_refl _, by omega⟩
    · obtain ⟨k, hk, hx⟩ := List.mem_flatMap.mp h
      have l1 := kids_len (List.mem_reverse.mp hk)
      have := tree_mem hx
      omega
theorem rings_mem {ws : List (List Int)} {m lg : Nat} {r : List Int} (hlg : 1 ≤ lg) (h : r ∈ ringsL ws m lg) : r ≠ [] ∧ r.length ≤ lg := by
  obtain ⟨f, _, h⟩ := List.mem_flatMap.mp h
  have := tree_mem (List.mem_filter.mp h).1
  simp only [List.length_singleton] at this
  exact ⟨fun z => by rw [z] at this; simp at this, by omega⟩
end H

set_option Elab.async false
set_option linter.all false
set_option maxRecDepth 100000
namespace H
open PySem PySem.Spec PyProof.Rows L2 Y
end H

set_option Elab.async false
set_option linter.all false
set_option maxRecDepth 100000
namespace H
open PySem PySem.Spec PyProof.Rows L2 Y
def rowsI : Nat → List Int → List (List Int)
  | 0, _ => [[]]
  | n + 1, xs => xs.flatMap fun x => (rowsI n (xs.filter fun y => !decide (y = x))).map fun r => x :: r
theorem rows_mem : ∀ {n : Nat} {xs r : List Int}, r ∈ rowsI n xs ↔ r.length = n ∧ r.Nodup ∧ ∀ x ∈ r, x ∈ xs
  | 0, xs, r => by
    unfold rowsI
    rw [List.mem_singleton]
    constructor
    · rintro rfl; exact ⟨rfl, List.nodup_nil, by simp⟩
    · rintro ⟨h, _⟩; exact List.eq_nil_of_length_eq_zero h
  | n + 1, xs, r => by
    unfold rowsI
    rw [List.mem_flatMap]
    constructor
    · rintro ⟨x, hx, h⟩
      obtain ⟨t, ht, rfl⟩ := List.mem_map.mp h
      obtain ⟨h1, h2, h3⟩ := rows_mem.mp ht
      have h4 : ∀ y ∈ t, y ∈ xs ∧ y ≠ x := fun y hy => by
        have := List.mem_filter.mp (h3 y hy)
        exact ⟨this.1, by simpa using this.2⟩
      exact ⟨by simp [h1], List.nodup_cons.mpr ⟨fun z => (h4 x z).2 rfl, h2⟩, fun y hy => by
        rcases List.mem_cons.mp hy with rfl | hy
        · exact hx
        · exact (h4 y hy).1⟩
    · rintro ⟨h1, h2, h3⟩
      cases r with
      | nil => cases h1
      | cons x t =>
        obtain ⟨n1, n2⟩ := List.nodup_cons.mp h2
        refine ⟨x, h3 x (by simp), List.mem_map.mpr ⟨t, rows_mem.mpr ⟨by simpa using h1, n2, fun y hy => List.mem_filter.mpr ⟨h3 y (by simp [hy]), ?_⟩⟩, rfl⟩⟩
        have : y ≠ x := fun z => n1 (z ▸ hy)
        simpa using this
theorem fm_nd {α β : Type} {f : α → List β} : ∀ {L : List α}, L.Nodup → (∀ x ∈ L, (f x).Nodup) → (∀ x ∈ L, ∀ y ∈ L, ∀ z, z ∈ f x → z ∈ f y → x = y) → (L.flatMap f).Nodup
  | [], _, _, _ => List.nodup_nil
  | x :: L, nd, h1, h2 => by
    obtain ⟨n1, n2⟩ := List.nodup_cons.mp nd
    rw [List.flatMap_cons]
    refine List.nodup_append.mpr ⟨h1 x (by simp), fm_nd n2 (fun y hy => h1 y (by simp [hy])) fun y hy z hz => h2 y (by simp [hy]) z (by simp [hz]), ?_⟩
    intro a ha b hb e
    subst e
    obtain ⟨y, hy, hb⟩ := List.mem_flatMap.mp hb
    have := h2 x (by simp) y (by simp [hy]) a ha hb
    exact n1 (this ▸ hy)
theorem rows_nd : ∀ {n : Nat} {xs : List Int}, xs.Nodup → (rowsI n xs).Nodup
  | 0, xs, _ => by unfold rowsI; exact List.nodup_cons.mpr ⟨by simp, List.nodup_nil⟩
  | n + 1, xs, nd => by
    unfold rowsI
    refine fm_nd nd (fun x _ => ?_) fun x _ y _ z hx hy => ?_
    · have := rows_nd (n := n) (nd.filter (fun y => !decide (y = x)))
      exact List.Pairwise.map _ (fun a b h z => h (List.cons.inj z).2) this
    · obtain ⟨a, _, rfl⟩ := List.mem_map.mp hx
      obtain ⟨b, _, e⟩ := List.mem_map.mp hy
      exact (List.cons.inj e).1.symm
end H

set_option Elab.async false
set_option linter.all false
set_option maxRecDepth 100000
namespace H
open PySem PySem.Spec PyProof.Rows L2 Y
def withR (ws : List (List Int)) (m n : Nat) : List (List Int) := (rowsI n (rgI m)).filter (rndB ws)
def allR (ws : List (List Int)) (m : Nat) : List (List Int) := (List.range m).flatMap fun n => withR ws m (n + 1)
theorem rgI_len {m : Nat} : (rgI m).length = m := by unfold rgI; simp
end H

set_option Elab.async false
set_option linter.all false
set_option maxRecDepth 100000
namespace H
open PySem PySem.Spec PyProof.Rows L2 Y
def Ext (ws : List (List Int)) (m first : Nat) : List Int → List Int → Prop
  | _, [] => True
  | w, k :: s => ((first : Int) < k ∧ k < m) ∧ k ∉ w ∧ [lsI w, k] ∈ prI ws ∧ Ext ws m first (w ++ [k]) s
theorem kids_mem {ws : List (List Int)} {m first : Nat} {w x : List Int} : x ∈ kidsW ws m first w ↔ ∃ k : Int, x = w ++ [k] ∧ ((first : Int) < k ∧ k < m) ∧ k ∉ w ∧ [lsI w, k] ∈ prI ws := by
  unfold kidsW
  rw [List.mem_map]
  constructor
  · rintro ⟨i, hi, rfl⟩
    obtain ⟨h1, h2⟩ := List.mem_filter.mp hi
    rw [List.mem_range] at h1
    rw [Bool.and_eq_true] at h2
    refine ⟨_, rfl, ⟨by omega, by omega⟩, by simpa using h2.1, of_decide_eq_true h2.2⟩
  · rintro ⟨k, rfl, ⟨h1, h2⟩, h3, h4⟩
    have e : (first : Int) + 1 + ((k - ((first : Int) + 1)).toNat : Int) = k := by omega
    refine ⟨(k - ((first : Int) + 1)).toNat, List.mem_filter.mpr ⟨List.mem_range.mpr (by omega), ?_⟩, by rw [e]⟩
    rw [e, Bool.and_eq_true]
    exact ⟨by simpa using h3, decide_eq_true h4⟩
theorem tree_iff {ws : List (List Int)} {m first : Nat} : ∀ {n : Nat} {w r : List Int}, r ∈ treeW ws m first n w ↔ ∃ s, r = w ++ s ∧ s.length ≤ n ∧ Ext ws m first w s
  | 0, w, r => by
    unfold treeW
    rw [List.mem_singleton]
    constructor
    · rintro rfl; exact ⟨[], by simp, by simp, trivial⟩
    · rintro ⟨s, rfl, h, _⟩
      rw [List.eq_nil_of_length_eq_zero (by omega : s.length = 0), List.append_nil]
  | n + 1, w, r => by
    unfold treeW
    rw [List.mem_cons, List.mem_flatMap]
    constructor
    · rintro (rfl | ⟨x, hx, hr⟩)
      · exact ⟨[], by simp, by simp, trivial⟩
      · obtain ⟨k, rfl, h1, h2, h3⟩ := kids_mem.mp (List.mem_reverse.mp hx)
        obtain ⟨s, rfl, h4, h5⟩ := tree_iff.mp hr
        exact ⟨k :: s, by simp, by simpa using h4, h1, h2, h3, h5⟩
    · rintro ⟨s, rfl, h, e⟩
      cases s with
      | nil => exact .inl (by simp)
      | cons k s =>
        obtain ⟨h1, h2, h3, h4⟩ := e
        exact .inr ⟨w ++ [k], List.mem_reverse.mpr (kids_mem.mpr ⟨k, rfl, h1, h2, h3⟩), tree_iff.mpr ⟨s, by simp, by simpa using h, h4⟩⟩
theorem kids_nd {ws : List (List Int)} {m first : Nat} {w : List Int} : (kidsW ws m first w).Nodup := by
  unfold kidsW
  refine List.Pairwise.map _ (fun a b h z => h ?_) (List.nodup_range.filter _)
  have := List.append_cancel_left z
  have := (List.cons.inj this).1
  omega
theorem tree_nd {ws : List (List Int)} {m first : Nat} : ∀ {n : Nat} {w : List Int}, (treeW ws m first n w).Nodup
  | 0, w => by unfold treeW; exact List.nodup_cons.mpr ⟨by simp, List.nodup_nil⟩
  | n + 1, w => by
    unfold treeW
    refine List.nodup_cons.mpr ⟨fun z => ?_, fm_nd ((List.reverse_perm _).nodup_iff.mpr kids_nd) (fun x _ => tree_nd) fun x hx y hy z h1 h2 => ?_⟩
    · obtain ⟨x, hx, hr⟩ := List.mem_flatMap.mp z
      have l1 := kids_len (List.mem_reverse.mp hx)
      have := tree_mem hr
      omega
    · obtain ⟨k, rfl, _⟩ := kids_mem.mp (List.mem_reverse.mp hx)
      obtain ⟨k', rfl, _⟩ := kids_mem.mp (List.mem_reverse.mp hy)
      obtain ⟨s, e1, _⟩ := tree_iff.mp h1
      obtain ⟨s', e2, _⟩ := tree_iff.mp h2
      rw [e1, List.append_assoc, List.append_assoc] at e2
      have := List.append_cancel_left e2
      rw [(List.cons.inj this).1]
def adj : Int → List Int → List (List Int)
  | _, [] => []
  | a, k :: s => [a, k] :: adj k s
theorem ls_snoc {w : List Int} {k : Int} : lsI (w ++ [k]) = k := by
  unfold lsI
  rw [List.getD_eq_getElem?_getD]
  simp
theorem ls_cons {a k : Int} {s : List Int} : lsI (a :: k :: s) = lsI (k :: s) := by
  unfold lsI
  rw [List.getD_eq_getElem?_getD, List.getD_eq_getElem?_getD]
  simp
theorem ext_iff {ws : List (List Int)} {m first : Nat} : ∀ {s w : List Int}, Ext ws m first w s ↔ (∀ x ∈ s, (first : Int) < x ∧ x < m) ∧ (∀ x ∈ s, x ∉ w) ∧ s.Nodup ∧ ∀ p ∈ adj (lsI w) s, p ∈ prI ws
  | [], w => by simp [Ext, adj]
  | k :: s, w => by
    unfold Ext adj
    rw [ext_iff, ls_snoc, List.nodup_cons]
    constructor
    · rintro ⟨h1, h2, h3, h4, h5, h6, h7⟩
      refine ⟨fun x hx => ?_, fun x hx => ?_, ⟨fun z => h5 k z (by simp), h6⟩, fun p hp => ?_⟩
      · rcases List.mem_cons.mp hx with rfl | hx
        · exact h1
        · exact h4 x hx
      · rcases List.mem_cons.mp hx with rfl | hx
        · exact h2
        · exact fun z => h5 x hx (by simp [z])
      · rcases List.mem_cons.mp hp with rfl | hp
        · exact h3
        · exact h7 p hp
    · rintro ⟨h1, h2, ⟨h3, h4⟩, h5⟩
      refine ⟨h1 k (by simp), h2 k (by simp), h5 _ (by simp), fun x hx => h1 x (by simp [hx]), fun x hx z => ?_, h4, fun p hp => h5 p (by simp [hp])⟩
      rcases List.mem_append.mp z with z | z
      · exact h2 x (by simp [hx]) z
      · rw [List.mem_singleton] at z
        exact h3 (z ▸ hx)
theorem zip_adj : ∀ {s : List Int} {a z : Int}, (((a :: s).zip (s ++ [z])).map fun p => [p.1, p.2]) = adj a s ++ [[lsI (a :: s), z]]
  | [], a, z => rfl
  | k :: s, a, z => by
    rw [ls_cons]
    have ih := zip_adj (s := s) (a := k) (z := z)
    show [a, k] :: (((k :: s).zip (s ++ [z])).map fun p => [p.1, p.2]) = _
    rw [ih]
    rfl
theorem stI_adj {a : Int} {s : List Int} : stI (a :: s) = adj a s ++ [[lsI (a :: s), a]] := zip_adj
theorem mem_rg {m : Nat} {x : Int} : x ∈ rgI m ↔ 0 ≤ x ∧ x < m := by
  unfold rgI
  rw [List.mem_map]
  constructor
  · rintro ⟨k, hk, rfl⟩
    have := List.mem_range.mp hk
    omega
  · rintro ⟨h1, h2⟩
    exact ⟨x.toNat, List.mem_range.mpr (by omega), by omega⟩
theorem min_iff {a : Int} {s : List Int} : a = minI a s ↔ ∀ x ∈ s, a ≤ x := by
  constructor
  · intro h x hx
    rw [h]
    exact minI_le (by simp [hx])
  · intro h
    refine Int.le_antisymm ?_ (minI_le (by simp))
    rcases List.mem_cons.mp (minI_mem (n := a) (ms := s)) with e | e
    · omega
    · exact h _ e
theorem rnd_iff {ws : List (List Int)} {a : Int} {s : List Int} : rndB ws (a :: s) = true ↔ (∀ x ∈ s, a ≤ x) ∧ (∀ p ∈ adj a s, p ∈ prI ws) ∧ [lsI (a :: s), a] ∈ prI ws := by
  show (decide (a = minI a s) && (stI (a :: s)).all (inP ws)) = true ↔ _
  rw [Bool.and_eq_true, decide_eq_true_eq, min_iff, List.all_eq_true, stI_adj]
  constructor
  · rintro ⟨h1, h2⟩
    exact ⟨h1, fun p hp => of_decide_eq_true (h2 p (by simp [hp])), of_decide_eq_true (h2 _ (by simp))⟩
  · rintro ⟨h1, h2, h3⟩
    refine ⟨h1, fun p hp => ?_⟩
    rcases List.mem_append.mp hp with hp | hp
    · exact decide_eq_true (h2 p hp)
    · rw [List.mem_singleton.mp hp]; exact decide_eq_true h3
theorem ringsL_nd {ws : List (List Int)} {m lg : Nat} : (ringsL ws m lg).Nodup := by
  unfold ringsL ringsF
  refine fm_nd List.nodup_range (fun f _ => tree_nd.filter _) fun f hf g hg z h1 h2 => ?_
  obtain ⟨s, e1, _⟩ := tree_iff.mp (List.mem_filter.mp h1).1
  obtain ⟨t, e2, _⟩ := tree_iff.mp (List.mem_filter.mp h2).1
  rw [e1] at e2
  have := (List.cons.inj e2).1
  omega
end H

set_option Elab.async false
set_option linter.all false
set_option maxRecDepth 100000
namespace H
open PySem PySem.Spec PyProof.Rows L2 Y
def RiseI (r : List Int) : Prop := r.Pairwise (· < ·)
end H

set_option Elab.async false
set_option linter.all false
set_option maxRecDepth 100000
namespace H
open PySem PySem.Spec PyProof.Rows L2 Y
end H

set_option Elab.async false
set_option linter.all false
set_option maxRecDepth 100000
namespace H
open PySem PySem.Spec PyProof.Rows L2 Y
theorem rg_rise {m : Nat} : RiseI (rgI m) := by
  unfold RiseI rgI
  refine List.Pairwise.map _ (fun a b h => ?_) List.pairwise_lt_range
  omega
end H

set_option Elab.async false
set_option linter.all false
set_option maxRecDepth 100000
namespace H
open PySem PySem.Spec PyProof.Rows L2 Y
end H

set_option Elab.async false
set_option linter.all false
set_option maxRecDepth 100000
namespace H
open PySem PySem.Spec PyProof.Rows L2 Y
theorem eq_nilLT {S : List (List Int)} : eqD (lti S) (.lst []) = .ok (.bl S.isEmpty) := by
  have e : eqD (lti S) (lti []) = .ok (.bl (decide (S = []))) := by
    rw [eqD_of (fit_lti (n := 1)) (fit_lti (n := 1))]
    cases S with
    | nil => rfl
    | cons a S => rfl
  have e2 : decide (S = []) = S.isEmpty := by cases S <;> rfl
  rw [← e2]
  exact e
end H

set_option Elab.async false
set_option linter.all false
set_option maxRecDepth 100000
namespace H
open PySem PySem.Spec PyProof.Rows L2 Y
end H

set_option Elab.async false
set_option linter.all false
set_option maxRecDepth 100000
namespace H
open PySem PySem.Spec PyProof.Rows L2 Y
end H

set_option Elab.async false
set_option linter.all false
set_option maxRecDepth 100000
namespace H
open PySem PySem.Spec PyProof.Rows L2 Y
theorem for_first {α β : Type} {tm : GM} {body : SM} {vs ws : List Nat} (F : α → D) (f : α → Option β) (hd : β → Hd) : ∀ (xs : List α) (ρ : Y.Env), (∀ x ∈ xs, (f x = none → turnF tm body vs (F x) ρ = .ok (.nx, ρ)) ∧ (∀ b, f x = some b → ∃ ρ', turnF tm body vs (F x) ρ = .ok (.rt (hd b), ρ'))) →
    (xs.findSome? f = none → forL tm body vs ws (xs.map F) ρ = .ok (.nx, ρ)) ∧ (∀ b, xs.findSome? f = some b → ∃ ρ', forL tm body vs ws (xs.map F) ρ = .ok (.rt (hd b), ρ'))
  | [], ρ, _ => ⟨fun _ => rfl, fun b h => by cases h⟩
  | x :: xs, ρ, h => by
    obtain ⟨h1, h2⟩ := h x (by simp)
    have ih := for_first (ws := ws) F f hd xs ρ fun y hy => h y (by simp [hy])
    rw [List.map_cons, List.findSome?_cons]
    cases e : f x with
    | none =>
      have t := h1 e
      refine ⟨fun z => for_cons t (fun _ _ => rfl) (ih.1 z), fun b z => ?_⟩
      obtain ⟨ρ', r⟩ := ih.2 b z
      exact ⟨ρ', for_cons t (fun _ _ => rfl) r⟩
    | some b0 =>
      obtain ⟨ρ', t⟩ := h2 b0 e
      refine ⟨fun z => (by cases z), fun b z => ?_⟩
      cases z
      exact ⟨ρ', for_rt t⟩
end H

set_option Elab.async false
set_option linter.all false
set_option maxRecDepth 100000
namespace H
open PySem PySem.Spec PyProof.Rows L2 Y
end H

set_option Elab.async false
set_option linter.all false
set_option maxRecDepth 100000
namespace H
open PySem PySem.Spec PyProof.Rows L2 Y
abbrev StpT := Nat × Int
def wkE (Q : Nat → Nat → Int → Prop) : Nat → List StpT → Prop
  | _, [] => True
  | a, p :: L => Q a p.1 p.2 ∧ wkE Q p.1 L
def endV : Nat → List StpT → Nat
  | a, [] => a
  | _, p :: L => endV p.1 L
def sgW : List StpT → Int
  | [] => 1
  | p :: L => p.2 * sgW L
section
variable {Q : Nat → Nat → Int → Prop}
theorem wk_app : ∀ {A B : List StpT} {a : Nat}, wkE Q a (A ++ B) ↔ wkE Q a A ∧ wkE Q (endV a A) B
  | [], B, a => by simp [wkE, endV]
  | p :: A, B, a => by
    show (Q a p.1 p.2 ∧ wkE Q p.1 (A ++ B)) ↔ (Q a p.1 p.2 ∧ wkE Q p.1 A) ∧ wkE Q (endV p.1 A) B
    rw [wk_app, and_assoc]
theorem end_app : ∀ {A B : List StpT} {a : Nat}, endV a (A ++ B) = endV (endV a A) B
  | [], B, a => rfl
  | p :: A, B, a => by
    show endV p.1 (A ++ B) = endV (endV p.1 A) B
    exact end_app
theorem sg_app : ∀ {A B : List StpT}, sgW (A ++ B) = sgW A * sgW B
  | [], B => by show sgW B = 1 * sgW B; omega
  | p :: A, B => by
    show p.2 * sgW (A ++ B) = p.2 * sgW A * sgW B
    rw [sg_app, Int.mul_assoc]
theorem nd_split : ∀ {L : List StpT}, ¬ (L.map (·.1)).Nodup → ∃ A x B y C, L = A ++ x :: (B ++ y :: C) ∧ x.1 = y.1
  | [], h => absurd (by simp) h
  | p :: L, h => by
    by_cases c : p.1 ∈ L.map (·.1)
    · obtain ⟨y, hy, e⟩ := List.mem_map.mp c
      obtain ⟨B, C, rfl⟩ := List.append_of_mem hy
      exact ⟨[], p, B, y, C, rfl, e.symm⟩
    · have : ¬ (L.map (·.1)).Nodup := fun z => h (by rw [List.map_cons, List.nodup_cons]; exact ⟨c, z⟩)
      obtain ⟨A, x, B, y, C, rfl, e⟩ := nd_split this
      exact ⟨p :: A, x, B, y, C, rfl, e⟩
theorem wk_inner {A B C : List StpT} {x y : StpT} {a : Nat} (h : wkE Q a (A ++ x :: (B ++ y :: C))) (e : x.1 = y.1) : wkE Q x.1 (B ++ [y]) ∧ endV x.1 (B ++ [y]) = x.1 := by
  have h1 := (wk_app.mp h).2.2
  have h2 := wk_app.mp h1
  refine ⟨wk_app.mpr ⟨h2.1, h2.2.1, trivial⟩, ?_⟩
  rw [end_app]
  exact e.symm
theorem simple_of : ∀ (n : Nat) {a : Nat} {L : List StpT}, L.length ≤ n → L ≠ [] → wkE Q a L → endV a L = a → ∃ a' L', L' ≠ [] ∧ wkE Q a' L' ∧ endV a' L' = a' ∧ (L'.map (·.1)).Nodup
  | 0, a, L, hl, hn, _, _ => absurd (List.eq_nil_of_length_eq_zero (by omega)) hn
  | n + 1, a, L, hl, hn, hw, he => by
    by_cases nd : (L.map (·.1)).Nodup
    · exact ⟨a, L, hn, hw, he, nd⟩
    · obtain ⟨A, x, B, y, C, rfl, e⟩ := nd_split nd
      obtain ⟨i1, i2⟩ := wk_inner hw e
      exact simple_of n (by simp at hl ⊢; omega) (by simp) i1 i2
end
def prs : Nat → List StpT → List (List Int)
  | _, [] => []
  | a, p :: L => [(a : Int), (p.1 : Int)] :: prs p.1 L
abbrev vs' (K : List StpT) : List Int := K.map fun p => (p.1 : Int)
theorem prs_adj : ∀ {K : List StpT} {a : Nat} {z : StpT}, prs a (K ++ [z]) = adj (a : Int) (vs' K) ++ [[lsI ((a : Int) :: vs' K), (z.1 : Int)]]
  | [], a, z => rfl
  | p :: K, a, z => by
    show [(a : Int), (p.1 : Int)] :: prs p.1 (K ++ [z]) = [(a : Int), (p.1 : Int)] :: adj (p.1 : Int) (vs' K) ++ [[lsI ((a : Int) :: (p.1 : Int) :: vs' K), (z.1 : Int)]]
    rw [prs_adj, ls_cons]
    rfl
section
variable {ws : List (List Int)} {m : Nat}
def inW (ws : List (List Int)) (a b : Nat) (s : Int) : Prop := [(a : Int), (b : Int), s] ∈ ws
theorem inW_ok (h : WOk m ws) {a b : Nat} {s : Int} (e : inW ws a b s) : a < m ∧ b < m ∧ (s = 1 ∨ s = -1) := by
  obtain ⟨j, k, hj, hk, q⟩ := h.2 _ e
  rcases q with q | q
  · injection q with q1 q; injection q with q2 q; injection q with q3 q
    exact ⟨by omega, by omega, .inl q3⟩
  · injection q with q1 q; injection q with q2 q; injection q with q3 q
    exact ⟨by omega, by omega, .inr q3⟩
theorem inW_pr {a b : Nat} {s : Int} (e : inW ws a b s) : [(a : Int), (b : Int)] ∈ prI ws := mem_prI.mpr ⟨_, e, rfl⟩
theorem inW_sg {a b : Nat} {s : Int} (e : inW ws a b s) : s ∈ sgs ws [(a : Int), (b : Int)] := by
  unfold sgs
  exact List.mem_map.mpr ⟨_, List.mem_filter.mpr ⟨e, decide_eq_true rfl⟩, rfl⟩
theorem sgs_ends (h : WOk m ws) {p : List Int} {s : Int} (hs : s ∈ sgs ws p) : s = fsI (sgs ws p) ∨ s = lsI (sgs ws p) := by
  have mem : ∀ x ∈ sgs ws p, x ∈ [(1 : Int), -1] := fun x hx => by
    obtain ⟨t, ht, rfl⟩ := List.mem_map.mp hx
    obtain ⟨j, k, _, _, e⟩ := h.2 t (List.mem_filter.mp ht).1
    rcases e with rfl | rfl <;> simp
  have nd : (sgs ws p).Nodup := by
    unfold sgs
    have n1 : (ws.filter fun t => decide (t.take 2 = p)).Nodup := List.Pairwise.sublist List.filter_sublist h.1
    refine List.pairwise_map.mpr (n1.imp_of_mem fun {a b} ha hb hab e => hab ?_)
    obtain ⟨a1, a2⟩ := List.mem_filter.mp ha
    obtain ⟨b1, b2⟩ := List.mem_filter.mp hb
    have a2 := of_decide_eq_true a2
    have b2 := of_decide_eq_true b2
    obtain ⟨j, k, _, _, ea⟩ := h.2 a a1
    obtain ⟨j', k', _, _, eb⟩ := h.2 b b1
    rcases ea with rfl | rfl <;> rcases eb with rfl | rfl <;> (simp at e a2 b2; try (rw [← a2] at b2; simp at b2; simp [b2]))
  have l2 := nodup_len nd mem
  have go : ∀ l : List Int, l.length ≤ 2 → s ∈ l → s = fsI l ∨ s = lsI l := fun l h1 h2 => by
    match l, h1, h2 with
    | [], _, h2 => cases h2
    | [x], _, h2 => exact .inl (List.mem_singleton.mp h2)
    | [x, y], _, h2 =>
      rcases List.mem_cons.mp h2 with e | e
      · exact .inl e
      · exact .inr (List.mem_singleton.mp e)
    | _ :: _ :: _ :: _, h1, _ => simp at h1
  exact go _ l2 hs
theorem sg_in (h : WOk m ws) : ∀ {L : List StpT} {a : Nat} {f : List Int} {x : Int}, wkE (inW ws) a L → x ∈ f → x * sgW L ∈ (prs a L).foldl (stepG ws) f
  | [], a, f, x, _, hx => by
    show x * 1 ∈ f
    rw [Int.mul_one]
    exact hx
  | p :: L, a, f, x, hw, hx => by
    show x * (p.2 * sgW L) ∈ (prs p.1 L).foldl (stepG ws) (stepG ws f [(a : Int), (p.1 : Int)])
    rw [← Int.mul_assoc]
    refine sg_in h hw.2 (mem_stepG.mpr ⟨x, hx, ?_⟩)
    rcases sgs_ends h (inW_sg hw.1) with e | e
    · exact .inl (by rw [← e])
    · exact .inr (by rw [← e])
theorem wk_lt (h : WOk m ws) : ∀ {L : List StpT} {a : Nat}, wkE (inW ws) a L → ∀ p ∈ L, p.1 < m
  | [], _, _, p, hp => by cases hp
  | q :: L, a, hw, p, hp => by
    rcases List.mem_cons.mp hp with rfl | hp
    · exact (inW_ok h hw.1).2.1
    · exact wk_lt h hw.2 p hp
theorem prs_in : ∀ {L : List StpT} {a : Nat}, wkE (inW ws) a L → ∀ p ∈ prs a L, p ∈ prI ws
  | [], _, _, p, hp => by cases hp
  | q :: L, a, hw, p, hp => by
    rcases List.mem_cons.mp hp with rfl | hp
    · exact inW_pr hw.1
    · exact prs_in hw.2 p hp
theorem least_v : ∀ {L : List StpT}, L ≠ [] → ∃ p ∈ L, ∀ q ∈ L, p.1 ≤ q.1
  | [], h => absurd rfl h
  | [x], _ => ⟨x, by simp, fun q hq => by rw [List.mem_singleton.mp hq]; exact Nat.le_refl _⟩
  | x :: y :: L, _ => by
    obtain ⟨p, hp, h⟩ := least_v (L := y :: L) (by simp)
    by_cases c : x.1 ≤ p.1
    · refine ⟨x, by simp, fun q hq => ?_⟩
      rcases List.mem_cons.mp hq with rfl | hq
      · exact Nat.le_refl _
      · exact Nat.le_trans c (h q hq)
    · refine ⟨p, List.mem_cons_of_mem _ hp, fun q hq => ?_⟩
      rcases List.mem_cons.mp hq with rfl | hq
      · omega
      · exact h q hq
/-- a closed walk that meets no switch twice is a ring -/
theorem ring_of (h : WOk m ws) {a : Nat} {L : List StpT} (hn : L ≠ []) (hw : wkE (inW ws) a L) (he : endV a L = a) (nd : (L.map (·.1)).Nodup) :
    ∃ r ∈ sortL (allR ws m), sgW L ∈ signsR ws (stI r) ∧ ∀ x ∈ r, ∃ p ∈ L, x = (p.1 : Int) := by
  obtain ⟨p, hp, least⟩ := least_v hn
  obtain ⟨A, B, rfl⟩ := List.append_of_mem hp
  obtain ⟨w1, w2⟩ := wk_app.mp hw
  have e2 : endV p.1 B = a := by rw [end_app] at he; exact he
  have w3 : wkE (inW ws) p.1 (B ++ A ++ [p]) := by
    rw [List.append_assoc]
    refine wk_app.mpr ⟨w2.2, ?_⟩
    rw [e2]
    exact wk_app.mpr ⟨w1, w2.1, trivial⟩
  have sg : sgW (B ++ A ++ [p]) = sgW (A ++ p :: B) := by
    rw [sg_app, sg_app, sg_app]
    show sgW B * sgW A * (p.2 * 1) = sgW A * (p.2 * sgW B)
    rw [Int.mul_one, Int.mul_comm (sgW B), Int.mul_assoc, Int.mul_comm (sgW B)]
  have pm : (p :: (B ++ A)).Perm (A ++ p :: B) := by
    have : (A ++ p :: B).Perm (p :: (A ++ B)) := List.perm_middle
    exact (List.Perm.cons p List.perm_append_comm).trans this.symm
  have e1 : stI ((p.1 : Int) :: vs' (B ++ A)) = prs p.1 (B ++ A ++ [p]) := by rw [prs_adj, stI_adj]
  have ndr : ((p.1 : Int) :: vs' (B ++ A)).Nodup := by
    have n1 : ((p :: (B ++ A)).map (·.1)).Nodup := (pm.map _).nodup_iff.mpr nd
    have : ((p.1 : Int) :: vs' (B ++ A)) = ((p :: (B ++ A)).map (·.1)).map fun k : Nat => (k : Int) := by rw [List.map_map]; rfl
    rw [this]
    refine List.pairwise_map.mpr (n1.imp fun hab e => hab (by omega))
  have lt : ∀ q ∈ A ++ p :: B, q.1 < m := wk_lt h hw
  have mem : ∀ x ∈ ((p.1 : Int) :: vs' (B ++ A)), ∃ q ∈ A ++ p :: B, x = (q.1 : Int) := fun x hx => by
    have : x ∈ (p :: (B ++ A)).map fun q => (q.1 : Int) := hx
    obtain ⟨q, hq, rfl⟩ := List.mem_map.mp this
    exact ⟨q, pm.mem_iff.mp hq, rfl⟩
  have rg : ∀ x ∈ ((p.1 : Int) :: vs' (B ++ A)), x ∈ rgI m := fun x hx => by
    obtain ⟨q, hq, rfl⟩ := mem x hx
    have := lt q hq
    exact mem_rg.mpr ⟨by omega, by omega⟩
  refine ⟨(p.1 : Int) :: vs' (B ++ A), (sortL_perm _).mem_iff.mpr ?_, ?_, mem⟩
  · have ln := nodup_len ndr rg
    rw [rgI_len, List.length_cons] at ln
    refine List.mem_flatMap.mpr ⟨(vs' (B ++ A)).length, List.mem_range.mpr (by omega), List.mem_filter.mpr ⟨rows_mem.mpr ⟨by simp, ndr, rg⟩, ?_⟩⟩
    have pin := prs_in w3
    rw [← e1, stI_adj] at pin
    refine rnd_iff.mpr ⟨fun x hx => ?_, fun q hq => pin q (List.mem_append_left _ hq), pin _ (by simp)⟩
    obtain ⟨q, hq, rfl⟩ := mem x (List.mem_cons_of_mem _ hx)
    have := least q hq
    omega
  · have := sg_in h (f := [1]) (x := 1) w3 (by simp)
    rw [Int.one_mul, sg] at this
    unfold signsR
    rw [e1]
    exact this
end
end H

set_option Elab.async false
set_option linter.all false
set_option maxRecDepth 100000
namespace H
open PySem PySem.Spec PyProof.Rows L2 Y
section
variable {ns : List RuleT} {most : Nat}
end
end H

set_option Elab.async false
set_option linter.all false
set_option maxRecDepth 100000
namespace H
open PySem PySem.Spec PyProof.Rows L2 Y
section
variable {ns : List RuleT} {most : Nat}
end
end H

set_option Elab.async false
set_option linter.all false
set_option maxRecDepth 100000
namespace H
open PySem PySem.Spec PyProof.Rows L2 Y
section
variable {ns : List RuleT} {most : Nat}
end
end H

set_option Elab.async false
set_option linter.all false
set_option maxRecDepth 100000
namespace H
open PySem PySem.Spec PyProof.Rows L2 Y
section
variable {ns : List RuleT} {most : Nat}
end
end H

set_option Elab.async false
set_option linter.all false
set_option maxRecDepth 100000
namespace H
open PySem PySem.Spec PyProof.Rows L2 Y
end H

set_option Elab.async false
set_option linter.all false
set_option maxRecDepth 100000
namespace H
open PySem PySem.Spec PyProof.Rows L2 Y
def lx : List Nat → List Nat → Prop
  | x :: xs, y :: ys => x < y ∨ (x = y ∧ lx xs ys)
  | _, _ => False
def sl (a b : List Nat) : Prop := a.length < b.length ∨ (a.length = b.length ∧ lx a b)
def sle (a b : List Nat) : Prop := a = b ∨ sl a b
theorem lx_app : ∀ {a b c d : List Nat}, lx a b → lx (a ++ c) (b ++ d)
  | [], _, _, _, h => h.elim
  | _ :: _, [], _, _, h => h.elim
  | x :: xs, y :: ys, c, d, h => h.imp id fun h => ⟨h.1, lx_app h.2⟩
theorem lx_last {x y : Nat} (h : x < y) : ∀ {a : List Nat}, lx (a ++ [x]) (a ++ [y])
  | [] => .inl h
  | _ :: _ => .inr ⟨rfl, lx_last h⟩
theorem sl_snoc {a b : List Nat} {x y : Nat} (h : sl a b) : sl (a ++ [x]) (b ++ [y]) := by
  rcases h with h | ⟨h, h2⟩
  · exact .inl (by simp; omega)
  · exact .inr ⟨by simp [h], lx_app h2⟩
theorem sl_last {a : List Nat} {x y : Nat} (h : x < y) : sl (a ++ [x]) (a ++ [y]) := .inr ⟨by simp, lx_last h⟩
def Wk (ns : List RuleT) : List Int → List Nat → List Int → Prop
  | s, [], t => s = t
  | s, k :: ks, t => k ∈ wrongI ns s ∧ Wk ns (flipI s k) ks t
theorem wk_snoc {ns : List RuleT} {k : Nat} {t : List Int} : ∀ {w : List Nat} {s : List Int}, Wk ns s (w ++ [k]) t ↔ ∃ u, Wk ns s w u ∧ k ∈ wrongI ns u ∧ t = flipI u k
  | [], s => by
    constructor
    · rintro ⟨h, h2⟩; exact ⟨s, rfl, h, h2.symm⟩
    · rintro ⟨u, rfl, h, h2⟩; exact ⟨h, h2.symm⟩
  | x :: w, s => by
    constructor
    · rintro ⟨h, h2⟩
      obtain ⟨u, h3, h4⟩ := wk_snoc.mp h2
      exact ⟨u, ⟨h, h3⟩, h4⟩
    · rintro ⟨u, ⟨h, h3⟩, h4⟩
      exact ⟨h, wk_snoc.mpr ⟨u, h3, h4⟩⟩
abbrev EnT := List Int × List Nat
def addE (s : EnT) (L : List EnT) (k : Nat) : List EnT := if flipI s.1 k ∈ L.map (·.1) then L else L ++ [(flipI s.1 k, s.2 ++ [k])]
def kidE (p : EnT) (k : Nat) : EnT := (flipI p.1 k, p.2 ++ [k])
/-- what holds of the entries; dn: the changes that were looked at -/
structure BI (ns : List RuleT) (st0 : List Int) (L : List EnT) (dn : EnT → Nat → Prop) : Prop where
  wk : ∀ e ∈ L, Wk ns st0 e.2 e.1
  srt : L.Pairwise fun a b => sl a.2 b.2
  par : ∀ e ∈ L, e = (st0, []) ∨ ∃ p k, p ∈ L ∧ dn p k ∧ k ∈ wrongI ns p.1 ∧ e = kidE p k
  all : ∀ p ∈ L, ∀ k ∈ wrongI ns p.1, dn p k → ∃ e ∈ L, e.1 = flipI p.1 k ∧ sle e.2 (p.2 ++ [k])
theorem BI.add {ns : List RuleT} {st0 : List Int} {L : List EnT} {dn dn' : EnT → Nat → Prop} {s : EnT} {k : Nat} (h : BI ns st0 L dn) (hs : s ∈ L) (hk : k ∈ wrongI ns s.1) (lt : ∀ p ∈ L, ∀ j, dn p j → sl p.2 s.2 ∨ p = s ∧ j < k)
    (d1 : ∀ p j, dn p j → dn' p j) (d2 : dn' s k) (d3 : ∀ p ∈ L, ∀ j, dn' p j → dn p j ∨ p = s ∧ j = k) (d4 : ∀ j, ¬ dn' (kidE s k) j) : BI ns st0 (addE s L k) dn' := by
  have big : ∀ e ∈ L, sl e.2 (s.2 ++ [k]) := fun e he => by
    rcases h.par e he with rfl | ⟨p, j, hp, hd, hj, rfl⟩
    · exact .inl (by simp)
    · rcases lt p hp j hd with z | ⟨rfl, z⟩
      · exact sl_snoc z
      · exact sl_last z
  unfold addE
  by_cases c : flipI s.1 k ∈ L.map (·.1)
  · rw [if_pos c]
    refine ⟨h.wk, h.srt, fun e he => ?_, fun p hp j hj hd => ?_⟩
    · rcases h.par e he with z | ⟨p, j, hp, hd, hj, z⟩
      · exact .inl z
      · exact .inr ⟨p, j, hp, d1 p j hd, hj, z⟩
    · rcases d3 p hp j hd with z | ⟨rfl, rfl⟩
      · exact h.all p hp j hj z
      · obtain ⟨e, he, ee⟩ := List.mem_map.mp c
        exact ⟨e, he, ee, .inr (big e he)⟩
  · rw [if_neg c]
    refine ⟨fun e he => ?_, ?_, fun e he => ?_, fun p hp j hj hd => ?_⟩
    · rcases List.mem_append.mp he with he | he
      · exact h.wk e he
      · obtain rfl := List.mem_singleton.mp he
        exact wk_snoc.mpr ⟨_, h.wk s hs, hk, rfl⟩
    · refine List.pairwise_append.mpr ⟨h.srt, List.pairwise_singleton _ _, fun a ha b hb => ?_⟩
      obtain rfl := List.mem_singleton.mp hb
      exact big a ha
    · rcases List.mem_append.mp he with he | he
      · rcases h.par e he with z | ⟨p, j, hp, hd, hj, z⟩
        · exact .inl z
        · exact .inr ⟨p, j, List.mem_append_left _ hp, d1 p j hd, hj, z⟩
      · obtain rfl := List.mem_singleton.mp he
        exact .inr ⟨s, k, List.mem_append_left _ hs, d2, hk, rfl⟩
    · rcases List.mem_append.mp hp with hp | hp
      · rcases d3 p hp j hd with z | ⟨rfl, rfl⟩
        · obtain ⟨e, he, e1, e2⟩ := h.all p hp j hj z
          exact ⟨e, List.mem_append_left _ he, e1, e2⟩
        · exact ⟨kidE p j, List.mem_append_right _ (List.mem_singleton.mpr rfl), rfl, .inl rfl⟩
      · obtain rfl := List.mem_singleton.mp hp
        exact absurd hd (d4 j)
end H

set_option Elab.async false
set_option linter.all false
set_option maxRecDepth 100000
namespace H
open PySem PySem.Spec PyProof.Rows L2 Y
end H

set_option Elab.async false
set_option linter.all false
set_option maxRecDepth 100000
set_option maxHeartbeats 4000000
namespace H
open PySem PySem.Spec PyProof.Rows L2 Y
def preB (ns : List RuleT) (j k : Nat) : Bool := decide ([(j : Int), (k : Int)] ∈ prI (wiresI ns))
def leftN (m : Nat) (row : List Nat) : List Nat := (List.range m).filter fun k => !decide (k ∈ row)
def freeO (ns : List RuleT) (row : List Nat) (k : Nat) : Option Nat := if ((leftN ns.length row).any fun j => preB ns j k) = true then none else some k
def nextO (ns : List RuleT) (row : List Nat) : Option Nat := (leftN ns.length row).findSome? (freeO ns row)
section
variable {ns : List RuleT} {most : Nat}
theorem in_lnK {k : Nat} {row : List Nat} : ninD (.int (k : Nat)) (ln' row) = .ok (.bl (!decide (k ∈ row))) := by
  have e : ln' row = li (row.map fun k : Nat => (k : Int)) := by
    show D.lst _ = D.lst _
    rw [List.map_map]
    rfl
  rw [e, nin_of in_li]
  refine congrArg (fun q => Y.R.ok (D.bl (!q))) (decide_eq_decide.mpr ?_)
  rw [List.mem_map]
  constructor
  · rintro ⟨a, ha, e⟩
    have : a = k := by omega
    rw [← this]; exact ha
  · intro h
    exact ⟨k, h, rfl⟩
theorem pre_ok (h : NetOk ns most) {j k : Nat} : ∃ o, getDic (prD (wiresI ns)) (.tup [.int (j : Nat), .int (k : Nat)]) = .ok o ∧ o.isSome = preB ns j k := by
  refine ⟨_, get_pr (p := [(j : Int), (k : Int)]), ?_⟩
  unfold preB
  by_cases c : [(j : Int), (k : Int)] ∈ prI (wiresI ns)
  · rw [if_pos c, decide_eq_true c]; rfl
  · rw [if_neg c, decide_eq_false c]; rfl
theorem next_free_ok (h : NetOk ns most) (hm : most ≤ 20) {row : List Nat} (hr : row.length ≤ 1000) : (∀ k, nextO ns row = some k → C.g_next_free [dNet ns, ln' row] = .ok (.vl (.int k))) ∧ (nextO ns row = none → C.g_next_free [dNet ns, ln' row] = .ok (.fr .non)) := by
  have hle := h.le
  obtain ⟨sb, _, wk⟩ := pairs_ok h hm
  have ln : lenD [dNet ns] = .ok (.int ns.length) := by rw [d_lenT, List.length_map]
  have ll : (leftN ns.length row).length ≤ ns.length := by
    have := List.length_filter_le (fun k => !decide (k ∈ row)) (List.range ns.length)
    rw [List.length_range] at this
    exact this
  have c1 := comp_filter (tm := tmName 4) (t := C.t_next_free_1) (e := C.e_next_free_1) (vs := [4]) (ws := []) (ρ := [some (dNet ns), some (ln' row), some (prD (wiresI ns)), none, none, none]) (fun k : Nat => D.int (k : Nat)) (fun k => !decide (k ∈ row)) (fun k : Nat => D.int (k : Nat)) (List.range ns.length) fun k hk => by
    have i := in_lnK (k := k) (row := row)
    simp only [turnC, C.t_next_free_1, C.e_next_free_1]
    generalize (!decide (k ∈ row)) = q at *
    generalize ln' row = RD at *
    generalize prD (wiresI ns) = PD at *
    generalize dNet ns = N at *
    cases q <;> simp [i]
  have zl : szOk ((leftN ns.length row).map fun k : Nat => D.int (k : Nat)).length = true := szOk_of (by rw [List.length_map]; omega)
  have lp := for_first (tm := tmName 4) (body := C.b_next_free_1) (vs := [4]) (ws := []) (fun k : Nat => D.int (k : Nat)) (freeO ns row) (fun k => Hd.vl (.int (k : Nat))) (leftN ns.length row) [some (dNet ns), some (ln' row), some (prD (wiresI ns)), some (ln' (leftN ns.length row)), none, none] fun k hk => by
    have c2 := comp_map (tm := tmName 5) (t := cYes) (e := C.e_next_free_2) (vs := [5]) (ws := []) (ρ := [some (dNet ns), some (ln' row), some (prD (wiresI ns)), some (ln' (leftN ns.length row)), some (.int k), none]) (fun j : Nat => D.int (j : Nat)) (fun j => D.bl (preB ns j k)) (leftN ns.length row) fun j hj => by
      obtain ⟨o, g1, g2⟩ := pre_ok h (j := j) (k := k)
      rw [← g2]
      simp only [turnC, C.e_next_free_2]
      generalize ln' (leftN ns.length row) = LD at *
      generalize ln' row = RD at *
      generalize dNet ns = N at *
      generalize prD (wiresI ns) = PD at *
      simp [g1, szOk_of]
    have e2 : ((leftN ns.length row).map fun j => D.bl (preB ns j k)) = ((leftN ns.length row).map fun j => preB ns j k).map D.bl := by rw [List.map_map]; rfl
    rw [e2] at c2
    have an := d_any (xs := (leftN ns.length row).map fun j => preB ns j k)
    have ea : ((leftN ns.length row).map fun j => preB ns j k).any id = (leftN ns.length row).any fun j => preB ns j k := by rw [List.any_map]; rfl
    rw [ea] at an
    have zb : szOk (((leftN ns.length row).map fun j => preB ns j k).map D.bl).length = true := szOk_of (by rw [List.length_map, List.length_map]; omega)
    unfold freeO
    have eL : ln' (leftN ns.length row) = .lst ((leftN ns.length row).map fun k : Nat => D.int (k : Nat)) := rfl
    rw [eL] at c2 ⊢
    generalize ((leftN ns.length row).map fun j => preB ns j k).map D.bl = BD at *
    generalize ((leftN ns.length row).any fun j => preB ns j k) = q at *
    generalize ((leftN ns.length row).map fun k : Nat => D.int (k : Nat)) = LD at *
    cases q with
    | true =>
      refine ⟨fun _ => ?_, fun b z => by simp at z⟩
      simp only [turnF, C.b_next_free_1]
      generalize C.e_next_free_2 = E at *
      generalize ln' row = RD at *
      generalize dNet ns = N at *
      generalize prD (wiresI ns) = PD at *
      simp [zl, c2, zb, an, -d_any]
    | false =>
      refine ⟨fun z => by simp at z, fun b z => ?_⟩
      simp at z
      subst z
      refine ⟨[some (dNet ns), some (ln' row), some (prD (wiresI ns)), some (.lst LD), some (.int k), none], ?_⟩
      simp only [turnF, C.b_next_free_1]
      generalize C.e_next_free_2 = E at *
      generalize ln' row = RD at *
      generalize dNet ns = N at *
      generalize prD (wiresI ns) = PD at *
      simp [zl, c2, zb, an, -d_any]
  have rk : rngOk ns.length = true := rngOk_of (by omega) (by omega)
  have zk : szOk ns.length = true := szOk_of (by omega)
  have eL : ln' (leftN ns.length row) = .lst ((leftN ns.length row).map fun k : Nat => D.int (k : Nat)) := rfl
  have eF : ((List.range ns.length).filter fun k => !decide (k ∈ row)) = leftN ns.length row := rfl
  rw [eL] at lp
  rw [eF] at c1
  unfold nextO
  refine ⟨fun k q => ?_, fun q => ?_⟩
  · obtain ⟨ρ', l⟩ := lp.2 k q
    simp only [C.g_next_free, C.m_next_free]
    generalize C.b_next_free_1 = B at *
    generalize C.t_next_free_1 = T at *
    generalize C.e_next_free_1 = E at *
    generalize ((leftN ns.length row).map fun k : Nat => D.int (k : Nat)) = LD at *
    generalize ln' row = RD at *
    generalize dNet ns = N at *
    generalize prD (wiresI ns) = PD at *
    simp [e_fnP, sb, ln, rk, zk, c1, zl, l, -d_lenT]
  · have l := lp.1 q
    simp only [C.g_next_free, C.m_next_free]
    generalize C.b_next_free_1 = B at *
    generalize C.t_next_free_1 = T at *
    generalize C.e_next_free_1 = E at *
    generalize ((leftN ns.length row).map fun k : Nat => D.int (k : Nat)) = LD at *
    generalize ln' row = RD at *
    generalize dNet ns = N at *
    generalize prD (wiresI ns) = PD at *
    simp [e_fnP, sb, ln, rk, zk, c1, zl, l, -d_lenT]
theorem mem_left {m k : Nat} {row : List Nat} : k ∈ leftN m row ↔ k < m ∧ k ∉ row := by
  unfold leftN
  rw [List.mem_filter, List.mem_range]
  simp
/-- each comes after all it hears -/
structure Topo (ns : List RuleT) (row : List Nat) : Prop where
  nd : row.Nodup
  lt : ∀ k ∈ row, k < ns.length
  pre : ∀ i (h : i < row.length), ∀ j, j < ns.length → preB ns j row[i] = true → j ∈ row.take i
theorem topo_add {row : List Nat} {k : Nat} (t : Topo ns row) (h : nextO ns row = some k) : Topo ns (row ++ [k]) := by
  unfold nextO at h
  obtain ⟨k', hk', e⟩ := List.exists_of_findSome?_eq_some h
  unfold freeO at e
  split at e
  · cases e
  · rename_i c
    cases e
    obtain ⟨l1, l2⟩ := mem_left.mp hk'
    refine ⟨?_, fun x hx => ?_, fun i hi j hj hp => ?_⟩
    · refine List.pairwise_append.mpr ⟨t.nd, List.pairwise_singleton _ _, fun a ha b hb e => ?_⟩
      rw [List.mem_singleton.mp hb] at e
      exact l2 (e ▸ ha)
    · rcases List.mem_append.mp hx with hx | hx
      · exact t.lt x hx
      · rw [List.mem_singleton.mp hx]; exact l1
    · rw [List.length_append, List.length_singleton] at hi
      by_cases ci : i < row.length
      · rw [List.getElem_append_left ci] at hp
        rw [List.take_append_of_le_length (by omega)]
        exact t.pre i ci j hj hp
      · have ei : i = row.length := by omega
        subst ei
        rw [List.take_append_of_le_length (Nat.le_refl _), List.take_length]
        rw [List.getElem_append_right (Nat.le_refl _)] at hp
        have hp : preB ns j k = true := by simpa using hp
        refine Classical.byContradiction fun z => c ?_
        rw [List.any_eq_true]
        exact ⟨j, mem_left.mpr ⟨hj, z⟩, hp⟩
/-- none is free: there is a ring -/
theorem stuck_ring (w : WOk ns.length (wiresI ns)) {row : List Nat} (nd : row.Nodup) (hl : row.length < ns.length) (h : nextO ns row = none) : sortL (allR (wiresI ns) ns.length) ≠ [] := by
  have pred : ∀ k, k ∈ leftN ns.length row → ∃ j, j ∈ leftN ns.length row ∧ ∃ s, inW (wiresI ns) j k s := fun k hk => by
    unfold nextO at h
    rw [List.findSome?_eq_none_iff] at h
    have := h k hk
    unfold freeO at this
    split at this
    · rename_i c
      rw [List.any_eq_true] at c
      obtain ⟨j, hj, hp⟩ := c
      obtain ⟨t, ht, e⟩ := mem_prI.mp (of_decide_eq_true hp)
      obtain ⟨a, b, ha, hb, q⟩ := w.2 t ht
      refine ⟨j, hj, ?_⟩
      rcases q with rfl | rfl
      · have : [(a : Int), (b : Int)] = [(j : Int), (k : Int)] := e
        injection this with e1 e2; injection e2 with e2
        have e1 : a = j := by omega
        have e2 : b = k := by omega
        subst e1 e2
        exact ⟨_, ht⟩
      · have : [(a : Int), (b : Int)] = [(j : Int), (k : Int)] := e
        injection this with e1 e2; injection e2 with e2
        have e1 : a = j := by omega
        have e2 : b = k := by omega
        subst e1 e2
        exact ⟨_, ht⟩
    · cases this
  have some_k : ∃ k, k ∈ leftN ns.length row := by
    refine Classical.byContradiction fun z => ?_
    have := nodup_len (A := List.range ns.length) (B := row) List.nodup_range fun k hk => by
      refine Classical.byContradiction fun c => z ⟨k, mem_left.mpr ⟨List.mem_range.mp hk, c⟩⟩
    rw [List.length_range] at this
    omega
  have long : ∀ n, ∃ u L, u ∈ leftN ns.length row ∧ wkE (inW (wiresI ns)) u L ∧ L.length = n := by
    intro n
    induction n with
    | zero =>
      obtain ⟨k, h1⟩ := some_k
      exact ⟨k, [], h1, trivial, rfl⟩
    | succ n ih =>
      obtain ⟨u, L, h1, h3, h4⟩ := ih
      obtain ⟨j, hj, s, q⟩ := pred u h1
      exact ⟨j, (u, s) :: L, hj, ⟨q, h3⟩, by rw [List.length_cons, h4]⟩
  obtain ⟨u, L, h1, h3, h4⟩ := long (ns.length + 1)
  have wl := wk_lt w h3
  have ndL : ¬ (L.map (·.1)).Nodup := fun z => by
    have := nodup_len (B := List.range ns.length) z fun x hx => by
      obtain ⟨p, hp, rfl⟩ := List.mem_map.mp hx
      exact List.mem_range.mpr (wl p hp)
    rw [List.length_map, List.length_range] at this
    omega
  obtain ⟨A, x, B, y, C, rfl, e⟩ := nd_split ndL
  obtain ⟨i1, i2⟩ := wk_inner h3 e
  obtain ⟨a', L', l1, l2, l3, l4⟩ := simple_of _ (Nat.le_refl _) (by simp) i1 i2
  obtain ⟨r, r1, _⟩ := ring_of w l1 l2 l3 l4
  exact List.ne_nil_of_mem r1
end
end H

set_option Elab.async false
set_option linter.all false
set_option maxRecDepth 100000
set_option maxHeartbeats 4000000
namespace H
open PySem PySem.Spec PyProof.Rows L2 Y
section
variable {ns : List RuleT} {most : Nat}
def ordD (row : List Nat) : D := .tup [.str (Str.ofString "order"), ln' row]
def rngD (r : List Int) : D := .tup [.str (Str.ofString "ring"), ti r]
end
end H

set_option Elab.async false
set_option linter.all false
set_option maxRecDepth 100000
set_option maxHeartbeats 4000000
namespace H
open PySem PySem.Spec PyProof.Rows L2 Y
def rfN : Nat → Nat → Nat
  | _, 0 => 1
  | l, n + 1 => l * rfN (l - 1) n
theorem rfN_mono : ∀ {n l m : Nat}, l ≤ m → rfN l n ≤ rfN m n
  | 0, _, _, _ => Nat.le_refl _
  | n + 1, l, m, h => Nat.mul_le_mul h (rfN_mono (by omega))
theorem rows_rf : ∀ {n : Nat} {xs : List Int}, (rowsI n xs).length ≤ rfN xs.length n
  | 0, xs => by show [[]].length ≤ 1; simp
  | n + 1, xs => by
    show (xs.flatMap fun x => (rowsI n (xs.filter fun y => !decide (y = x))).map fun r => x :: r).length ≤ xs.length * rfN (xs.length - 1) n
    refine flat_len fun x hx => ?_
    rw [List.length_map]
    refine Nat.le_trans rows_rf (rfN_mono ?_)
    have : (xs.filter fun y => !decide (y = x)).length < xs.length := by
      refine Nat.lt_of_le_of_ne (List.length_filter_le _ _) fun e => ?_
      have := List.length_filter_eq_length_iff.mp e x hx
      simp at this
    omega
theorem rf_8 : ((List.range 9).all fun n => decide (rfN 8 n ≤ 40320)) = true := by decide +kernel
theorem rows_8 {n : Nat} {xs : List Int} (h : xs.length ≤ 8) (hn : n ≤ 8) : (rowsI n xs).length ≤ 40320 := by
  have := List.all_eq_true.mp rf_8 n (List.mem_range.mpr (by omega))
  exact Nat.le_trans rows_rf (Nat.le_trans (rfN_mono h) (of_decide_eq_true this))
theorem in_rows8_ok : ∀ {n k : Nat} {xs : List Int}, n < k → xs.length ≤ 8 → n ≤ 8 → C.r_in_rows k [li xs, .int n] = .ok (.fr (lti (rowsI n xs)))
  | n, 0, xs, h, _, _ => absurd h (by omega)
  | 0, k + 1, xs, _, hl, _ => by
    have z1 : szOk 1 = true := szOk_of (by omega)
    have z0 : szOk 0 = true := szOk_of (by omega)
    simp only [C.r_in_rows, C.m_in_rows]
    generalize li xs = X at *
    simp [e_fnP, rowsI, z1, z0]
  | n + 1, k + 1, xs, h, hl, hn => by
    have go : ∀ x ∈ xs, C.r_in_rows k [li (xs.filter fun y => !decide (y = x)), .int n] = .ok (.fr (lti (rowsI n (xs.filter fun y => !decide (y = x))))) := fun x _ => in_rows8_ok (by omega) (Nat.le_trans (List.length_filter_le _ _) hl) (by omega)
    have lp := for_idx (tm := tmName 3) (body := C.b_in_rows_1 (C.r_in_rows k)) (vs := [3, 4]) (ws := []) D.int xs (fun i => [some (li xs), some (.int ((n + 1 : Nat) : Int)), some (lti ((xs.take i).flatMap fun x => (rowsI n (xs.filter fun y => !decide (y = x))).map fun r => x :: r)), none, none, none, none]) fun i hi => by
      refine ⟨by simp, ?_⟩
      have e2 : xs.take (i + 1) = xs.take i ++ [xs[i]] := by rw [List.take_add_one, List.getElem?_eq_getElem hi]; rfl
      rw [e2, List.flatMap_append]
      simp only [List.flatMap_cons, List.flatMap_nil, List.append_nil]
      have g := go xs[i] (List.getElem_mem hi)
      generalize xs[i] = x at *
      have c1 := comp_filter (tm := tmName 5) (t := C.t_in_rows_1 (C.r_in_rows k)) (e := C.e_in_rows_1 (C.r_in_rows k)) (vs := [5]) (ws := []) (ρ := [some (li xs), some (.int ((n + 1 : Nat) : Int)), some (lti ((xs.take i).flatMap fun x => (rowsI n (xs.filter fun y => !decide (y = x))).map fun r => x :: r)), some (.int x), none, none, none]) D.int (fun y => !decide (y = x)) D.int xs fun y _ => by
        simp only [turnC, C.t_in_rows_1, C.e_in_rows_1]
        generalize (lti ((xs.take i).flatMap fun x => (rowsI n (xs.filter fun y => !decide (y = x))).map fun r => x :: r)) = FL at *
        generalize li xs = X at *
        by_cases c : y = x <;> simp [c]
      generalize hF : (xs.filter fun y => !decide (y = x)) = O at *
      have hO : O.length ≤ 8 := by rw [← hF]; exact Nat.le_trans (List.length_filter_le _ _) hl
      have rl := rows_8 (n := n) (xs := O) hO (by omega)
      have rm : ∀ r ∈ rowsI n O, r.length = n := fun r hr => (rows_mem.mp hr).1
      have c2 := comp_map (tm := tmName 6) (t := cYes) (e := C.e_in_rows_2 (C.r_in_rows k)) (vs := [6]) (ws := []) (ρ := [some (li xs), some (.int ((n + 1 : Nat) : Int)), some (lti ((xs.take i).flatMap fun x => (rowsI n (xs.filter fun y => !decide (y = x))).map fun r => x :: r)), some (.int x), some (li O), none, none]) ti (fun r => ti (x :: r)) (rowsI n O) fun r hr => by
        have rl := rm r hr
        have z : szOk (1 + r.length) = true := szOk_of (by omega)
        have z' : szOk (r.length + 1) = true := szOk_of (by omega)
        simp only [turnC, C.e_in_rows_2]
        generalize (lti ((xs.take i).flatMap fun x => (rowsI n (xs.filter fun y => !decide (y = x))).map fun r => x :: r)) = FL at *
        generalize li xs = X at *
        generalize li O = XO at *
        simp [z, z', szOk_of]
      have fl := flat_len (xs := xs.take i) (f := fun x => (rowsI n (xs.filter fun y => !decide (y = x))).map fun r => x :: r) (c := 40320) fun x _ => by
        rw [List.length_map]
        exact rows_8 (Nat.le_trans (List.length_filter_le _ _) hl) (by omega)
      have fl2 : (xs.take i).length * 40320 ≤ 8 * 40320 := Nat.mul_le_mul_right _ (by rw [List.length_take]; omega)
      have m1 : (rowsI n O).map (fun r => ti (x :: r)) = ((rowsI n O).map fun r => x :: r).map ti := by rw [List.map_map]; rfl
      rw [m1] at c2
      generalize hG : (xs.take i).flatMap (fun x => (rowsI n (xs.filter fun y => !decide (y = x))).map fun r => x :: r) = FL at *
      have el : lti (FL ++ (rowsI n O).map fun r => x :: r) = .lst (FL.map ti ++ ((rowsI n O).map fun r => x :: r).map ti) := by show D.lst _ = _; rw [List.map_append]
      have zf : szOk ((FL.map ti).length + (((rowsI n O).map fun r => x :: r).map ti).length) = true := szOk_of (by rw [List.length_map, List.length_map, List.length_map]; omega)
      have zr : szOk ((rowsI n O).map ti).length = true := szOk_of (by rw [List.length_map]; omega)
      have zx : szOk (xs.map D.int).length = true := szOk_of (by rw [List.length_map]; omega)
      have q1 : li xs = .lst (xs.map D.int) := rfl
      have q2 : li O = .lst (O.map D.int) := rfl
      have q3 : lti FL = .lst (FL.map ti) := rfl
      have q4 : lti (rowsI n O) = .lst ((rowsI n O).map ti) := rfl
      rw [q4, q2] at g
      rw [q1, q3] at c1
      rw [q1, q2, q3] at c2
      rw [el, q1, q3]
      have sb : subD (.int ((n + 1 : Nat) : Int)) (.int 1) = .ok (.int (n : Nat)) := by
        rw [d_sub]
        have : ((n + 1 : Nat) : Int) - 1 = (n : Int) := by omega
        rw [this]
      generalize ((n + 1 : Nat) : Int) = n1 at *
      simp only [turnF, C.b_in_rows_1]
      generalize C.t_in_rows_1 (C.r_in_rows k) = T1 at *
      generalize C.e_in_rows_1 (C.r_in_rows k) = E1 at *
      generalize C.e_in_rows_2 (C.r_in_rows k) = E2 at *
      generalize (((rowsI n O).map fun r => x :: r).map ti) = A1 at *
      generalize (rowsI n O).map ti = A2 at *
      generalize FL.map ti = A3 at *
      generalize O.map D.int = A4 at *
      generalize xs.map D.int = A5 at *
      simp [zx, c1, sb, g, zr, c2, zf, -d_sub]
    rw [List.take_length] at lp
    have e0 : rowsI (n + 1) xs = xs.flatMap fun x => (rowsI n (xs.filter fun y => !decide (y = x))).map fun r => x :: r := rfl
    rw [← e0] at lp
    have lp : forL (tmName 3) (C.b_in_rows_1 (C.r_in_rows k)) [3, 4] [] (xs.map D.int) [some (li xs), some (.int ((n + 1 : Nat) : Int)), some (.lst []), none, none, none, none] = _ := lp
    have zx : szOk (xs.map D.int).length = true := szOk_of (by rw [List.length_map]; omega)
    have ne : eqD (.int ((n + 1 : Nat) : Int)) (.int 0) = .ok (.bl false) := by
      rw [eqD_int, decide_eq_false (by omega)]
    have z0 : szOk 0 = true := szOk_of (by omega)
    have q1 : li xs = .lst (xs.map D.int) := rfl
    rw [q1] at lp ⊢
    simp only [C.r_in_rows, C.m_in_rows]
    generalize ((n + 1 : Nat) : Int) = n1 at *
    generalize C.b_in_rows_1 (C.r_in_rows k) = B at *
    generalize lti (rowsI (n + 1) xs) = LX at *
    generalize xs.map D.int = XS at *
    simp [e_fnP, ne, lp, zx, z0, -eqD_int]
theorem rings_with8_ok {ns : List RuleT} {most n : Nat} (h : NetOk ns most) (hm : most ≤ 20) (h6 : ns.length ≤ 8) (h1 : 1 ≤ n) (hn : n ≤ 8) : C.g_rings_with [dNet ns, .int n] = .ok (.fr (lti (withR (wiresI ns) ns.length n))) := by
  obtain ⟨sb, _, wk⟩ := pairs_ok h hm
  have ln : lenD [dNet ns] = .ok (.int ns.length) := by simp
  have rg := rgB_of (n := ns.length) (by omega)
  have er : D.lst (rgD 0 ns.length) = li (rgI ns.length) := by
    rw [rgD_nat]
    unfold rgI
    show D.lst _ = D.lst _
    rw [List.map_map]
    rfl
  have ir := in_rows8_ok (n := n) (k := 40) (xs := rgI ns.length) (by omega) (by rw [rgI_len]; exact h6) hn
  have ir : C.g_in_rows [li (rgI ns.length), .int n] = .ok (.fr (.lst ((rowsI n (rgI ns.length)).map ti))) := ir
  have rl := rows_8 (n := n) (xs := rgI ns.length) (by rw [rgI_len]; exact h6) hn
  have zr : szOk ((rowsI n (rgI ns.length)).map ti).length = true := szOk_of (by rw [List.length_map]; omega)
  have c := comp_filter (tm := tmName 3) (t := C.t_rings_with_1) (e := C.e_rings_with_1) (vs := [3]) (ws := []) (ρ := [some (dNet ns), some (.int n), some (prD (wiresI ns)), none]) ti (rndB (wiresI ns)) ti (rowsI n (rgI ns.length)) fun r hr => by
    have l := (rows_mem.mp hr).1
    cases r with
    | nil => simp at l; omega
    | cons a t =>
      have rd := is_round_ok (ws := wiresI ns) (n := a) (ms := t) (by omega)
      generalize rndB (wiresI ns) (a :: t) = q at *
      simp only [turnC, C.t_rings_with_1, C.e_rings_with_1]
      generalize prD (wiresI ns) = PD at *
      generalize ti (a :: t) = T at *
      generalize dNet ns = N at *
      cases q <;> simp [rd]
  have er2 : li (rgI ns.length) = .lst ((rgI ns.length).map D.int) := rfl
  have e3 : lti (withR (wiresI ns) ns.length n) = .lst (((rowsI n (rgI ns.length)).filter (rndB (wiresI ns))).map ti) := rfl
  rw [e3]
  simp only [C.g_rings_with, C.m_rings_with]
  generalize C.t_rings_with_1 = T1 at *
  generalize C.e_rings_with_1 = E1 at *
  generalize ((rowsI n (rgI ns.length)).filter (rndB (wiresI ns))).map ti = A1 at *
  generalize (rowsI n (rgI ns.length)).map ti = A2 at *
  generalize prD (wiresI ns) = PD at *
  generalize dNet ns = N at *
  generalize li (rgI ns.length) = LI at *
  simp [e_fnP, sb, ln, rg, er, ir, zr, c]
section
variable {ns : List RuleT} {most : Nat}
end
end H

set_option Elab.async false
set_option linter.all false
set_option maxRecDepth 100000
set_option maxHeartbeats 4000000
namespace H
open PySem PySem.Spec PyProof.Rows L2 Y
section
variable {ns : List RuleT} {most : Nat}
def freeL (ns : List RuleT) (row : List Nat) : List Nat := (leftN ns.length row).filter fun k => !(leftN ns.length row).any fun j => preB ns j k
theorem next_free_head {row : List Nat} : nextO ns row = (freeL ns row).head? := by
  unfold nextO freeL
  have : ∀ L : List Nat, L.findSome? (freeO ns row) = (L.filter fun k => !(leftN ns.length row).any fun j => preB ns j k).head? := by
    intro L
    induction L with
    | nil => rfl
    | cons k L ih =>
      rw [List.findSome?_cons, List.filter_cons]
      unfold freeO at ih ⊢
      cases q : (leftN ns.length row).any fun j => preB ns j k with
      | true =>
        rw [if_pos rfl]
        exact ih
      | false =>
        rw [if_neg Bool.false_ne_true]
        rfl
  exact this _
theorem left_erase {m k : Nat} {row : List Nat} (hk : k ∈ leftN m row) : leftN m (row ++ [k]) = (leftN m row).erase k := by
  have nd : (leftN m row).Nodup := List.Pairwise.sublist List.filter_sublist List.nodup_range
  rw [nd.erase_eq_filter]
  unfold leftN
  rw [List.filter_filter]
  refine List.filter_congr fun j _ => ?_
  rw [Bool.eq_iff_iff]
  simp
  constructor
  · rintro ⟨a, b⟩; exact ⟨b, a⟩
  · rintro ⟨a, b⟩; exact ⟨b, a⟩
theorem free_ok (h : NetOk ns most) (hm : most ≤ 20) {row : List Nat} (x4 : Option D) : cCompL (tmName 5) C.t__law_first_2_2 C.e__law_first_2_2 [5] [3] ((leftN ns.length row).map fun k : Nat => D.int (k : Nat)) [some (prD (wiresI ns)), some (.int ns.length), some (ln' row), some (ln' (leftN ns.length row)), x4, none, none] = .ok ((freeL ns row).map fun k : Nat => D.int (k : Nat), [some (prD (wiresI ns)), some (.int ns.length), some (ln' row), some (ln' (leftN ns.length row)), x4, none, none]) := by
  have hle := h.le
  have ll : (leftN ns.length row).length ≤ ns.length := by
    have := List.length_filter_le (fun k => !decide (k ∈ row)) (List.range ns.length)
    rw [List.length_range] at this
    exact this
  have zl : szOk (leftN ns.length row).length = true := szOk_of (by omega)
  refine comp_filter (ws := [3]) (fun k : Nat => D.int (k : Nat)) (fun k => !(leftN ns.length row).any fun j => preB ns j k) (fun k : Nat => D.int (k : Nat)) (leftN ns.length row) fun k hk => ?_
  have ci := comp_filter (tm := tmName 6) (t := C.t__law_first_2_1) (e := C.e__law_first_2_1) (vs := [6]) (ws := [3]) (ρ := [some (prD (wiresI ns)), some (.int ns.length), some (ln' row), some (ln' (leftN ns.length row)), x4, some (.int k), none]) (fun j : Nat => D.int (j : Nat)) (fun j => preB ns j k) (fun j : Nat => D.int (j : Nat)) (leftN ns.length row) fun j hj => by
    obtain ⟨o, g1, g2⟩ := pre_ok h (j := j) (k := k)
    rw [← g2]
    simp only [turnC, C.t__law_first_2_1, C.e__law_first_2_1]
    generalize ln' (leftN ns.length row) = LD at *
    generalize ln' row = RD at *
    generalize prD (wiresI ns) = PD at *
    cases o <;> simp [g1, szOk_of]
  have eq : eqD (.lst (((leftN ns.length row).filter fun j => preB ns j k).map fun j : Nat => D.int (j : Nat))) (.lst []) = .ok (.bl (!(leftN ns.length row).any fun j => preB ns j k)) := by
    have := eqD_of (n := 2) (fit_ln (n := 1) (xs := (leftN ns.length row).filter fun j => preB ns j k)) fit_nil
    rw [eqP_lst, eqPs_nil, List.isEmpty_map] at this
    refine this.trans (congrArg (fun q => Y.R.ok (D.bl q)) ?_)
    rw [Bool.eq_iff_iff, List.isEmpty_iff, List.filter_eq_nil_iff, Bool.not_eq_true', List.any_eq_false]
  have eL : ln' (leftN ns.length row) = .lst ((leftN ns.length row).map fun k : Nat => D.int (k : Nat)) := rfl
  rw [eL] at ci ⊢
  have zl2 : szOk ((leftN ns.length row).map fun k : Nat => D.int (k : Nat)).length = true := by rw [List.length_map]; exact zl
  have zf : szOk (((leftN ns.length row).filter fun j => preB ns j k).map fun j : Nat => D.int (j : Nat)).length = true := szOk_of (by
    rw [List.length_map]
    have := List.length_filter_le (fun j => preB ns j k) (leftN ns.length row)
    omega)
  simp only [turnC, C.t__law_first_2_2, C.e__law_first_2_2]
  generalize (((leftN ns.length row).filter fun j => preB ns j k).map fun j : Nat => D.int (j : Nat)) = FD at *
  generalize (!(leftN ns.length row).any fun j => preB ns j k) = q at *
  generalize ((leftN ns.length row).map fun k : Nat => D.int (k : Nat)) = LD at *
  generalize C.t__law_first_2_1 = T1 at *
  generalize C.e__law_first_2_1 = E1 at *
  generalize ln' row = RD at *
  generalize prD (wiresI ns) = PD at *
  cases q <;> simp [zl2, ci, eq, zf, szOk_of]
end
end H

set_option Elab.async false
set_option linter.all false
set_option maxRecDepth 100000
set_option maxHeartbeats 4000000
namespace H
open PySem PySem.Spec PyProof.Rows L2 Y
def ordR (ns : List RuleT) : Nat → List Nat → Option (List Nat)
  | 0, row => some row
  | n + 1, row => if row.length < ns.length then (match nextO ns row with | some k => ordR ns n (row ++ [k]) | none => none) else some row
/-- the first of the shortest rings -/
def FirstR (ns : List RuleT) (r : List Int) : Prop := ∃ c rs, 1 ≤ c ∧ c ≤ 8 ∧ withR (wiresI ns) ns.length c = r :: rs ∧ ∀ d, 1 ≤ d → d < c → withR (wiresI ns) ns.length d = []
section
variable {ns : List RuleT} {most : Nat}
theorem many9_go (h : NetOk ns most) (hm : most ≤ 20) (h6 : ns.length ≤ 8) {x1 x2 : Option D} {b : Nat} (hb : b ≤ ns.length) (hne : withR (wiresI ns) ns.length b ≠ []) : ∀ (n a : Nat), 1 ≤ a → a ≤ b → b - a < n → ∃ c, 1 ≤ c ∧ c ≤ 8 ∧ withR (wiresI ns) ns.length c ≠ [] ∧ (∀ d, a ≤ d → d < c → withR (wiresI ns) ns.length d = []) ∧
    whileN (cBl (cOp eqD (cCallF C.g_rings_with (cCons (cVar 0) (cCons (cVar 3) (cNil)))) (cLst (cNil)))) C.b_order_paper_1 [] n [some (dNet ns), x1, x2, some (.int a)] = .ok (.nx, [some (dNet ns), x1, x2, some (.int c)])
  | 0, a, _, _, hn => by omega
  | n + 1, a, h1, h2, hn => by
    have rw' := rings_with8_ok h hm h6 (n := a) h1 (by omega)
    have eq := eq_nilLT (S := withR (wiresI ns) ns.length a)
    have t : cBl (cOp eqD (cCallF C.g_rings_with (cCons (cVar 0) (cCons (cVar 3) (cNil)))) (cLst (cNil))) [some (dNet ns), x1, x2, some (.int a)] = .ok ((withR (wiresI ns) ns.length a).isEmpty, [some (dNet ns), x1, x2, some (.int a)]) := by
      generalize lti (withR (wiresI ns) ns.length a) = LD at *
      generalize dNet ns = N at *
      simp [rw', eq, szOk_of]
    cases q : (withR (wiresI ns) ns.length a).isEmpty with
    | false =>
      rw [q] at t
      refine ⟨a, h1, by omega, fun z => ?_, fun d d1 d2 => absurd d2 (by omega), ?_⟩
      · rw [z] at q; cases q
      · exact whileN_stop t
    | true =>
      rw [q] at t
      have ab : a ≠ b := fun z => by
        rw [z, List.isEmpty_iff] at q
        exact hne q
      obtain ⟨c, c1, c2, c3, c4, e⟩ := many9_go h hm h6 (x1 := x1) (x2 := x2) hb hne n (a + 1) (by omega) (by omega) (by omega)
      refine ⟨c, c1, c2, c3, fun d d1 d2 => ?_, ?_⟩
      · by_cases e : d = a
        · rw [e]; exact List.isEmpty_iff.mp q
        · exact c4 d (by omega) d2
      have bd : C.b_order_paper_1 [some (dNet ns), x1, x2, some (.int a)] = .ok (.nx, [some (dNet ns), x1, x2, some (.int ((a + 1 : Nat) : Int))]) := by
        simp only [C.b_order_paper_1]
        generalize dNet ns = N at *
        simp
      rw [whileN_step t bd]
      exact e
theorem order9_go (h : NetOk ns most) (hm : most ≤ 20) (h6 : ns.length ≤ 8) (w : WOk ns.length (wiresI ns)) : ∀ (n : Nat) (row : List Nat), Topo ns row → ns.length - row.length < n →
    (∃ row', ordR ns n row = some row' ∧ Topo ns row' ∧ ns.length ≤ row'.length ∧ whileN (cBl (cOp ltD (cCall lenD (cCons (cOwn 1) (cNil))) (cCall lenD (cCons (cVar 0) (cNil))))) C.b_order_paper_2 [2, 3] n [some (dNet ns), some (ln' row), none, none] = .ok (.nx, [some (dNet ns), some (ln' row'), none, none])) ∨
    (ordR ns n row = none ∧ ∃ r, FirstR ns r ∧ ∃ ro x2 x3, whileN (cBl (cOp ltD (cCall lenD (cCons (cOwn 1) (cNil))) (cCall lenD (cCons (cVar 0) (cNil))))) C.b_order_paper_2 [2, 3] n [some (dNet ns), some (ln' row), none, none] = .ok (.rt (.fr (rngD r)), [some (dNet ns), some (ln' ro), x2, x3]))
  | 0, row, t, hn => by omega
  | n + 1, row, t, hn => by
    have hle := h.le
    have ln : lenD [dNet ns] = .ok (.int ns.length) := by rw [d_lenT, List.length_map]
    have lr : lenD [ln' row] = .ok (.int row.length) := by rw [d_lenL, List.length_map]
    have rle : row.length ≤ ns.length := by
      have := nodup_len (A := row) (B := List.range ns.length) t.nd fun x hx => List.mem_range.mpr (t.lt x hx)
      rw [List.length_range] at this
      exact this
    have tst : cBl (cOp ltD (cCall lenD (cCons (cOwn 1) (cNil))) (cCall lenD (cCons (cVar 0) (cNil)))) [some (dNet ns), some (ln' row), none, none] = .ok (decide (row.length < ns.length), [some (dNet ns), some (ln' row), none, none]) := by
      have lt : ltD (.int (row.length : Nat)) (.int (ns.length : Nat)) = .ok (.bl (decide (row.length < ns.length))) := by
        rw [d_lt]
        exact congrArg (fun q => Y.R.ok (D.bl q)) (decide_eq_decide.mpr (by omega))
      generalize decide (row.length < ns.length) = q at *
      generalize ln' row = RD at *
      generalize dNet ns = N at *
      simp [ln, lr, lt, -d_lt, -d_lenT, -d_lenL]
    by_cases c : row.length < ns.length
    · rw [decide_eq_true c] at tst
      obtain ⟨f1, f2⟩ := next_free_ok h hm (row := row) (by omega)
      cases q : nextO ns row with
      | some k =>
        have nf := f1 k q
        have t2 := topo_add t q
        have zl : szOk (row.length + 1) = true := szOk_of (by omega)
        have bd : C.b_order_paper_2 [some (dNet ns), some (ln' row), none, none] = .ok (.nx, [some (dNet ns), some (ln' (row ++ [k])), some (.int k), none]) := by
          have el : ln' (row ++ [k]) = .lst ((row.map fun k : Nat => D.int (k : Nat)) ++ [.int k]) := by simp
          rw [el]
          have er : ln' row = .lst (row.map fun k : Nat => D.int (k : Nat)) := rfl
          rw [er] at nf ⊢
          have zl2 : szOk ((row.map fun k : Nat => D.int (k : Nat)).length + 1) = true := by rw [List.length_map]; exact zl
          simp only [C.b_order_paper_2]
          generalize (row.map fun k : Nat => D.int (k : Nat)) = RD at *
          generalize C.b_order_paper_1 = B1 at *
          generalize dNet ns = N at *
          have ii : isD (.int (k : Nat)) .non = .ok (.bl false) := rfl
          simp [nf, zl2, ii, D.nl, Y.isNon]
        have ih := order9_go h hm h6 w n (row ++ [k]) t2 (by rw [List.length_append, List.length_singleton]; omega)
        rcases ih with ⟨row', r0, r1, r2, e⟩ | ⟨r0, r, r1, ro, x2, x3, e⟩
        · exact .inl ⟨row', by unfold ordR; rw [if_pos c, q]; exact r0, r1, r2, by rw [whileN_step tst bd]; exact e⟩
        · exact .inr ⟨by unfold ordR; rw [if_pos c, q]; exact r0, r, r1, ro, x2, x3, by rw [whileN_step tst bd]; exact e⟩
      | none =>
        have nf := f2 q
        have ne := stuck_ring w t.nd c q
        refine .inr ⟨by unfold ordR; rw [if_pos c, q], ?_⟩
        obtain ⟨r0, hr0⟩ := List.exists_mem_of_ne_nil _ ne
        obtain ⟨b, hb, hq⟩ := List.mem_flatMap.mp ((sortL_perm _).mem_iff.mp hr0)
        have hb := List.mem_range.mp hb
        obtain ⟨cc, c1, c2, c3, c4, e⟩ := many9_go h hm h6 (x1 := some (ln' row)) (x2 := some .non) (b := b + 1) (by omega) (List.ne_nil_of_mem hq) (b + 1) 1 (by omega) (by omega) (by omega)
        have ws := sWhile_of e
        have rwk := rings_with8_ok h hm h6 (n := cc) c1 c2
        obtain ⟨r, rs, er⟩ : ∃ r rs, withR (wiresI ns) ns.length cc = r :: rs := by
          cases hW : withR (wiresI ns) ns.length cc with
          | nil => exact absurd hW c3
          | cons r rs => exact ⟨r, rs, rfl⟩
        rw [er] at rwk
        have i0 : ixD (lti (r :: rs)) (.int 0) = .ok (ti r) := by
          show (match atI ((r :: rs).map ti) 0 with | some d => Y.R.ok d | none => Y.R.stk) = _
          rw [show atI ((r :: rs).map ti) 0 = some (ti r) from atI_of (j := 0) rfl rfl]
        have ws : sWhile (cBl (cOp eqD (cCallF C.g_rings_with (cCons (cVar 0) (cCons (cVar 3) (cNil)))) (cLst (cNil)))) C.b_order_paper_1 [] [some (dNet ns), some (ln' row), some .non, some (.int 1)] = .ok (.nx, [some (dNet ns), some (ln' row), some .non, some (.int cc)]) := ws
        have nlr : D.nl (ti r) = true := nls_ints
        have bd : C.b_order_paper_2 [some (dNet ns), some (ln' row), none, none] = .ok (.rt (.fr (rngD r)), [some (dNet ns), some (ln' row), some .non, some (.int cc)]) := by
          unfold rngD
          have er : ln' row = .lst (row.map fun k : Nat => D.int (k : Nat)) := rfl
          rw [er] at nf ws ⊢
          simp only [C.b_order_paper_2]
          generalize (row.map fun k : Nat => D.int (k : Nat)) = RD at *
          generalize C.b_order_paper_1 = B1 at *
          generalize lti (r :: rs) = LR at *
          generalize ti r = TR at *
          generalize dNet ns = N at *
          have ii : isD .non .non = .ok (.bl true) := rfl
          simp [nf, ii, ws, rwk, i0, szOk_of, D.nl, Y.isNon]
        refine ⟨r, ⟨cc, rs, c1, c2, er, fun d d1 d2 => c4 d d1 d2⟩, row, some .non, some (.int cc), ?_⟩
        unfold whileN
        rw [tst]
        simp only [R.bind_ok, if_true]
        rw [bd]
        rfl
    · rw [decide_eq_false c] at tst
      exact .inl ⟨row, by unfold ordR; rw [if_neg c], t, by omega, whileN_stop tst⟩
theorem order_paper9_ok (h : NetOk ns most) (hm : most ≤ 20) (h6 : ns.length ≤ 8) (w : WOk ns.length (wiresI ns)) :
    (∃ row, ordR ns (ns.length + 1) [] = some row ∧ Topo ns row ∧ ns.length ≤ row.length ∧ C.g_order_paper [dNet ns] = .ok (.fr (ordD row))) ∨ (ordR ns (ns.length + 1) [] = none ∧ ∃ r, FirstR ns r ∧ C.g_order_paper [dNet ns] = .ok (.fr (rngD r))) := by
  have t0 : Topo ns [] := ⟨by simp, by simp, fun i hi => by simp at hi⟩
  rcases order9_go h hm h6 w (ns.length + 1) [] t0 (by simp) with ⟨row, r0, t, hl, e⟩ | ⟨ne, r, fr, ro, x2, x3, e⟩
  · refine .inl ⟨row, r0, t, hl, ?_⟩
    have ws := sWhile_of e
    have ws : sWhile (cBl (cOp ltD (cCall lenD (cCons (cOwn 1) (cNil))) (cCall lenD (cCons (cVar 0) (cNil))))) C.b_order_paper_2 [2, 3] [some (dNet ns), some (.lst []), none, none] = _ := ws
    have nl : nls (row.map fun k : Nat => D.int (k : Nat)) = true := nls_map fun _ _ => rfl
    unfold ordD
    simp only [C.g_order_paper, C.m_order_paper]
    have er : ln' row = .lst (row.map fun k : Nat => D.int (k : Nat)) := rfl
    rw [er] at ws ⊢
    generalize (row.map fun k : Nat => D.int (k : Nat)) = RD at *
    generalize C.b_order_paper_2 = B at *
    generalize dNet ns = N at *
    simp [e_fnP, ws, shAt, chkO_ws, szOk_of, nl, D.nl]
  · refine .inr ⟨ne, r, fr, ?_⟩
    have ws := sWhile_of e
    have ws : sWhile (cBl (cOp ltD (cCall lenD (cCons (cOwn 1) (cNil))) (cCall lenD (cCons (cVar 0) (cNil))))) C.b_order_paper_2 [2, 3] [some (dNet ns), some (.lst []), none, none] = _ := ws
    have er : ln' ro = .lst (ro.map fun k : Nat => D.int (k : Nat)) := rfl
    rw [er] at ws
    simp only [C.g_order_paper, C.m_order_paper]
    generalize (ro.map fun k : Nat => D.int (k : Nat)) = ROD at *
    generalize C.b_order_paper_2 = B at *
    generalize rngD r = RD at *
    generalize dNet ns = N at *
    simp [e_fnP, ws, shAt, chkO_ws, szOk_of]
end
end H

set_option Elab.async false
set_option linter.all false
set_option maxRecDepth 100000
set_option maxHeartbeats 4000000
namespace H
open PySem PySem.Spec PyProof.Rows L2 Y
abbrev csI (L : List Nat) : List Int := L.map fun k : Nat => (k : Int)
theorem pos_erase {k : Nat} : ∀ {L : List Nat}, k ∈ L → ∃ j, posI (k : Int) (csI L) = some j ∧ (csI L).eraseIdx j = csI (L.erase k)
  | [], h => by cases h
  | a :: L, h => by
    by_cases c : a = k
    · subst c
      refine ⟨0, ?_, ?_⟩
      · show (if ((a : Nat) : Int) = (a : Int) then some 0 else _) = _
        rw [if_pos rfl]
      · rw [List.erase_cons_head]
        rfl
    · have hk : k ∈ L := (List.mem_cons.mp h).resolve_left fun z => c z.symm
      obtain ⟨j, h1, h2⟩ := pos_erase hk
      refine ⟨j + 1, ?_, ?_⟩
      · show (if ((a : Nat) : Int) = (k : Int) then some 0 else (posI (k : Int) (csI L)).map (· + 1)) = _
        rw [if_neg (by omega), h1]
        rfl
      · rw [List.erase_cons_tail (by simpa using c)]
        show (a : Int) :: (csI L).eraseIdx j = (a : Int) :: csI (L.erase k)
        rw [h2]
theorem ln_cs {L : List Nat} : ln' L = .lst ((csI L).map D.int) := by
  show D.lst _ = D.lst _
  rw [List.map_map]
  rfl
section
variable {ns : List RuleT} {most : Nat}
theorem left_len {row : List Nat} (t : Topo ns row) : (leftN ns.length row).length + row.length = ns.length := by
  have p : (row ++ leftN ns.length row).Perm (List.range ns.length) := by
    refine (List.perm_ext_iff_of_nodup ?_ List.nodup_range).mpr fun k => ?_
    · refine List.pairwise_append.mpr ⟨t.nd, List.Pairwise.sublist List.filter_sublist List.nodup_range, fun a ha b hb e => ?_⟩
      exact (mem_left.mp hb).2 (e ▸ ha)
    · rw [List.mem_append, List.mem_range, mem_left]
      constructor
      · rintro (h | h)
        · exact t.lt k h
        · exact h.1
      · intro h
        by_cases c : k ∈ row
        · exact .inl c
        · exact .inr ⟨h, c⟩
  have := p.length_eq
  rw [List.length_append, List.length_range] at this
  omega
theorem first_go (h : NetOk ns most) (hm : most ≤ 20) : ∀ (n : Nat) (row : List Nat), Topo ns row → ns.length - row.length < n →
    (∀ row', ordR ns n row = some row' → whileN (cBl (cOp neD (cOwn 3) (cLst (cNil)))) C.b__law_first_2_1 [4] n [some (prD (wiresI ns)), some (.int ns.length), some (ln' row), some (ln' (leftN ns.length row)), none, none, none] = .ok (.nx, [some (prD (wiresI ns)), some (.int ns.length), some (ln' row'), some (ln' (leftN ns.length row')), none, none, none])) ∧
    (ordR ns n row = none → ∃ ρ', whileN (cBl (cOp neD (cOwn 3) (cLst (cNil)))) C.b__law_first_2_1 [4] n [some (prD (wiresI ns)), some (.int ns.length), some (ln' row), some (ln' (leftN ns.length row)), none, none, none] = .ok (.rt (.fr .non), ρ'))
  | 0, row, t, hn => by omega
  | n + 1, row, t, hn => by
    have hle := h.le
    have ll := left_len t
    have ne := ne_lnn (xs := leftN ns.length row)
    have emp : (!(leftN ns.length row).isEmpty) = decide (row.length < ns.length) := by
      rw [Bool.eq_iff_iff, Bool.not_eq_true', List.isEmpty_eq_false_iff, decide_eq_true_eq, ← List.length_pos_iff]
      omega
    rw [emp] at ne
    have tst : cBl (cOp neD (cOwn 3) (cLst (cNil))) [some (prD (wiresI ns)), some (.int ns.length), some (ln' row), some (ln' (leftN ns.length row)), none, none, none] = .ok (decide (row.length < ns.length), [some (prD (wiresI ns)), some (.int ns.length), some (ln' row), some (ln' (leftN ns.length row)), none, none, none]) := by
      generalize decide (row.length < ns.length) = q at *
      generalize ln' (leftN ns.length row) = LD at *
      generalize ln' row = RD at *
      generalize prD (wiresI ns) = PD at *
      simp [ne, szOk_of]
    unfold ordR
    by_cases c : row.length < ns.length
    · rw [if_pos c]
      rw [decide_eq_true c] at tst
      have fr := free_ok h hm (row := row) none
      have hd := next_free_head (ns := ns) (row := row)
      have flen : (freeL ns row).length ≤ ns.length := by
        have := List.length_filter_le (fun k => !(leftN ns.length row).any fun j => preB ns j k) (leftN ns.length row)
        unfold freeL
        omega
      have zl : szOk ((leftN ns.length row).map fun k : Nat => D.int (k : Nat)).length = true := szOk_of (by rw [List.length_map]; omega)
      have eqF : eqD (ln' (freeL ns row)) (.lst []) = .ok (.bl (freeL ns row).isEmpty) := by
        rw [eqD_of (n := 2) fit_ln fit_nil, eqP_lst, eqPs_nil, List.isEmpty_map]
      cases hF : freeL ns row with
      | nil =>
        rw [hF] at hd eqF fr
        have hd : nextO ns row = none := hd
        rw [hd]
        refine ⟨fun row' z => (by cases z), fun _ => ?_⟩
        have bd : C.b__law_first_2_1 [some (prD (wiresI ns)), some (.int ns.length), some (ln' row), some (ln' (leftN ns.length row)), none, none, none] = .ok (.rt (.fr .non), [some (prD (wiresI ns)), some (.int ns.length), some (ln' row), some (ln' (leftN ns.length row)), some (ln' []), none, none]) := by
          have eqF : eqD (.lst []) (.lst []) = .ok (.bl true) := eqF
          have fr : cCompL _ _ _ _ _ _ _ = .ok ([], _) := fr
          have eL : ln' (leftN ns.length row) = .lst ((leftN ns.length row).map fun k : Nat => D.int (k : Nat)) := rfl
          have eN : ln' [] = .lst [] := rfl
          rw [eL] at fr ⊢
          rw [eN]
          simp only [C.b__law_first_2_1]
          generalize ((leftN ns.length row).map fun k : Nat => D.int (k : Nat)) = LD at *
          generalize ln' row = RD at *
          generalize prD (wiresI ns) = PD at *
          generalize C.t__law_first_2_2 = T2 at *
          generalize C.e__law_first_2_2 = E2 at *
          simp [zl, fr, eqF, szOk_of]
        refine ⟨[some (prD (wiresI ns)), some (.int ns.length), some (ln' row), some (ln' (leftN ns.length row)), some (ln' []), none, none], ?_⟩
        unfold whileN
        rw [tst]
        simp only [R.bind_ok, if_true]
        rw [bd]
        rfl
      | cons k rest =>
        rw [hF] at hd
        have hd : nextO ns row = some k := hd
        rw [hd]
        have kl : k ∈ leftN ns.length row := by
          have : k ∈ freeL ns row := by rw [hF]; simp
          exact (List.mem_filter.mp this).1
        obtain ⟨j, p1, p2⟩ := pos_erase kl
        have le := left_erase (row := row) kl
        have ih := first_go h hm n (row ++ [k]) (topo_add t hd) (by rw [List.length_append, List.length_singleton]; omega)
        have bd : C.b__law_first_2_1 [some (prD (wiresI ns)), some (.int ns.length), some (ln' row), some (ln' (leftN ns.length row)), none, none, none] = .ok (.nx, [some (prD (wiresI ns)), some (.int ns.length), some (ln' (row ++ [k])), some (ln' (leftN ns.length (row ++ [k]))), some (ln' (freeL ns row)), none, none]) := by
          rw [hF] at fr eqF ⊢
          rw [List.length_map] at zl
          have i0 : ixD (ln' (k :: rest)) (.int 0) = .ok (.int k) := by
            show (match atI ((k :: rest).map fun k : Nat => D.int (k : Nat)) 0 with | some d => Y.R.ok d | none => Y.R.stk) = _
            rw [show atI ((k :: rest).map fun k : Nat => D.int (k : Nat)) 0 = some (.int k) from atI_of (j := 0) rfl rfl]
          have ea : ln' (row ++ [k]) = .lst ((row.map fun k : Nat => D.int (k : Nat)) ++ [.int k]) := by simp
          have zr : szOk ((row.map fun k : Nat => D.int (k : Nat)).length + 1) = true := szOk_of (by rw [List.length_map]; omega)
          have er : ln' row = .lst (row.map fun k : Nat => D.int (k : Nat)) := rfl
          have io := Y.ints_map (csI (leftN ns.length row))
          rw [ea, le, ln_cs (L := (leftN ns.length row).erase k), ← p2]
          have ef : ((leftN ns.length row).map fun k : Nat => D.int (k : Nat)) = (csI (leftN ns.length row)).map D.int := by rw [List.map_map]; rfl
          rw [ef] at fr
          have zl2 : szOk ((csI (leftN ns.length row)).map D.int).length = true := by rw [List.length_map, List.length_map]; exact zl
          rw [ln_cs (L := leftN ns.length row)] at fr ⊢
          rw [er] at fr ⊢
          have eF2 : ln' (k :: rest) = .lst ((k :: rest).map fun k : Nat => D.int (k : Nat)) := rfl
          rw [eF2] at i0 eqF ⊢
          generalize ((k :: rest).map fun k : Nat => D.int (k : Nat)) = FD at *
          have eqF : eqD (.lst FD) (.lst []) = .ok (.bl false) := eqF
          simp only [C.b__law_first_2_1]
          generalize (row.map fun k : Nat => D.int (k : Nat)) = RD at *
          generalize prD (wiresI ns) = PD at *
          generalize C.t__law_first_2_2 = T2 at *
          generalize C.e__law_first_2_2 = E2 at *
          generalize csI (leftN ns.length row) = CL at *
          generalize CL.map D.int = CD at *
          simp [zl2, fr, eqF, i0, zr, io, p1, szOk_of, -d_ixL]
        refine ⟨fun row' z => ?_, fun z => ?_⟩
        · rw [whileN_step tst bd]
          exact ih.1 row' z
        · obtain ⟨ρ', e⟩ := ih.2 z
          exact ⟨ρ', by rw [whileN_step tst bd]; exact e⟩
    · rw [if_neg c]
      rw [decide_eq_false c] at tst
      refine ⟨fun row' z => ?_, fun z => by cases z⟩
      cases z
      exact whileN_stop tst
end
end H

set_option Elab.async false
set_option linter.all false
set_option maxRecDepth 100000
set_option maxHeartbeats 4000000
namespace H
open PySem PySem.Spec PyProof.Rows L2 Y
theorem tree_8 {ws : List (List Int)} {m first n : Nat} (hm : m ≤ 8) (hf : first < m) : (treeW ws m first n [(first : Int)]).length ≤ 362880 := by
  have sub : ∀ r ∈ treeW ws m first n [(first : Int)], r ∈ (List.range 9).flatMap fun k => rowsI k (rgI m) := fun r hr => by
    obtain ⟨s, rfl, _, h4⟩ := tree_iff.mp hr
    obtain ⟨g1, g2, g3, _⟩ := ext_iff.mp h4
    have nd : ((first : Int) :: s).Nodup := List.nodup_cons.mpr ⟨fun z => g2 _ z (by simp), g3⟩
    have mem : ∀ x ∈ (first : Int) :: s, x ∈ rgI m := fun x hx => by
      rcases List.mem_cons.mp hx with rfl | hx
      · exact mem_rg.mpr ⟨by omega, by omega⟩
      · have := g1 x hx
        exact mem_rg.mpr ⟨by omega, by omega⟩
    have l := nodup_len nd mem
    rw [rgI_len] at l
    exact List.mem_flatMap.mpr ⟨((first : Int) :: s).length, List.mem_range.mpr (by omega), rows_mem.mpr ⟨rfl, nd, mem⟩⟩
  have a := nodup_len (tree_nd (ws := ws) (m := m) (first := first) (n := n) (w := [(first : Int)])) sub
  have b := flat_len (xs := List.range 9) (f := fun k => rowsI k (rgI m)) (c := 40320) fun k hk => rows_8 (by rw [rgI_len]; exact hm) (by have := List.mem_range.mp hk; omega)
  rw [List.length_range] at b
  omega
theorem rings_8 {ws : List (List Int)} {m lg : Nat} (hm : m ≤ 8) : ∀ {i : Nat}, i ≤ m → ((List.range i).flatMap (ringsF ws m lg)).length ≤ i * 362880
  | 0, _ => by simp
  | i + 1, hi => by
    rw [flat_range, List.length_append]
    have := rings_8 (ws := ws) (lg := lg) hm (i := i) (by omega)
    have l : (ringsF ws m lg i).length ≤ 362880 := Nat.le_trans (List.length_filter_le _ _) (tree_8 hm (by omega))
    omega
theorem rings8_ok {ws : List (List Int)} {m lg : Nat} (hm : m ≤ 8) (h1 : 1 ≤ lg) (hlg : lg ≤ 1000) : C.g__law_rings [prD ws, .int m, .int lg] = .ok (.fr (lti (sortL (ringsL ws m lg)))) := by
  have lp := for_idx (tm := tmName 4) (body := C.b__law_rings_2) (vs := [4, 5, 6]) (ws := []) (fun k : Nat => D.int (k : Nat)) (List.range m) (fun i => [some (prD ws), some (.int m), some (.int lg), some (lti ((List.range i).flatMap (ringsF ws m lg))), none, none, none, none]) fun i hi => by
    rw [List.length_range] at hi
    refine ⟨by simp, ?_⟩
    rw [List.getElem_range, flat_range]
    have e0 : remW ws m i lg [[(i : Int)]] = treeW ws m i (lg - 1) [(i : Int)] := by
      unfold remW
      simp
    have tl := tree_8 (ws := ws) (m := m) (first := i) (n := lg - 1) hm hi
    have fl := rings_8 (ws := ws) (m := m) (lg := lg) hm (i := i) (by omega)
    have w := rings_run (ws := ws) (m := m) (first := i) (lg := lg) (by omega) hi hlg _ [[(i : Int)]] ((List.range i).flatMap (ringsF ws m lg)) rfl (fun w hw => by
      rw [List.mem_singleton.mp hw]
      exact ⟨by simp, by simpa using h1⟩) (by rw [e0]; omega)
    rw [e0] at w
    have w := sWhile_of w
    have e3 : (treeW ws m i (lg - 1) [(i : Int)]).filter (closW ws i) = ringsF ws m lg i := rfl
    rw [e3] at w
    have es : lti [[(i : Int)]] = .lst [.tup [.int i]] := rfl
    rw [es] at w
    simp only [turnF, C.b__law_rings_2]
    generalize C.b__law_rings_1 = B at *
    generalize lti ((List.range i).flatMap (ringsF ws m lg)) = L1 at *
    generalize lti ((List.range i).flatMap (ringsF ws m lg) ++ ringsF ws m lg i) = L2 at *
    generalize prD ws = PD at *
    simp [w, szOk_of, shAt, chkO_ws]
  rw [List.length_range] at lp
  have lp : forL (tmName 4) C.b__law_rings_2 [4, 5, 6] [] ((List.range m).map fun k : Nat => D.int (k : Nat)) [some (prD ws), some (.int m), some (.int lg), some (.lst []), none, none, none, none] = .ok (.nx, [some (prD ws), some (.int m), some (.int lg), some (lti (ringsL ws m lg)), none, none, none, none]) := lp
  have so := sortD_lti (L := ringsL ws m lg) fun r hr => (rings_mem h1 hr).1
  have rk : rngOk (m : Nat) = true := rngOk_of (by omega) (by omega)
  have zk : szOk m = true := szOk_of (by omega)
  have z0 : szOk 0 = true := szOk_of (by omega)
  simp only [C.g__law_rings, C.m__law_rings]
  generalize C.b__law_rings_2 = B at *
  generalize lti (sortL (ringsL ws m lg)) = X at *
  generalize lti (ringsL ws m lg) = LR at *
  generalize prD ws = PD at *
  simp [e_fnP, rk, zk, lp, so, shAt, chkO_ws]

theorem ringsL_iff {ws : List (List Int)} {m lg : Nat} {r : List Int} (hlg : 1 ≤ lg) : r ∈ ringsL ws m lg ↔ r ∈ allR ws m ∧ r.length ≤ lg := by
  unfold ringsL allR ringsF withR
  rw [List.mem_flatMap, List.mem_flatMap]
  constructor
  · rintro ⟨f, hf, hr⟩
    rw [List.mem_range] at hf
    obtain ⟨h1, h2⟩ := List.mem_filter.mp hr
    obtain ⟨s, rfl, h3, h4⟩ := tree_iff.mp h1
    obtain ⟨g1, g2, g3, g4⟩ := ext_iff.mp h4
    have hc : [lsI ((f : Int) :: s), (f : Int)] ∈ prI ws := of_decide_eq_true h2
    have nd : ((f : Int) :: s).Nodup := List.nodup_cons.mpr ⟨fun z => g2 _ z (by simp), g3⟩
    have mem : ∀ x ∈ (f : Int) :: s, x ∈ rgI m := fun x hx => by
      rcases List.mem_cons.mp hx with rfl | hx
      · exact mem_rg.mpr ⟨by omega, by omega⟩
      · have := g1 x hx
        exact mem_rg.mpr ⟨by omega, by omega⟩
    have l := nodup_len nd mem
    rw [rgI_len, List.length_cons] at l
    refine ⟨⟨s.length, List.mem_range.mpr (by omega), List.mem_filter.mpr ⟨rows_mem.mpr ⟨by simp, nd, mem⟩, ?_⟩⟩, ?_⟩
    · exact rnd_iff.mpr ⟨fun x hx => by have := g1 x hx; omega, g4, hc⟩
    · show ((f : Int) :: s).length ≤ lg
      rw [List.length_cons]
      omega
  · rintro ⟨⟨n, hn, hr⟩, hl⟩
    rw [List.mem_range] at hn
    obtain ⟨h1, h2⟩ := List.mem_filter.mp hr
    obtain ⟨g1, g2, g3⟩ := rows_mem.mp h1
    cases r with
    | nil => cases g1
    | cons a s =>
      obtain ⟨k1, k2, k3⟩ := rnd_iff.mp h2
      obtain ⟨n1, n2⟩ := List.nodup_cons.mp g2
      have ha := mem_rg.mp (g3 a (by simp))
      obtain ⟨f, rfl⟩ : ∃ f : Nat, a = (f : Int) := ⟨a.toNat, by omega⟩
      rw [List.length_cons] at g1 hl
      refine ⟨f, List.mem_range.mpr (by omega), List.mem_filter.mpr ⟨tree_iff.mpr ⟨s, rfl, by omega, ext_iff.mpr ⟨fun x hx => ?_, fun x hx z => ?_, n2, k2⟩⟩, decide_eq_true k3⟩⟩
      · have h5 := mem_rg.mp (g3 x (by simp [hx]))
        have h6 := k1 x hx
        have : x ≠ (f : Int) := fun z => n1 (z ▸ hx)
        omega
      · rw [List.mem_singleton] at z
        exact n1 (z ▸ hx)
theorem ltL_cons {x y : Int} {a b : List Int} : ltL (x :: a) (y :: b) = if x = y then ltL a b else decide (x < y) := rfl
theorem rows_pw : ∀ {n : Nat} {xs : List Int}, RiseI xs → (rowsI n xs).Pairwise fun a b => ltL a b = true
  | 0, xs, _ => List.pairwise_singleton _ _
  | n + 1, xs, h => by
    show (xs.flatMap fun x => (rowsI n (xs.filter fun y => !decide (y = x))).map fun r => x :: r).Pairwise _
    refine List.pairwise_flatMap.mpr ⟨fun x hx => ?_, ?_⟩
    · refine List.pairwise_map.mpr ((rows_pw (n := n) (List.Pairwise.sublist List.filter_sublist h)).imp fun {a b} q => ?_)
      rw [ltL_cons, if_pos rfl]
      exact q
    · refine h.imp fun {x y} hxy a ha b hb => ?_
      obtain ⟨a', _, rfl⟩ := List.mem_map.mp ha
      obtain ⟨b', _, rfl⟩ := List.mem_map.mp hb
      rw [ltL_cons, if_neg (by omega), decide_eq_true hxy]
end H

set_option Elab.async false
set_option linter.all false
set_option maxRecDepth 100000
namespace H
open PySem PySem.Spec PyProof.Rows L2 Y
end H

set_option Elab.async false
set_option linter.all false
set_option maxRecDepth 100000
namespace H
open PySem PySem.Spec PyProof.Rows L2 Y
end H

set_option Elab.async false
set_option linter.all false
set_option maxRecDepth 100000
namespace H
open PySem PySem.Spec PyProof.Rows L2 Y
end H

set_option Elab.async false
set_option linter.all false
set_option maxRecDepth 100000
namespace H
open PySem PySem.Spec PyProof.Rows L2 Y
theorem index_li {k : Int} {xs : List Int} (h : k ∈ xs) : indexD (.lst (xs.map D.int)) (.int k) = .ok (.int (xs.idxOf k : Nat)) := by
  have c1 : dOk (.lst (xs.map D.int)) = true := dOk_fit (n := 1) fit_lstI
  have c2 : dOk (.int k) = true := dOk_fit (n := 1) fit_int
  have e : (xs.map D.int).findIdx? (fun z => eqP z (.int k)) = some (xs.idxOf k) := by
    have ef : ((fun z => eqP z (.int k)) ∘ D.int) = fun x : Int => x == k := by
      funext x
      show eqP (.int x) (.int k) = _
      rw [eqP_int]
    rw [List.findIdx?_map, ef, List.findIdx?_eq_some_of_exists ⟨k, h, by simp⟩]
    rfl
  show (if (dOk (.lst (xs.map D.int)) && dOk (.int k)) = true then (match (xs.map D.int).findIdx? (fun z => eqP z (.int k)) with | some j => Y.R.ok (D.int j) | none => .stk) else .stk) = _
  rw [c1, c2, e]
  rfl
def onwB (L : List (List Int)) (is : List Int) : Bool := L.all fun p => decide (is.idxOf (p.getD 0 0) < is.idxOf (p.getD 1 0))
def ordI (ws : List (List Int)) (m : Nat) (is : List Int) : Bool := decide (is.length = m) && (insB m is && decide is.Nodup) && onwB (prI ws) is
def ordB (ws : List (List Int)) (m : Nat) : D → Bool
  | .lst xs => match intsOf xs with
    | some is => ordI ws m is
    | none => false
  | _ => false
/-- a row of all switches -/
theorem row_all {m : Nat} {is : List Int} (hl : is.length = m) (h : (insB m is && decide is.Nodup) = true) : ∀ j : Nat, j < m → (j : Int) ∈ is := by
  rw [Bool.and_eq_true, decide_eq_true_eq] at h
  have sub : ∀ x ∈ is, x ∈ rgI m := fun x hx => by
    have := of_decide_eq_true (List.all_eq_true.mp h.1 x hx)
    exact List.mem_map.mpr ⟨x.toNat, List.mem_range.mpr (by omega), by omega⟩
  intro j hj
  refine Classical.byContradiction fun z => ?_
  have := nodup_len (A := is) (B := (rgI m).erase (j : Int)) h.2 fun x hx => by
    exact (List.mem_erase_of_ne (fun e : x = (j : Int) => z (by rw [← e]; exact hx))).mpr (sub x hx)
  have mj : (j : Int) ∈ rgI m := List.mem_map.mpr ⟨j, List.mem_range.mpr hj, rfl⟩
  rw [List.length_erase_of_mem mj] at this
  have e : (rgI m).length = m := by unfold rgI; rw [List.length_map, List.length_range]
  omega
theorem sort_row {m : Nat} {is : List Int} (hl : is.length = m) : decide (sortI is = rgI m) = (insB m is && decide is.Nodup) := by
  rw [Bool.eq_iff_iff, decide_eq_true_eq]
  constructor
  · intro h
    have p : is.Perm (rgI m) := by rw [← h]; exact (sortI_perm is).symm
    rw [Bool.and_eq_true, decide_eq_true_eq]
    constructor
    · unfold insB
      rw [List.all_eq_true]
      intro x hx
      obtain ⟨j, hj, rfl⟩ := List.mem_map.mp (p.mem_iff.mp hx)
      have := List.mem_range.mp hj
      exact decide_eq_true ⟨by omega, by omega⟩
    · exact p.nodup_iff.mpr (List.pairwise_map.mpr (List.nodup_range.imp fun q z => q (by exact_mod_cast z)))
  · intro h
    have all := row_all hl h
    rw [Bool.and_eq_true, decide_eq_true_eq] at h
    have p : (rgI m).Perm is := (List.perm_ext_iff_of_nodup (List.pairwise_map.mpr (List.nodup_range.imp fun q z => q (by exact_mod_cast z))) h.2).mpr fun x => ⟨fun hx => by
      obtain ⟨j, hj, rfl⟩ := List.mem_map.mp hx
      exact all j (List.mem_range.mp hj), fun hx => by
      have := of_decide_eq_true (List.all_eq_true.mp h.1 x hx)
      exact List.mem_map.mpr ⟨x.toNat, List.mem_range.mpr (by omega), by omega⟩⟩
    refine (sortI_of p ?_).symm
    refine List.pairwise_map.mpr (List.pairwise_lt_range.imp fun q => ?_)
    have : ∀ a b : Nat, a < b → (a : Int) ≤ b := fun a b q => by omega
    exact this _ _ q
structure LsT (d : D) : Prop where
  no : noDit d = true
  lst : ∀ ys, d = .lst ys → ys.length ≤ 60 ∧ ∀ y ∈ ys, noDit y = true
  arg : ∀ n, d ≠ .arg n
theorem law_onward_ok {ns : List RuleT} {most : Nat} {d : D} (h : NetOk ns most) (hm : most ≤ 20) (hd : LsT d) : C.g__law_onward [prD (wiresI ns), .int ns.length, d] = .ok (.fr (.bl (ordB (wiresI ns) ns.length d))) := by
  obtain ⟨_, _, wk⟩ := pairs_ok h hm
  have hle := h.le
  have hno := hd.no
  cases d with
  | lst xs =>
    obtain ⟨hl, hx⟩ := hd.lst xs rfl
    have c := comp_map (tm := tmName 5) (t := cYes) (e := C.e__law_onward_1) (vs := [5]) (ws := []) (ρ := [some (prD (wiresI ns)), some (.int ns.length), some (.lst xs), none, none, none]) (fun x : D => x) (fun x => D.bl (whB x)) xs (fun x hx' => by
      have u := law_whole2_any (hx x hx')
      simp only [turnC, C.e__law_onward_1]
      generalize prD (wiresI ns) = PD at *
      simp [u])
    rw [List.map_id'] at c
    have z : szOk xs.length = true := szOk_of (by omega)
    have e2 : (xs.map fun x => D.bl (whB x)) = (xs.map whB).map D.bl := by rw [List.map_map]; rfl
    have e3 : allD [.lst (xs.map fun x => D.bl (whB x))] = .ok (.bl (xs.all whB)) := by rw [e2, d_all, List.all_map]; rfl
    have nl : neD (.int (xs.length : Nat)) (.int (ns.length : Nat)) = .ok (.bl (!decide (xs.length = ns.length))) := by
      rw [neD_int]
      exact congrArg (fun q => Y.R.ok (D.bl (!q))) (decide_eq_decide.mpr Int.ofNat_inj)
    have ob : ordB (wiresI ns) ns.length (.lst xs) = (match intsOf xs with | some is => ordI (wiresI ns) ns.length is | none => false) := rfl
    rw [ob]
    simp only [C.g__law_onward, C.m__law_onward]
    by_cases cl : xs.length = ns.length
    · rw [decide_eq_true cl] at nl
      cases hw : xs.all whB with
      | false =>
        have : (match intsOf xs with | some is => ordI (wiresI ns) ns.length is | none => false) = false := by
          cases ei : intsOf xs with
          | none => rfl
          | some is =>
            rw [ints_of ei, List.all_map] at hw
            rw [List.all_eq_false] at hw
            obtain ⟨y, _, hy⟩ := hw
            exact absurd rfl hy
        rw [this]
        rw [hw] at e3
        generalize (xs.map fun x => D.bl (whB x)) = Q at *
        generalize C.e__law_onward_1 = E1 at *
        generalize prD (wiresI ns) = PD at *
        generalize hL : xs.length = L at *
        simp [e_fnP, noDit, Y.isLst, hL, nl, z, c, e3, -d_all, -neD_int]
      | true =>
        rw [hw] at e3
        obtain ⟨is, e⟩ := whs_ints hw
        subst e
        rw [Y.ints_map]
        have li : is.length = ns.length := by rw [List.length_map] at cl; exact cl
        show _ = Y.R.ok (Hd.fr (.bl (ordI (wiresI ns) ns.length is)))
        have so : sortD [.lst (is.map D.int)] = .ok (.lst ((sortI is).map D.int)) := d_sortN
        have rB : rgB 0 (ns.length : Int) = true := by
          unfold rgB
          rw [rngOk_of (by omega) (by omega), rngOk_of (by omega) (by omega)]
          simp
          omega
        have rD : rgD 0 (ns.length : Int) = (rgI ns.length).map D.int := by
          unfold rgD rgI
          have : ((ns.length : Int) - 0).toNat = ns.length := by omega
          rw [this, List.map_map]
          exact List.map_congr_left fun k _ => by simp
        have nr : neD (.lst ((sortI is).map D.int)) (.lst ((rgI ns.length).map D.int)) = .ok (.bl (!decide (sortI is = rgI ns.length))) := by
          rw [neD_of (n := 1) fit_lstI fit_lstI, eqP_lst, eqPs_ints]
        rw [sort_row li] at nr
        have oi : ordI (wiresI ns) ns.length is = ((insB ns.length is && decide is.Nodup) && onwB (prI (wiresI ns)) is) := by
          unfold ordI
          rw [decide_eq_true li, Bool.true_and]
        rw [oi]
        have all := row_all li
        cases cr : (insB ns.length is && decide is.Nodup) with
        | false =>
          rw [cr] at nr
          rw [Bool.false_and]
          generalize ((is.map D.int).map fun x => D.bl (whB x)) = Q at *
          generalize C.e__law_onward_1 = E1 at *
          generalize prD (wiresI ns) = PD at *
          generalize (rgI ns.length).map D.int = RD at *
          generalize (sortI is).map D.int = SD at *
          generalize hI : is.map D.int = IS at *
          generalize hL : IS.length = L at *
          simp [e_fnP, noDit, Y.isLst, hL, nl, z, c, e3, so, rB, rD, nr, -d_all, -neD_int]
        | true =>
          rw [cr] at nr
          rw [Bool.true_and]
          have all := all cr
          have w3 := w3_of wk
          have pok : PrOk ns.length (prI (wiresI ns)) := pr_ok w3 ⟨by simp, by simp⟩
          have pl := pok.len
          have sq : ns.length * ns.length ≤ 400 := Nat.mul_le_mul (show ns.length ≤ 20 by omega) (show ns.length ≤ 20 by omega)
          have cf := comp_filter (tm := tmTup [3, 4]) (t := C.t__law_onward_2) (e := C.e__law_onward_2) (vs := [3, 4]) (ws := []) (ρ := [some (prD (wiresI ns)), some (.int ns.length), some (.lst (is.map D.int)), none, none, none]) ti (fun p => !decide (is.idxOf (p.getD 0 0) < is.idxOf (p.getD 1 0))) (fun _ => D.int 1) (prI (wiresI ns)) fun p hp => by
            obtain ⟨j, k, hj, hk, rfl⟩ := pok.2 p hp
            have i1 := index_li (all j hj)
            have i2 := index_li (all k hk)
            have ge : geD (.int (is.idxOf (j : Int) : Nat)) (.int (is.idxOf (k : Int) : Nat)) = .ok (.bl (!decide (is.idxOf (j : Int) < is.idxOf (k : Int)))) := by
              rw [d_ge]
              refine congrArg (fun q => Y.R.ok (D.bl q)) ?_
              rw [Bool.eq_iff_iff, decide_eq_true_eq, Bool.not_eq_true', decide_eq_false_iff_not]
              omega
            have et : ti [(j : Int), (k : Int)] = .tup [.int j, .int k] := rfl
            have q0 : ([(j : Int), (k : Int)].getD 0 0) = j := rfl
            have q1 : ([(j : Int), (k : Int)].getD 1 0) = k := rfl
            rw [et, q0, q1]
            simp only [turnC, C.t__law_onward_2, C.e__law_onward_2]
            generalize prD (wiresI ns) = PD at *
            generalize is.map D.int = IS at *
            generalize (!decide (is.idxOf (j : Int) < is.idxOf (k : Int))) = q at *
            generalize is.idxOf (j : Int) = x at *
            generalize is.idxOf (k : Int) = y at *
            cases q <;> simp [i1, i2, ge, -d_ge]
          have en : eqD (.lst (((prI (wiresI ns)).filter fun p => !decide (is.idxOf (p.getD 0 0) < is.idxOf (p.getD 1 0))).map fun _ => D.int 1)) (.lst []) = .ok (.bl (onwB (prI (wiresI ns)) is)) := by
            have f1 : Fit 1 (.lst (((prI (wiresI ns)).filter fun p => !decide (is.idxOf (p.getD 0 0) < is.idxOf (p.getD 1 0))).map fun _ => D.int 1)) := fun d hd => by
              obtain ⟨_, _, rfl⟩ := List.mem_map.mp hd
              exact fit_int
            refine (eqD_of (n := 1) f1 fit_nil).trans ?_
            rw [eqP_lst, eqPs_nil]
            refine congrArg (fun q => Y.R.ok (D.bl q)) ?_
            unfold onwB
            rw [Bool.eq_iff_iff, List.isEmpty_iff, List.map_eq_nil_iff, List.filter_eq_nil_iff, List.all_eq_true]
            exact ⟨fun h p hp => by simpa using h p hp, fun h p hp => by simpa using h p hp⟩
          have zk : szOk ((prI (wiresI ns)).map kt).length = true := szOk_of (by rw [List.length_map]; omega)
          have kk := key_tups (L := prI (wiresI ns))
          rw [← kk] at cf
          unfold prD at c cf ⊢
          generalize onwB (prI (wiresI ns)) is = ob at *
          generalize ((prI (wiresI ns)).filter fun p => !decide (is.idxOf (p.getD 0 0) < is.idxOf (p.getD 1 0))).map (fun _ => D.int 1) = FF at *
          generalize (prI (wiresI ns)).map (fun p => D.lst ((sgs (wiresI ns) p).map D.int)) = VV at *
          generalize (prI (wiresI ns)).map kt = KS at *
          generalize ((is.map D.int).map fun x => D.bl (whB x)) = Q at *
          generalize C.e__law_onward_1 = E1 at *
          generalize C.t__law_onward_2 = T2 at *
          generalize C.e__law_onward_2 = E2 at *
          generalize (rgI ns.length).map D.int = RD at *
          generalize (sortI is).map D.int = SD at *
          generalize hI : is.map D.int = IS at *
          generalize hL : IS.length = L at *
          simp [e_fnP, noDit, Y.isLst, hL, nl, z, c, e3, so, rB, rD, nr, zk, cf, en, -d_all, -neD_int]
    · have ob2 : (match intsOf xs with | some is => ordI (wiresI ns) ns.length is | none => false) = false := by
        cases ei : intsOf xs with
        | none => rfl
        | some is =>
          have := ints_of ei
          have l2 : ¬ is.length = ns.length := fun z => cl (by rw [this, List.length_map]; exact z)
          show ordI (wiresI ns) ns.length is = false
          unfold ordI
          rw [decide_eq_false l2]; rfl
      rw [ob2]
      rw [decide_eq_false cl] at nl
      generalize prD (wiresI ns) = PD at *
      generalize hL : xs.length = L at *
      simp [e_fnP, noDit, Y.isLst, hL, nl, -neD_int]
  | dit _ _ => cases hno
  | arg n => exact absurd rfl (hd.arg n)
  | _ => simp [C.g__law_onward, C.m__law_onward, e_fnP, noDit, Y.isLst, ordB]
end H

set_option Elab.async false
set_option linter.all false
set_option maxRecDepth 100000
set_option maxHeartbeats 4000000
namespace H
open PySem PySem.Spec PyProof.Rows L2 Y
section
variable {ns : List RuleT} {most : Nat}
theorem topo_nil : Topo ns [] := ⟨by simp, by simp, fun i hi => by simp at hi⟩
theorem first_ok (h : NetOk ns most) (hm : most ≤ 20) : (∀ row, ordR ns (ns.length + 1) [] = some row → C.g__law_first_2 [prD (wiresI ns), .int ns.length] = .ok (.fr (ln' row))) ∧ (ordR ns (ns.length + 1) [] = none → C.g__law_first_2 [prD (wiresI ns), .int ns.length] = .ok (.fr .non)) := by
  have hle := h.le
  obtain ⟨g1, g2⟩ := first_go h hm (ns.length + 1) [] topo_nil (by simp)
  have rg := rgB_of (n := ns.length) (by omega)
  have el : leftN ns.length [] = List.range ns.length := by
    unfold leftN
    refine List.filter_eq_self.mpr fun k _ => ?_
    simp
  have er : ln' (leftN ns.length []) = .lst (rgD 0 ns.length) := by rw [el, rgD_nat]
  rw [er] at g1 g2
  have nlr : nls (rgD 0 ns.length) = true := nls_rg
  refine ⟨fun row hr => ?_, fun hr => ?_⟩
  · have w := sWhile_of (g1 row hr)
    have w : sWhile (cBl (cOp neD (cOwn 3) (cLst (cNil)))) C.b__law_first_2_1 [4] [some (prD (wiresI ns)), some (.int ns.length), some (.lst []), some (.lst (rgD 0 ns.length)), none, none, none] = _ := w
    have e1 : ln' row = .lst (row.map fun k : Nat => D.int (k : Nat)) := rfl
    rw [e1] at w ⊢
    have nl : nls (row.map fun k : Nat => D.int (k : Nat)) = true := nls_map fun _ _ => rfl
    simp only [C.g__law_first_2, C.m__law_first_2]
    generalize (row.map fun k : Nat => D.int (k : Nat)) = RD at *
    generalize ln' (leftN ns.length row) = LD at *
    generalize prD (wiresI ns) = PD at *
    generalize C.b__law_first_2_1 = B at *
    simp [e_fnP, rg, w, shAt, chkO_ws, nlr, nl, szOk_of]
  · obtain ⟨ρ', e⟩ := g2 hr
    have w := sWhile_of e
    have w : sWhile (cBl (cOp neD (cOwn 3) (cLst (cNil)))) C.b__law_first_2_1 [4] [some (prD (wiresI ns)), some (.int ns.length), some (.lst []), some (.lst (rgD 0 ns.length)), none, none, none] = _ := w
    simp only [C.g__law_first_2, C.m__law_first_2]
    generalize prD (wiresI ns) = PD at *
    generalize C.b__law_first_2_1 = B at *
    simp [e_fnP, rg, w, shAt, chkO_ws, nlr, szOk_of]
theorem first_rings {c : Nat} {r : List Int} {rs : List (List Int)} (h1 : 1 ≤ c) (e : withR (wiresI ns) ns.length c = r :: rs) (mn : ∀ d, 1 ≤ d → d < c → withR (wiresI ns) ns.length d = []) : sortL (ringsL (wiresI ns) ns.length c) = r :: rs ∧ ∀ a, 1 ≤ a → a < c → sortL (ringsL (wiresI ns) ns.length a) = [] := by
  have mem : ∀ a, 1 ≤ a → ∀ x, x ∈ ringsL (wiresI ns) ns.length a → ∃ n, n + 1 ≤ a ∧ x ∈ withR (wiresI ns) ns.length (n + 1) := fun a ha x hx => by
    obtain ⟨m1, m2⟩ := (ringsL_iff ha).mp hx
    obtain ⟨n, _, hq⟩ := List.mem_flatMap.mp m1
    have l := (rows_mem.mp (List.mem_filter.mp hq).1).1
    exact ⟨n, by omega, hq⟩
  refine ⟨?_, fun a ha hac => ?_⟩
  · rw [← e]
    have rgn : (rgI ns.length).Nodup := by
      unfold rgI
      exact List.Pairwise.map _ (fun a b h z => h (by omega)) List.nodup_range
    have nd : (withR (wiresI ns) ns.length c).Nodup := (rows_nd rgn).filter _
    have p : (withR (wiresI ns) ns.length c).Perm (ringsL (wiresI ns) ns.length c) := (List.perm_ext_iff_of_nodup nd ringsL_nd).mpr fun x => by
      constructor
      · intro hx
        obtain ⟨g1, g2, g3⟩ := rows_mem.mp (List.mem_filter.mp hx).1
        have l := nodup_len g2 g3
        rw [rgI_len] at l
        refine (ringsL_iff h1).mpr ⟨List.mem_flatMap.mpr ⟨c - 1, List.mem_range.mpr (by omega), ?_⟩, by omega⟩
        rw [show c - 1 + 1 = c by omega]
        exact hx
      · intro hx
        obtain ⟨n, hn, hq⟩ := mem c h1 x hx
        by_cases q : n + 1 = c
        · rw [← q]; exact hq
        · rw [mn (n + 1) (by omega) (by omega)] at hq
          cases hq
    have pw : (withR (wiresI ns) ns.length c).Pairwise fun a b => ltL b a = false := (List.Pairwise.sublist List.filter_sublist (rows_pw rg_rise)).imp fun q => ltL_asym q
    exact (sortL_of p pw).symm
  · have : ringsL (wiresI ns) ns.length a = [] := List.eq_nil_iff_forall_not_mem.mpr fun x hx => by
      obtain ⟨n, hn, hq⟩ := mem a ha x hx
      rw [mn (n + 1) (by omega) (by omega)] at hq
      cases hq
    rw [this]
    exact (sortL_of (List.Perm.refl _) List.Pairwise.nil).symm
theorem short_go (h8 : ns.length ≤ 8) {c : Nat} {r : List Int} {rs : List (List Int)} (hc8 : c ≤ 8) (e : sortL (ringsL (wiresI ns) ns.length c) = r :: rs) (mn : ∀ a, 1 ≤ a → a < c → sortL (ringsL (wiresI ns) ns.length a) = []) : ∀ (n a : Nat), 1 ≤ a → a ≤ c → c - a < n →
    whileN (cBl (cOp eqD (cCallF C.g__law_rings (cCons (cVar 0) (cCons (cVar 1) (cCons (cVar 2) (cNil))))) (cLst (cNil)))) C.b__law_short_1 [] n [some (prD (wiresI ns)), some (.int ns.length), some (.int a)] = .ok (.nx, [some (prD (wiresI ns)), some (.int ns.length), some (.int c)])
  | 0, a, _, _, hn => by omega
  | n + 1, a, h1, h2, hn => by
    have ro := rings8_ok (ws := wiresI ns) (m := ns.length) (lg := a) h8 h1 (by omega)
    have eq := eq_nilLT (S := sortL (ringsL (wiresI ns) ns.length a))
    have t : cBl (cOp eqD (cCallF C.g__law_rings (cCons (cVar 0) (cCons (cVar 1) (cCons (cVar 2) (cNil))))) (cLst (cNil))) [some (prD (wiresI ns)), some (.int ns.length), some (.int a)] = .ok ((sortL (ringsL (wiresI ns) ns.length a)).isEmpty, [some (prD (wiresI ns)), some (.int ns.length), some (.int a)]) := by
      generalize lti (sortL (ringsL (wiresI ns) ns.length a)) = LD at *
      generalize prD (wiresI ns) = PD at *
      simp [ro, eq, szOk_of]
    by_cases q : a = c
    · subst q
      rw [e] at t
      exact whileN_stop t
    · rw [mn a h1 (by omega)] at t
      have ih := short_go h8 hc8 e mn n (a + 1) (by omega) (by omega) (by omega)
      have bd : C.b__law_short_1 [some (prD (wiresI ns)), some (.int ns.length), some (.int a)] = .ok (.nx, [some (prD (wiresI ns)), some (.int ns.length), some (.int ((a + 1 : Nat) : Int))]) := by
        simp only [C.b__law_short_1]
        generalize prD (wiresI ns) = PD at *
        simp
      rw [whileN_step t bd]
      exact ih
theorem law_short_ok (h8 : ns.length ≤ 8) {r : List Int} (f : FirstR ns r) : C.g__law_short [prD (wiresI ns), .int ns.length] = .ok (.vl (ti r)) := by
  obtain ⟨c, rs, c1, c8, e, mn⟩ := f
  obtain ⟨e2, mn2⟩ := first_rings c1 e mn
  have w := sWhile_of (short_go h8 c8 e2 mn2 (c + 1) 1 (by omega) c1 (by omega))
  have ro := rings8_ok (ws := wiresI ns) (m := ns.length) (lg := c) h8 c1 (by omega)
  rw [e2] at ro
  have i0 : ixD (lti (r :: rs)) (.int 0) = .ok (ti r) := by
    show (match atI ((r :: rs).map ti) 0 with | some d => Y.R.ok d | none => Y.R.stk) = _
    rw [show atI ((r :: rs).map ti) 0 = some (ti r) from atI_of (j := 0) rfl rfl]
  have w : sWhile (cBl (cOp eqD (cCallF C.g__law_rings (cCons (cVar 0) (cCons (cVar 1) (cCons (cVar 2) (cNil))))) (cLst (cNil)))) C.b__law_short_1 [] [some (prD (wiresI ns)), some (.int ns.length), some (.int 1)] = _ := w
  simp only [C.g__law_short, C.m__law_short]
  generalize lti (r :: rs) = LD at *
  generalize ti r = T at *
  generalize prD (wiresI ns) = PD at *
  generalize C.b__law_short_1 = B at *
  simp [e_fnP, w, ro, i0]
end
end H

set_option Elab.async false
set_option linter.all false
set_option maxRecDepth 100000
set_option maxHeartbeats 4000000
namespace H
open PySem PySem.Spec PyProof.Rows L2 Y
section
variable {ns : List RuleT} {most : Nat}
theorem topo_onw (h : NetOk ns most) (w : WOk ns.length (wiresI ns)) {row : List Nat} (t : Topo ns row) (hl : ns.length ≤ row.length) : ordB (wiresI ns) ns.length (ln' row) = true := by
  have rle : row.length ≤ ns.length := by
    have := nodup_len (A := row) (B := List.range ns.length) t.nd fun x hx => List.mem_range.mpr (t.lt x hx)
    rw [List.length_range] at this
    exact this
  have e : ln' row = .lst ((row.map fun k : Nat => (k : Int)).map D.int) := by rw [List.map_map]; rfl
  have eb : ordB (wiresI ns) ns.length (.lst ((row.map fun k : Nat => (k : Int)).map D.int)) = (match intsOf ((row.map fun k : Nat => (k : Int)).map D.int) with | some is => ordI (wiresI ns) ns.length is | none => false) := rfl
  rw [e, eb, Y.ints_map]
  show ordI (wiresI ns) ns.length _ = true
  have hli : (row.map fun k : Nat => (k : Int)).length = ns.length := by rw [List.length_map]; omega
  have hin : (insB ns.length (row.map fun k : Nat => (k : Int)) && decide (row.map fun k : Nat => (k : Int)).Nodup) = true := by
    rw [Bool.and_eq_true, decide_eq_true_eq]
    constructor
    · unfold insB
      rw [List.all_eq_true]
      intro x hx
      obtain ⟨j, hj, rfl⟩ := List.mem_map.mp hx
      have := t.lt j hj
      exact decide_eq_true ⟨by omega, by omega⟩
    · exact List.pairwise_map.mpr (t.nd.imp fun q z => q (by exact_mod_cast z))
  have all := row_all hli hin
  unfold ordI
  rw [decide_eq_true hli, hin, Bool.true_and, Bool.true_and]
  unfold onwB
  rw [List.all_eq_true]
  intro p hp
  have pok : PrOk ns.length (prI (wiresI ns)) := pr_ok (w3_of w) ⟨by simp, by simp⟩
  obtain ⟨j, k, hj, hk, rfl⟩ := pok.2 p hp
  show decide ((row.map fun k : Nat => (k : Int)).idxOf (j : Int) < (row.map fun k : Nat => (k : Int)).idxOf (k : Int)) = true
  have mk := all k hk
  have il := List.idxOf_lt_length_iff.mpr mk
  have gi : (row.map fun k : Nat => (k : Int))[(row.map fun k : Nat => (k : Int)).idxOf (k : Int)] = (k : Int) := List.getElem_idxOf il
  generalize hI : (row.map fun k : Nat => (k : Int)).idxOf (k : Int) = i at *
  have il2 : i < row.length := by rw [List.length_map] at il; exact il
  rw [List.getElem_map] at gi
  have gi2 : row[i] = k := by exact_mod_cast gi
  have pr := t.pre i il2 j hj (by rw [gi2]; exact decide_eq_true hp)
  rw [decide_eq_true_eq]
  have ms : (j : Int) ∈ (row.take i).map fun k : Nat => (k : Int) := List.mem_map.mpr ⟨j, pr, rfl⟩
  have el : (row.map fun k : Nat => (k : Int)) = ((row.take i).map fun k : Nat => (k : Int)) ++ ((row.drop i).map fun k : Nat => (k : Int)) := by
    rw [← List.map_append, List.take_append_drop]
  rw [el, List.idxOf_append, if_pos ms]
  have := List.idxOf_lt_length_iff.mpr ms
  rw [List.length_map, List.length_take] at this
  omega
theorem fit_ordD {row : List Nat} : Fit 2 (ordD row) := fun d hd => by
  simp only [List.mem_cons, List.not_mem_nil, or_false] at hd
  rcases hd with rfl | rfl
  · show PyData.strOk _ = true
    decide +kernel
  · exact fit_ln
theorem fit_rngD {r : List Int} : Fit 2 (rngD r) := fun d hd => by
  simp only [List.mem_cons, List.not_mem_nil, or_false] at hd
  rcases hd with rfl | rfl
  · show PyData.strOk _ = true
    decide +kernel
  · exact fun d hd => by
      obtain ⟨_, _, rfl⟩ := List.mem_map.mp hd
      trivial
theorem good3_ord (h : NetOk ns most) (hm : most ≤ 20) (w : WOk ns.length (wiresI ns)) {row : List Nat} (e : ordR ns (ns.length + 1) [] = some row) (t : Topo ns row) (hl : ns.length ≤ row.length) : C.g__law_good_3 [ordD row, prD (wiresI ns), .int ns.length] = .ok (.fr (.bl true)) := by
  have f := (first_ok h hm).1 row e
  have rle : row.length ≤ ns.length := by
    have := nodup_len (A := row) (B := List.range ns.length) t.nd fun x hx => List.mem_range.mpr (t.lt x hx)
    rw [List.length_range] at this
    exact this
  have hle := h.le
  have on := law_onward_ok (d := ln' row) h hm ⟨rfl, fun ys hy => by
    have hy : row.map (fun k : Nat => D.int (k : Nat)) = ys := D.lst.inj hy
    subst hy
    refine ⟨by rw [List.length_map]; omega, fun y hy => ?_⟩
    obtain ⟨_, _, rfl⟩ := List.mem_map.mp hy
    rfl, fun n z => by cases z⟩
  rw [topo_onw h w t hl] at on
  have eq : eqD (ordD row) (ordD row) = .ok (.bl true) := eqD_refl (n := 2) fit_ordD
  have n2 : neD (.int 2) (.int 2) = .ok (.bl false) := neD_refl (n := 0) trivial
  have a1 : atI [D.str (Str.ofString "order"), ln' row] 1 = some (ln' row) := atI_of (j := 1) rfl rfl
  have nl : D.nl (ln' row) = true ∨ True := .inr trivial
  unfold ordD at eq ⊢
  simp only [C.g__law_good_3, C.m__law_good_3]
  generalize C.e__law_good_3_1 = E1 at *
  have er : ln' row = .lst (row.map fun k : Nat => D.int (k : Nat)) := rfl
  rw [er] at f on eq a1 ⊢
  generalize (row.map fun k : Nat => D.int (k : Nat)) = RD at *
  generalize prD (wiresI ns) = PD at *
  have ii : isD (.lst RD) .non = .ok (.bl false) := rfl
  simp [e_fnP, noDit, Y.isTup, f, on, eq, n2, a1, ii, ixD, szOk_of, Y.isNon]
theorem good3_rng (h : NetOk ns most) (hm : most ≤ 20) (h8 : ns.length ≤ 8) (e : ordR ns (ns.length + 1) [] = none) {r : List Int} (fr : FirstR ns r) : C.g__law_good_3 [rngD r, prD (wiresI ns), .int ns.length] = .ok (.fr (.bl true)) := by
  have f := (first_ok h hm).2 e
  have sh := law_short_ok h8 fr
  have rl : r.length ≤ 8 := by
    obtain ⟨c, rs, c1, c8, ew, _⟩ := fr
    have := (rows_mem.mp (List.mem_filter.mp (show r ∈ withR (wiresI ns) ns.length c by rw [ew]; simp)).1).1
    omega
  have eq : eqD (rngD r) (rngD r) = .ok (.bl true) := eqD_refl (n := 2) fit_rngD
  have n2 : neD (.int 2) (.int 2) = .ok (.bl false) := neD_refl (n := 0) trivial
  have a1 : atI [D.str (Str.ofString "ring"), ti r] 1 = some (ti r) := atI_of (j := 1) rfl rfl
  have c := comp_map (tm := tmName 5) (t := cYes) (e := C.e__law_good_3_1) (vs := [5]) (ws := []) (ρ := [some (rngD r), some (prD (wiresI ns)), some (.int ns.length), some .non, some (ti r), none]) D.int (fun _ => D.bl true) r fun x _ => by
    have u : C.g__law_whole_2 [.int x] = .ok (.fr (.bl true)) := law_whole2_any (d := .int x) rfl
    simp only [turnC, C.e__law_good_3_1]
    generalize prD (wiresI ns) = PD at *
    generalize rngD r = RR at *
    generalize ti r = TR at *
    simp [u]
  have zr : szOk (r.map D.int).length = true := szOk_of (by rw [List.length_map]; omega)
  have e2 : (r.map fun _ => D.bl true) = (r.map fun _ => true).map D.bl := by rw [List.map_map]; rfl
  have e3 : allD [.lst (r.map fun _ => D.bl true)] = .ok (.bl true) := by
    rw [e2, d_all]
    refine congrArg (fun q => Y.R.ok (D.bl q)) ?_
    rw [List.all_map, List.all_eq_true]
    intros; rfl
  have zq : szOk (r.map fun _ => D.bl true).length = true := szOk_of (by rw [List.length_map]; omega)
  unfold rngD at eq c ⊢
  simp only [C.g__law_good_3, C.m__law_good_3]
  generalize C.e__law_good_3_1 = E1 at *
  generalize (r.map fun _ => D.bl true) = QD at *
  have zr2 : szOk r.length = true := szOk_of (by omega)
  generalize prD (wiresI ns) = PD at *
  have ii : isD .non .non = .ok (.bl true) := rfl
  simp [e_fnP, noDit, Y.isTup, f, sh, c, e3, zr, zr2, zq, eq, n2, a1, ii, ixD, szOk_of, Y.isNon, -d_all]
end
end H

set_option Elab.async false
set_option linter.all false
set_option maxRecDepth 100000
set_option maxHeartbeats 4000000
namespace H
open PySem PySem.Spec PyProof.Rows L2 Y
theorem cut_loX {ds : List D} {k : Nat} : Y.cutD ds none (some (k : Int)) = ds.take k := by
  unfold Y.cutD
  rw [HT.sIx_none, HT.sIx_nat]
  simp
theorem cut_upX {ds : List D} {k : Nat} (hk : k ≤ ds.length) : Y.cutD ds (some (k : Int)) none = ds.drop k := by
  unfold Y.cutD
  rw [HT.sIx_none, HT.sIx_nat, Nat.min_eq_left hk, List.take_of_length_le (by simp)]
section
variable {ns : List RuleT} {most : Nat}
theorem one_more_ok {n : Int} (h : NetOk ns most) (hm : most ≤ 20) : ∃ (hd : Hd) (ns' : List RuleT) (n' : Int), C.g__law_one_more [.lst [.int n], dNet ns] = .ok (hd, [some (.lst [.int n']), none]) ∧ (hd = .fr (dNet ns') ∨ hd = .vl (dNet ns')) ∧ NetOk ns' most := by
  have hle := h.le
  have hpos := h.pos
  have ln : lenD [dNet ns] = .ok (.int ns.length) := by rw [d_lenT, List.length_map]
  have t1 := take2_ok (n := n) (m := ns.length) (by omega) (by omega)
  have t3 := take2_ok (n := n / (ns.length : Int)) (m := 3) (by omega) (by omega)
  have t5 := take2_ok (n := n / (ns.length : Int) / 3) (m := ns.length) (by omega) (by omega)
  obtain ⟨k, hk, ek⟩ : ∃ k : Nat, k < ns.length ∧ n % (ns.length : Int) = k := ⟨(n % (ns.length : Int)).toNat, by
    have a := Int.emod_nonneg n (show (ns.length : Int) ≠ 0 by omega)
    have b := Int.emod_lt_of_pos n (show (0 : Int) < ns.length by omega)
    omega, by
    have a := Int.emod_nonneg n (show (ns.length : Int) ≠ 0 by omega)
    omega⟩
  obtain ⟨j, hj, ej⟩ : ∃ j : Nat, j < ns.length ∧ (n / (ns.length : Int) / 3) % (ns.length : Int) = j := ⟨((n / (ns.length : Int) / 3) % (ns.length : Int)).toNat, by
    have a := Int.emod_nonneg (n / (ns.length : Int) / 3) (show (ns.length : Int) ≠ 0 by omega)
    have b := Int.emod_lt_of_pos (n / (ns.length : Int) / 3) (show (0 : Int) < ns.length by omega)
    omega, by
    have a := Int.emod_nonneg (n / (ns.length : Int) / 3) (show (ns.length : Int) ≠ 0 by omega)
    omega⟩
  rw [ek] at t1
  rw [ej] at t5
  have n3 : neD (.int (n / (ns.length : Int) % 3)) (.int 1) = .ok (.bl (!decide (n / (ns.length : Int) % 3 = 1))) := neD_int
  generalize n / (ns.length : Int) / 3 / (ns.length : Int) = n5 at *
  by_cases c : n / (ns.length : Int) % 3 = 1
  · rw [decide_eq_true c] at n3
    generalize n / (ns.length : Int) / 3 = n4 at *
    generalize n / (ns.length : Int) % 3 = u3 at *
    generalize n / (ns.length : Int) = n2 at *
    refine ⟨.fr (dNet (ns.take k ++ ([((j : Nat) : Int)], [0, 1]) :: ns.drop (k + 1))), _, n5, ?_, .inl rfl, ?_⟩
    · have s1 : sliceD (dNet ns) none (some (k : Int)) = .ok (.tup ((ns.take k).map dRule)) := by
        show Y.R.ok (D.tup (Y.cutD _ _ _)) = _
        rw [cut_loX, List.map_take]
      have s2 : sliceD (dNet ns) (some ((k : Int) + 1)) none = .ok (.tup ((ns.drop (k + 1)).map dRule)) := by
        show Y.R.ok (D.tup (Y.cutD _ _ _)) = _
        rw [show (k : Int) + 1 = ((k + 1 : Nat) : Int) by omega, cut_upX (by rw [List.length_map]; omega), List.map_drop]
      have eN : dNet (ns.take k ++ ([((j : Nat) : Int)], [0, 1]) :: ns.drop (k + 1)) = .tup ((ns.take k).map dRule ++ (.tup [.tup [.int (j : Nat)], .tup [.int 0, .int 1]] :: (ns.drop (k + 1)).map dRule)) := by
        show D.tup (List.map dRule _) = _
        rw [List.map_append]
        rfl
      rw [eN]
      have l1 : ((ns.take k).map dRule).length ≤ 20 := by rw [List.length_map, List.length_take]; omega
      have l2 : ((ns.drop (k + 1)).map dRule).length ≤ 20 := by rw [List.length_map, List.length_drop]; omega
      have z1 : szOk (((ns.take k).map dRule).length + 1) = true := szOk_of (by omega)
      have z2 : szOk (((ns.take k).map dRule).length + 1 + ((ns.drop (k + 1)).map dRule).length) = true := szOk_of (by omega)
      have z3 : szOk (((ns.take k).map dRule).length + (((ns.drop (k + 1)).map dRule).length + 1)) = true := szOk_of (by omega)
      have z0 : szOk ((ns.take k).map dRule).length = true := szOk_of (by omega)
      have zd : szOk ((ns.drop (k + 1)).map dRule).length = true := szOk_of (by omega)
      simp only [C.g__law_one_more, C.m__law_one_more]
      generalize (ns.take k).map dRule = TA at *
      generalize (ns.drop (k + 1)).map dRule = TB at *
      generalize dNet ns = N at *
      simp [e_fnD, ln, t1, t3, t5, n3, s1, s2, z0, z1, z2, z3, zd, szOk_of, shAt, knownB, -neD_int, -d_lenT]
    · refine ⟨by rw [List.length_append, List.length_cons]; omega, ?_, ?_⟩
      · rw [List.length_append, List.length_cons, List.length_take, List.length_drop]; omega
      · have el : (ns.take k ++ ([((j : Nat) : Int)], [0, 1]) :: ns.drop (k + 1)).length = ns.length := by
          rw [List.length_append, List.length_cons, List.length_take, List.length_drop]; omega
        rw [el]
        intro r hr
        rcases List.mem_append.mp hr with hr | hr
        · exact h.rule r (List.mem_of_mem_take hr)
        · rcases List.mem_cons.mp hr with rfl | hr
          · exact ⟨by simp, ⟨[j], rfl, List.singleton_sublist.mpr (List.mem_range.mpr hj)⟩, rfl, fun x hx => by
              simp only [List.mem_cons, List.not_mem_nil, or_false] at hx
              omega⟩
          · exact h.rule r (List.mem_of_mem_drop hr)
  · rw [decide_eq_false c] at n3
    generalize n / (ns.length : Int) / 3 = n4 at *
    generalize n / (ns.length : Int) % 3 = u3 at *
    generalize n / (ns.length : Int) = n2 at *
    refine ⟨.vl (dNet ns), ns, n4, ?_, .inr rfl, h⟩
    simp only [C.g__law_one_more, C.m__law_one_more]
    generalize dNet ns = N at *
    simp [e_fnD, ln, t1, t3, n3, szOk_of, shAt, knownB, -neD_int, -d_lenT]
end
end H

set_option Elab.async false
set_option linter.all false
set_option maxRecDepth 100000
set_option maxHeartbeats 4000000
namespace H
open PySem PySem.Spec PyProof.Rows L2 Y
theorem tr_ordD {row : List Nat} (h : row.length ≤ 100) : trP (Str.ofString "order") (ordD row) = true := by
  have sz : sizeLine = 16777216 := by decide
  have d1 : dOk (.str (Str.ofString "order")) = true := dOk_fit (n := 1) (by show PyData.strOk _ = true; decide +kernel)
  show (decide (Str.ofString "order" = Str.ofString "order") && (dOk (.str (Str.ofString "order")) && decide ((row.map fun k : Nat => D.int (k : Nat)).length + 4 < sizeLine))) = true
  rw [d1, List.length_map, sz]
  simp
  omega
theorem tr_rngD {r : List Int} : trP (Str.ofString "order") (rngD r) = true := by
  have d1 : dOk (.str (Str.ofString "ring")) = true := dOk_fit (n := 1) (by show PyData.strOk _ = true; decide +kernel)
  show (!decide (Str.ofString "ring" = Str.ofString "order") && dOk (.str (Str.ofString "ring"))) = true
  rw [d1]
  decide +kernel
theorem good_k24 : Good C.g_law_k24 63 := fun ns hl hb => by
  obtain ⟨M, hM⟩ : ∃ M : Nat, max (1 : Int) (min (ns.length : Int) 3) = M := ⟨(max (1 : Int) (min (ns.length : Int) 3)).toNat, by omega⟩
  have hM4 : M ≤ 3 := by omega
  obtain ⟨ρ', h, hρ⟩ := for_inv (tm := tmName 1) (body := C.b_law_k24_1) (vs := [1, 2, 3, 4, 5]) (ws := []) (fun k : Nat => D.int (k : Nat)) (fun ρ => ρ = [some (.arg ns), none, none, none, none, none]) (List.range M) _ rfl fun ρ k hρ hk => by
    subst hρ
    have hk := List.mem_range.mp hk
    obtain ⟨b, hbox⟩ := box2_ok (ns := ns) (k := k) (by omega)
    have t6 := take2_ok (n := b) (m := 6) (by omega) (by omega)
    obtain ⟨most, mh, am⟩ : ∃ most : Nat, (most = 6 ∨ most = 8) ∧ atI [D.int 6, D.int 8] (if decide (b % 6 = 1) = true then 1 else 0) = some (.int most) := by
      by_cases c : b % 6 = 1
      · rw [decide_eq_true c]; exact ⟨8, .inr rfl, atI_of (j := 1) rfl rfl⟩
      · rw [decide_eq_false c]; exact ⟨6, .inl rfl, atI_of (j := 0) rfl rfl⟩
    have io : ∀ q : Bool, intOfD [.bl q] = .ok (.int (if q = true then 1 else 0)) := fun q => by cases q <;> rfl
    have e6 : eqD (.int (b % 6)) (.int 1) = .ok (.bl (decide (b % 6 = 1))) := eqD_int
    generalize decide (b % 6 = 1) = q6 at *
    generalize b / 6 = b2 at *
    generalize b % 6 = r6 at *
    obtain ⟨net0, n1, hnet, ok0⟩ := drawn2_ok (n := b2) (most := most) (by omega) (by omega)
    obtain ⟨hd, net, n2, hom, hh, ok⟩ := one_more_ok (n := n1) ok0 (by omega)
    have hle := ok.le
    have hpos := ok.pos
    have h8 : net.length ≤ 8 := by omega
    obtain ⟨_, pr, wk⟩ := pairs_ok ok (by omega)
    have ln : lenD [dNet net] = .ok (.int net.length) := by rw [d_lenT, List.length_map]
    have nlN : nls [dNet net] = true := by rw [nls1, nl_net, nls0]; rfl
    obtain ⟨F, op, gd, tr⟩ : ∃ F, C.g_order_paper [dNet net] = .ok (.fr F) ∧ C.g__law_good_3 [F, prD (wiresI net), .int net.length] = .ok (.fr (.bl true)) ∧ trP (Str.ofString "order") F = true := by
      rcases order_paper9_ok ok (by omega) h8 wk with ⟨row, e, t, hl, op⟩ | ⟨e, r, fr, op⟩
      · have rle : row.length ≤ net.length := by
          have := nodup_len (A := row) (B := List.range net.length) t.nd fun x hx => List.mem_range.mpr (t.lt x hx)
          rw [List.length_range] at this
          exact this
        exact ⟨_, op, good3_ord ok (by omega) wk e t hl, tr_ordD (by omega)⟩
      · exact ⟨_, op, good3_rng ok (by omega) h8 e fr, tr_rngD⟩
    have zn : szOk net.length = true := szOk_of (by omega)
    refine ⟨_, ?_, rfl, by simp⟩
    simp only [turnF, C.b_law_k24_1]
    generalize prD (wiresI net) = PD at *
    generalize dNet net = N at *
    generalize dNet net0 = N0 at *
    rcases hh with rfl | rfl <;> simp [hbox, t6, e6, io, am, hnet, hom, pr, ln, nlN, op, gd, tr, zn, shAt, knownB, szOk_of, -d_lenT]
  subst hρ
  have rM : rngOk M = true := rngOk_of (by omega) (by omega)
  have zM : szOk M = true := szOk_of (by omega)
  refine ⟨.fr (.bl true), ?_, .inl rfl⟩
  simp only [C.g_law_k24, C.m_law_k24]
  simp [e_fnP, hM, rM, zM, h]
end H

set_option Elab.async false
set_option linter.all false
set_option maxRecDepth 100000
namespace K24
open PySem PySem.Spec PyProof.Rows L2 Y
def top (i : Nat) : Stmt := PySem.Challenge.pw_switchnets_k24_order_papers_told.main.body.getD i (.Pass ⟨0, 0, 0, 0⟩)
abbrev s_stands_of : Stmt := top 1
theorem sc_stands_of : FnScope ["many", "found", "k", "stand"] ["many"] (defScope s_stands_of) := ⟨rfl, rfl, rfl, by decide +kernel, rfl, by decide +kernel, by decide +kernel⟩
abbrev s_place_of : Stmt := top 2
theorem sc_place_of : FnScope ["bits", "place", "bit"] ["bits"] (defScope s_place_of) := ⟨rfl, rfl, rfl, by decide +kernel, rfl, by decide +kernel, by decide +kernel⟩
abbrev s_with_bit : Stmt := top 3
theorem sc_with_bit : FnScope ["stand", "k", "bit"] ["stand", "k", "bit"] (defScope s_with_bit) := ⟨rfl, rfl, rfl, by decide +kernel, rfl, by decide +kernel, by decide +kernel⟩
abbrev s_in_rows : Stmt := top 5
theorem sc_in_rows : FnScope ["things", "many", "found", "thing", "others", "other", "rest"] ["things", "many"] (defScope s_in_rows) := ⟨rfl, rfl, rfl, by decide +kernel, rfl, by decide +kernel, by decide +kernel⟩
abbrev s_told_at : Stmt := top 7
theorem sc_told_at : FnScope ["rule", "reading"] ["rule", "reading"] (defScope s_told_at) := ⟨rfl, rfl, rfl, by decide +kernel, rfl, by decide +kernel, by decide +kernel⟩
abbrev s_signs_at : Stmt := top 9
theorem sc_signs_at : FnScope ["rule", "at", "found", "reading", "low", "high"] ["rule", "at"] (defScope s_signs_at) := ⟨rfl, rfl, rfl, by decide +kernel, rfl, by decide +kernel, by decide +kernel⟩
abbrev s_wires_of : Stmt := top 10
theorem sc_wires_of : FnScope ["net", "found", "switch", "rule", "at", "ear", "sign"] ["net"] (defScope s_wires_of) := ⟨rfl, rfl, rfl, by decide +kernel, rfl, by decide +kernel, by decide +kernel⟩
abbrev s_signs_between : Stmt := top 11
theorem sc_signs_between : FnScope ["net", "found", "one", "other", "sign"] ["net"] (defScope s_signs_between) := ⟨rfl, rfl, rfl, by decide +kernel, rfl, by decide +kernel, by decide +kernel⟩
abbrev s_steps_round : Stmt := top 13
theorem sc_steps_round : FnScope ["ring"] ["ring"] (defScope s_steps_round) := ⟨rfl, rfl, rfl, by decide +kernel, rfl, by decide +kernel, by decide +kernel⟩
abbrev s_is_round : Stmt := top 14
theorem sc_is_round : FnScope ["pairs", "ring", "step"] ["pairs", "ring"] (defScope s_is_round) := ⟨rfl, rfl, rfl, by decide +kernel, rfl, by decide +kernel, by decide +kernel⟩
abbrev s_rings_with : Stmt := top 15
theorem sc_rings_with : FnScope ["net", "many", "pairs", "ring"] ["net", "many"] (defScope s_rings_with) := ⟨rfl, rfl, rfl, by decide +kernel, rfl, by decide +kernel, by decide +kernel⟩
abbrev s_next_free : Stmt := top 16
theorem sc_next_free : FnScope ["net", "row", "pairs", "left", "switch", "other"] ["net", "row"] (defScope s_next_free) := ⟨rfl, rfl, rfl, by decide +kernel, rfl, by decide +kernel, by decide +kernel⟩
abbrev s_order_paper : Stmt := top 17
theorem sc_order_paper : FnScope ["net", "row", "switch", "many"] ["net"] (defScope s_order_paper) := ⟨rfl, rfl, rfl, by decide +kernel, rfl, by decide +kernel, by decide +kernel⟩
abbrev s__law_cell : Stmt := top 19
theorem sc__law_cell : FnScope ["script", "k"] ["script", "k"] (defScope s__law_cell) := ⟨rfl, rfl, rfl, by decide +kernel, rfl, by decide +kernel, by decide +kernel⟩
abbrev s__law_box : Stmt := top 20
theorem sc__law_box : FnScope ["script", "k", "cell", "number", "mixed", "j"] ["script", "k"] (defScope s__law_box) := ⟨rfl, rfl, rfl, by decide +kernel, rfl, by decide +kernel, by decide +kernel⟩
abbrev s__law_take : Stmt := top 21
theorem sc__law_take : FnScope ["box", "many", "digit"] ["box", "many"] (defScope s__law_take) := ⟨rfl, rfl, rfl, by decide +kernel, rfl, by decide +kernel, by decide +kernel⟩
abbrev s__law_readings : Stmt := top 22
theorem sc__law_readings : FnScope ["many", "found", "k", "row"] ["many"] (defScope s__law_readings) := ⟨rfl, rfl, rfl, by decide +kernel, rfl, by decide +kernel, by decide +kernel⟩
abbrev s__law_rule : Stmt := top 23
theorem sc__law_rule : FnScope ["box", "many", "left", "ears", "k", "rows", "way", "signs", "least", "table", "ear", "row"] ["box", "many"] (defScope s__law_rule) := ⟨rfl, rfl, rfl, by decide +kernel, rfl, by decide +kernel, by decide +kernel⟩
abbrev s__law_drawn : Stmt := top 24
theorem sc__law_drawn : FnScope ["box", "most", "many", "way", "rules", "k", "ears", "table", "ear"] ["box", "most"] (defScope s__law_drawn) := ⟨rfl, rfl, rfl, by decide +kernel, rfl, by decide +kernel, by decide +kernel⟩
abbrev s__law_told : Stmt := top 25
theorem sc__law_told : FnScope ["net", "stand", "k", "ears", "table", "place", "ear"] ["net", "stand", "k"] (defScope s__law_told) := ⟨rfl, rfl, rfl, by decide +kernel, rfl, by decide +kernel, by decide +kernel⟩
abbrev s__law_whole : Stmt := top 26
theorem sc__law_whole : FnScope ["thing"] ["thing"] (defScope s__law_whole) := ⟨rfl, rfl, rfl, by decide +kernel, rfl, by decide +kernel, by decide +kernel⟩
abbrev s__law_wires : Stmt := top 27
theorem sc__law_wires : FnScope ["net", "found", "stand", "j", "other", "k", "change"] ["net"] (defScope s__law_wires) := ⟨rfl, rfl, rfl, by decide +kernel, rfl, by decide +kernel, by decide +kernel⟩
abbrev s__law_pairs : Stmt := top 28
theorem sc__law_pairs : FnScope ["net", "found", "j", "k", "sign"] ["net"] (defScope s__law_pairs) := ⟨rfl, rfl, rfl, by decide +kernel, rfl, by decide +kernel, by decide +kernel⟩
abbrev s__law_rings : Stmt := top 29
theorem sc__law_rings : FnScope ["pairs", "many", "longest", "found", "first", "ways", "way", "k"] ["pairs", "many", "longest"] (defScope s__law_rings) := ⟨rfl, rfl, rfl, by decide +kernel, rfl, by decide +kernel, by decide +kernel⟩
abbrev s__law_onward : Stmt := top 30
theorem sc__law_onward : FnScope ["pairs", "many", "row", "j", "k", "one"] ["pairs", "many", "row"] (defScope s__law_onward) := ⟨rfl, rfl, rfl, by decide +kernel, rfl, by decide +kernel, by decide +kernel⟩
abbrev s__law_first : Stmt := top 31
theorem sc__law_first : FnScope ["pairs", "many", "row", "left", "free", "k", "j"] ["pairs", "many"] (defScope s__law_first) := ⟨rfl, rfl, rfl, by decide +kernel, rfl, by decide +kernel, by decide +kernel⟩
abbrev s__law_short : Stmt := top 32
theorem sc__law_short : FnScope ["pairs", "many", "longest"] ["pairs", "many"] (defScope s__law_short) := ⟨rfl, rfl, rfl, by decide +kernel, rfl, by decide +kernel, by decide +kernel⟩
abbrev s__law_good : Stmt := top 33
theorem sc__law_good : FnScope ["found", "pairs", "many", "due", "ring", "one"] ["found", "pairs", "many"] (defScope s__law_good) := ⟨rfl, rfl, rfl, by decide +kernel, rfl, by decide +kernel, by decide +kernel⟩
abbrev s__law_one_more : Stmt := top 34
theorem sc__law_one_more : FnScope ["box", "net", "k"] ["box", "net"] (defScope s__law_one_more) := ⟨rfl, rfl, rfl, by decide +kernel, rfl, by decide +kernel, by decide +kernel⟩
abbrev s_law : Stmt := top 35
theorem sc_law : FnScope ["script", "k", "box", "net", "pairs", "found"] ["script"] (defScope s_law) := ⟨rfl, rfl, rfl, by decide +kernel, rfl, by decide +kernel, by decide +kernel⟩
structure Txt (K : PySem.W.Frag) (mg : Str → Option Value) : Prop where
  d_stands_of : Def K mg "stands_of" s_stands_of
  d_place_of : Def K mg "place_of" s_place_of
  d_with_bit : Def K mg "with_bit" s_with_bit
  d_in_rows : Def K mg "in_rows" s_in_rows
  d_told_at : Def K mg "told_at" s_told_at
  d_signs_at : Def K mg "signs_at" s_signs_at
  d_wires_of : Def K mg "wires_of" s_wires_of
  d_signs_between : Def K mg "signs_between" s_signs_between
  d_steps_round : Def K mg "steps_round" s_steps_round
  d_is_round : Def K mg "is_round" s_is_round
  d_rings_with : Def K mg "rings_with" s_rings_with
  d_next_free : Def K mg "next_free" s_next_free
  d_order_paper : Def K mg "order_paper" s_order_paper
  d__law_cell : Def K mg "_law_cell" s__law_cell
  d__law_box : Def K mg "_law_box" s__law_box
  d__law_take : Def K mg "_law_take" s__law_take
  d__law_readings : Def K mg "_law_readings" s__law_readings
  d__law_rule : Def K mg "_law_rule" s__law_rule
  d__law_drawn : Def K mg "_law_drawn" s__law_drawn
  d__law_told : Def K mg "_law_told" s__law_told
  d__law_whole : Def K mg "_law_whole" s__law_whole
  d__law_wires : Def K mg "_law_wires" s__law_wires
  d__law_pairs : Def K mg "_law_pairs" s__law_pairs
  d__law_rings : Def K mg "_law_rings" s__law_rings
  d__law_onward : Def K mg "_law_onward" s__law_onward
  d__law_first : Def K mg "_law_first" s__law_first
  d__law_short : Def K mg "_law_short" s__law_short
  d__law_good : Def K mg "_law_good" s__law_good
  d__law_one_more : Def K mg "_law_one_more" s__law_one_more
  z_all : mg "all" = none
  z_any : mg "any" = none
  z_bool : mg "bool" = none
  z_enumerate : mg "enumerate" = none
  z_int : mg "int" = none
  z_isinstance : mg "isinstance" = none
  z_len : mg "len" = none
  z_list : mg "list" = none
  z_max : mg "max" = none
  z_min : mg "min" = none
  z_range : mg "range" = none
  z_sorted : mg "sorted" = none
  z_tuple : mg "tuple" = none
  z_zip : mg "zip" = none
section
variable {P : Program} {w : World} {K : PySem.W.Frag} {mg : Str → Option Value} {base : Heap}
theorem ok_stands_of (T : Txt K mg) : Glo P w K mg base "stands_of" 1 1 [] (pureF C.g_stands_of) :=
  (glo_mk (O := []) (Oc := []) (W := []) (U := []) T.d_stands_of sc_stands_of (fun f cdv A outer s H E P0 hr => (cs_cons (cs_asg (ce_lst (ca_cons (ce_tup ca_nil) ca_nil)) (cg_name 1 sc_stands_of.nd))
    (cs_cons (cs_for (U' := []) (vs := [2]) (passes_of rfl) rfl (ci_range1 T.z_range (ca_cons (ce_var 0) ca_nil)) (cg_name 2 sc_stands_of.nd) (cs_one (cs_asg (ce_bin od_add (ce_comp rfl sc_stands_of.nd (ci_any (ce_var 1)) (blkOk_by (own := [("stand", 3)]) (by kernel_rfl)) (fun P0 s H C cl fp => (cg_name 3 sc_stands_of.nd)) (fun s H C cl fp => cts_nil) (fun P0 s H C cl fp => (ce_bin od_add (ce_tup (ca_cons ce_int ca_nil)) (ce_var 3)))) (ce_comp rfl sc_stands_of.nd (ci_any (ce_var 1)) (blkOk_by (own := [("stand", 3)]) (by kernel_rfl)) (fun P0 s H C cl fp => (cg_name 3 sc_stands_of.nd)) (fun s H C cl fp => cts_nil) (fun P0 s H C cl fp => (ce_bin od_add (ce_tup (ca_cons ce_int ca_nil)) (ce_var 3))))) (cg_name 1 sc_stands_of.nd))))
    (cs_one (cs_ret (ce_var 1)))))) (fun _ _ _ _ _ _ us hl => match us, hl with | [_], _ => rfl)).pure
theorem ok_place_of (T : Txt K mg) : Glo P w K mg base "place_of" 1 1 [] (pureF C.g_place_of) :=
  (glo_mk (O := []) (Oc := []) (W := []) (U := []) T.d_place_of sc_place_of (fun f cdv A outer s H E P0 hr => (cs_cons (cs_asg ce_int (cg_name 1 sc_place_of.nd))
    (cs_cons (cs_for (U' := []) (vs := [2]) (passes_of rfl) rfl (ci_any (ce_var 0)) (cg_name 2 sc_place_of.nd) (cs_one (cs_asg (ce_bin od_add (ce_bin od_mul ce_int (ce_var 1)) (ce_var 2)) (cg_name 1 sc_place_of.nd))))
    (cs_one (cs_ret (ce_var 1)))))) (fun _ _ _ _ _ _ us hl => match us, hl with | [_], _ => rfl)).pure
theorem ok_with_bit (T : Txt K mg) : Glo P w K mg base "with_bit" 1 3 [] (pureF C.g_with_bit) :=
  (glo_mk (O := []) (Oc := []) (W := []) (U := []) T.d_with_bit sc_with_bit (fun f cdv A outer s H E P0 hr => (cs_one (cs_ret (ce_bin od_add (ce_bin od_add (ce_slice (ce_var 0) co_none (co_some (ce_var 1))) (ce_tup (ca_cons (ce_var 2) ca_nil))) (ce_slice (ce_var 0) (co_some (ce_bin od_add (ce_var 1) ce_int)) co_none))))) (fun _ _ _ _ _ _ us hl => match us, hl with | [_, _, _], _ => rfl)).pure
theorem okr_in_rows (T : Txt K mg) : ∀ n : Nat, Glo P w K mg base "in_rows" (1 + n) 2 [] ((pureF (C.r_in_rows n)))
  | 0 => (glo_mk (k := 0) (O := []) (Oc := [2]) (W := []) (U := []) T.d_in_rows sc_in_rows (fun f cdv A outer s H E P0 hr => cs_stk) (fun _ _ _ _ _ _ us hl => match us, hl with | [_, _], _ => rfl)).pure
  | n + 1 => have IH := okr_in_rows T n; (glo_mk (k := 1 + n) (O := []) (Oc := [2]) (W := []) (U := []) T.d_in_rows sc_in_rows (fun f cdv A outer s H E P0 hr => (cs_cons (cs_if (ct_cmp (od_eq hr.units) (ce_var 1) ce_int) (cs_one (cs_ret (ce_lst (ca_cons (ce_tup ca_nil) ca_nil)))) cs_nil)
    (cs_cons (cs_own (i := 2) sc_in_rows.nd (ce_lst ca_nil))
    (cs_cons (cs_for (U' := []) (vs := [3, 4]) (passes_of rfl) rfl (ci_any (ce_var 0)) (cg_name 3 sc_in_rows.nd) (cs_cons (cs_asgLc (i := 4) rfl sc_in_rows.nd rfl rfl (sw_true rfl rfl rfl (by decide +kernel)) (ci_any (ce_var 0)) (blkOk_by (own := [("other", 5)]) (by kernel_rfl)) (fun P0 s H C cl fp => (cg_name 5 sc_in_rows.nd)) (fun s H C cl fp => (cts_one fun P0 => (ct_cmp (od_ne hr.units) (ce_var 5) (ce_var 3)))) (fun P0 s H C cl fp => (ce_var 5)))
    (cs_one (cs_ext (i := 2) (ce_comp rfl sc_in_rows.nd (ci_any (ce_call IH out2_body hr (ca_cons (ce_var 4) (ca_cons (ce_bin od_sub (ce_var 1) ce_int) ca_nil)) (alen_cons (alen_cons alen_nil)))) (blkOk_by (own := [("rest", 6)]) (by kernel_rfl)) (fun P0 s H C cl fp => (cg_name 6 sc_in_rows.nd)) (fun s H C cl fp => cts_nil) (fun P0 s H C cl fp => (ce_bin od_add (ce_tup (ca_cons (ce_var 3) ca_nil)) (ce_var 6))))))))
    (cs_one (cs_ret (ce_own 2))))))) (fun _ _ _ _ _ _ us hl => match us, hl with | [_, _], _ => rfl)).pure
theorem ok_in_rows (T : Txt K mg) : Glo P w K mg base "in_rows" (41) 2 [] ((pureF C.g_in_rows)) := okr_in_rows T 40
theorem ok_told_at (T : Txt K mg) : Glo P w K mg base "told_at" 2 2 [] (pureF C.g_told_at) :=
  (glo_mk (O := []) (Oc := []) (W := []) (U := []) T.d_told_at sc_told_at (fun f cdv A outer s H E P0 hr => (cs_one (cs_ret (ce_ix (ce_ix (ce_var 0) ce_int) (ce_call (ok_place_of T) out2_body (hr.mono (by decide)) (ca_cons (ce_var 1) ca_nil) (alen_cons alen_nil)))))) (fun _ _ _ _ _ _ us hl => match us, hl with | [_, _], _ => rfl)).pure
theorem ok_signs_at (T : Txt K mg) : Glo P w K mg base "signs_at" 3 2 [] (pureF C.g_signs_at) :=
  (glo_mk (O := []) (Oc := [2]) (W := []) (U := []) T.d_signs_at sc_signs_at (fun f cdv A outer s H E P0 hr => (cs_cons (cs_own (i := 2) sc_signs_at.nd (ce_lst ca_nil))
    (cs_cons (cs_for (U' := []) (vs := [3, 4, 5]) (passes_of rfl) rfl (ci_any (ce_call (ok_stands_of T) out2_body (hr.mono (by decide)) (ca_cons (ce_callB cd_len T.z_len bo_len (ca_cons (ce_ix (ce_var 0) ce_int) ca_nil)) ca_nil) (alen_cons alen_nil))) (cg_name 3 sc_signs_at.nd) (cs_cons (cs_asg (ce_call (ok_told_at T) out2_body (hr.mono (by decide)) (ca_cons (ce_var 0) (ca_cons (ce_call (ok_with_bit T) out2_body (hr.mono (by decide)) (ca_cons (ce_var 3) (ca_cons (ce_var 1) (ca_cons ce_int ca_nil))) (alen_cons (alen_cons (alen_cons alen_nil)))) ca_nil)) (alen_cons (alen_cons alen_nil))) (cg_name 4 sc_signs_at.nd))
    (cs_cons (cs_asg (ce_call (ok_told_at T) out2_body (hr.mono (by decide)) (ca_cons (ce_var 0) (ca_cons (ce_call (ok_with_bit T) out2_body (hr.mono (by decide)) (ca_cons (ce_var 3) (ca_cons (ce_var 1) (ca_cons ce_int ca_nil))) (alen_cons (alen_cons (alen_cons alen_nil)))) ca_nil)) (alen_cons (alen_cons alen_nil))) (cg_name 5 sc_signs_at.nd))
    (cs_one (cs_if (ct_w (cw_and (ct_cmp (od_ne hr.units) (ce_var 4) (ce_var 5)) (cw_and1 (ct_cmp (od_nin hr.units65) (ce_bin od_sub (ce_var 5) (ce_var 4)) (ce_own 2))))) (cs_one (cs_append (i := 2) (ce_bin od_sub (ce_var 5) (ce_var 4)))) cs_nil)))))
    (cs_one (cs_ret (ce_own 2)))))) (fun _ _ _ _ _ _ us hl => match us, hl with | [_, _], _ => rfl)).pure
theorem ok_wires_of (T : Txt K mg) : Glo P w K mg base "wires_of" 4 1 [] (pureF C.g_wires_of) :=
  (glo_mk (O := []) (Oc := [1]) (W := []) (U := []) T.d_wires_of sc_wires_of (fun f cdv A outer s H E P0 hr => (cs_cons (cs_own (i := 1) sc_wires_of.nd (ce_lst ca_nil))
    (cs_cons (cs_for (U' := []) (vs := [2, 3, 4, 5]) (passes_of rfl) rfl (ci_enumG T.z_enumerate (ca_cons (ce_var 0) ca_nil)) (cg_tup [2, 3] rfl (cgs_cons 2 sc_wires_of.nd (cgs_cons 3 sc_wires_of.nd cgs_nil))) (cs_one (cs_for (U' := []) (vs := [4, 5]) (passes_of rfl) rfl (ci_enumG T.z_enumerate (ca_cons (ce_ix (ce_var 3) ce_int) ca_nil)) (cg_tup [4, 5] rfl (cgs_cons 4 sc_wires_of.nd (cgs_cons 5 sc_wires_of.nd cgs_nil))) (cs_one (cs_ext (i := 1) (ce_comp rfl sc_wires_of.nd (ci_any (ce_call (ok_signs_at T) out2_body (hr.mono (by decide)) (ca_cons (ce_var 3) (ca_cons (ce_var 4) ca_nil)) (alen_cons (alen_cons alen_nil)))) (blkOk_by (own := [("sign", 6)]) (by kernel_rfl)) (fun P0 s H C cl fp => (cg_name 6 sc_wires_of.nd)) (fun s H C cl fp => cts_nil) (fun P0 s H C cl fp => (ce_tup (ca_cons (ce_var 5) (ca_cons (ce_var 2) (ca_cons (ce_var 6) ca_nil)))))))))))
    (cs_one (cs_ret (ce_callB cd_sort T.z_sorted bo_sorted (ca_cons (ce_own 1) ca_nil))))))) (fun _ _ _ _ _ _ us hl => match us, hl with | [_], _ => rfl)).pure
theorem ok_signs_between (T : Txt K mg) : Glo P w K mg base "signs_between" 5 1 [] (pureF C.g_signs_between) :=
  (glo_mk (O := []) (Oc := [1]) (W := []) (U := []) T.d_signs_between sc_signs_between (fun f cdv A outer s H E P0 hr => (cs_cons (cs_dicnew (i := 1) sc_signs_between.nd)
    (cs_cons (cs_group (i := 1) (a := 2) (b := 3) (s := 4) (Nat.lt_of_le_of_lt (Nat.add_le_add_left (by decide) _) hr.units65) (passes_of rfl) rfl (ci_any (ce_call (ok_wires_of T) out2_body (hr.mono (by decide)) (ca_cons (ce_var 0) ca_nil) (alen_cons alen_nil))) (cg_tup [2, 3, 4] rfl (cgs_cons 2 sc_signs_between.nd (cgs_cons 3 sc_signs_between.nd (cgs_cons 4 sc_signs_between.nd cgs_nil)))) rfl (by first | exact Or.inl rfl | exact Or.inr (Or.inl rfl) | exact Or.inr (Or.inr rfl)) rfl (by first | exact Or.inl rfl | exact Or.inr (Or.inl rfl) | exact Or.inr (Or.inr rfl)) rfl (by first | exact Or.inl rfl | exact Or.inr (Or.inl rfl) | exact Or.inr (Or.inr rfl)) rfl (by first | exact Or.inl rfl | exact Or.inr (Or.inl rfl) | exact Or.inr (Or.inr rfl)) (by decide) (by decide) (by decide) (by decide) (by decide) (by decide) (by decide) (by decide))
    (cs_one (cs_ret (ce_own 1)))))) (fun _ _ _ _ _ _ us hl => match us, hl with | [_], _ => rfl)).pure
theorem ok_steps_round (T : Txt K mg) : Glo P w K mg base "steps_round" 1 1 [] (pureF C.g_steps_round) :=
  (glo_mk (O := []) (Oc := []) (W := []) (U := []) T.d_steps_round sc_steps_round (fun f cdv A outer s H E P0 hr => (cs_one (cs_ret (ce_listZip rfl T.z_list T.z_zip (ca_cons (ce_var 0) (ca_cons (ce_bin od_add (ce_slice (ce_var 0) (co_some ce_int) co_none) (ce_slice (ce_var 0) co_none (co_some ce_int))) ca_nil)))))) (fun _ _ _ _ _ _ us hl => match us, hl with | [_], _ => rfl)).pure
theorem ok_is_round (T : Txt K mg) : Glo P w K mg base "is_round" 2 2 [] (pureF C.g_is_round) :=
  (glo_mk (O := []) (Oc := []) (W := []) (U := []) T.d_is_round sc_is_round (fun f cdv A outer s H E P0 hr => (cs_one (cs_ret (ce_and (ce_cmp (od_eq hr.units) (ce_ix (ce_var 1) ce_int) (ce_callB (cd_minS rfl hr.units) T.z_min bo_min (ca_cons (ce_var 1) ca_nil))) (ce_one (ce_callB (cd_all rfl) T.z_all bo_all (ca_cons (ce_comp rfl sc_is_round.nd (ci_any (ce_call (ok_steps_round T) out2_body (hr.mono (by decide)) (ca_cons (ce_var 1) ca_nil) (alen_cons alen_nil))) (blkOk_by (own := [("step", 2)]) (by kernel_rfl)) (fun P0 s H C cl fp => (cg_name 2 sc_is_round.nd)) (fun s H C cl fp => cts_nil) (fun P0 s H C cl fp => (ce_din (Nat.lt_of_le_of_lt (Nat.add_le_add_left (by decide) _) hr.units65) (ce_var 2) (ce_var 0)))) ca_nil))))))) (fun _ _ _ _ _ _ us hl => match us, hl with | [_, _], _ => rfl)).pure
theorem ok_rings_with (T : Txt K mg) : Glo P w K mg base "rings_with" 42 2 [] (pureF C.g_rings_with) :=
  (glo_mk (O := []) (Oc := []) (W := []) (U := []) T.d_rings_with sc_rings_with (fun f cdv A outer s H E P0 hr => (cs_cons (cs_asg (ce_call (ok_signs_between T) out2_body (hr.mono (by decide)) (ca_cons (ce_var 0) ca_nil) (alen_cons alen_nil)) (cg_name 2 sc_rings_with.nd))
    (cs_one (cs_ret (ce_comp rfl sc_rings_with.nd (ci_any (ce_call (ok_in_rows T) out2_body (hr.mono (by decide)) (ca_cons (ce_lrg1 rfl T.z_list T.z_range (ce_callB cd_len T.z_len bo_len (ca_cons (ce_var 0) ca_nil))) (ca_cons (ce_var 1) ca_nil)) (alen_cons (alen_cons alen_nil)))) (blkOk_by (own := [("ring", 3)]) (by kernel_rfl)) (fun P0 s H C cl fp => (cg_name 3 sc_rings_with.nd)) (fun s H C cl fp => (cts_one fun P0 => (ct_val (ce_call (ok_is_round T) Out2.blk (hr.mono (by decide)) (ca_cons (ce_var 2) (ca_cons (ce_var 3) ca_nil)) (alen_cons (alen_cons alen_nil)))))) (fun P0 s H C cl fp => (ce_var 3))))))) (fun _ _ _ _ _ _ us hl => match us, hl with | [_, _], _ => rfl)).pure
theorem ok_next_free (T : Txt K mg) : Glo P w K mg base "next_free" 6 2 [] (pureF C.g_next_free) :=
  (glo_mk (O := []) (Oc := []) (W := []) (U := []) T.d_next_free sc_next_free (fun f cdv A outer s H E P0 hr => (cs_cons (cs_asg (ce_call (ok_signs_between T) out2_body (hr.mono (by decide)) (ca_cons (ce_var 0) ca_nil) (alen_cons alen_nil)) (cg_name 2 sc_next_free.nd))
    (cs_cons (cs_asgLc (i := 3) rfl sc_next_free.nd rfl rfl (sw_true rfl rfl rfl (by decide +kernel)) (ci_range1 T.z_range (ca_cons (ce_callB cd_len T.z_len bo_len (ca_cons (ce_var 0) ca_nil)) ca_nil)) (blkOk_by (own := [("switch", 4)]) (by kernel_rfl)) (fun P0 s H C cl fp => (cg_name 4 sc_next_free.nd)) (fun s H C cl fp => (cts_one fun P0 => (ct_cmp (od_nin hr.units65) (ce_var 4) (ce_var 1)))) (fun P0 s H C cl fp => (ce_var 4)))
    (cs_cons (cs_for (U' := []) (vs := [4]) (passes_of rfl) rfl (ci_any (ce_var 3)) (cg_name 4 sc_next_free.nd) (cs_one (cs_if (ct_not (ct_val (ce_callB (cd_any rfl) T.z_any bo_any (ca_cons (ce_comp rfl sc_next_free.nd (ci_any (ce_var 3)) (blkOk_by (own := [("other", 5)]) (by kernel_rfl)) (fun P0 s H C cl fp => (cg_name 5 sc_next_free.nd)) (fun s H C cl fp => cts_nil) (fun P0 s H C cl fp => (ce_din (Nat.lt_of_le_of_lt (Nat.add_le_add_left (by decide) _) hr.units65) (ce_tup (ca_cons (ce_var 5) (ca_cons (ce_var 4) ca_nil))) (ce_var 2)))) ca_nil)))) (cs_one (cs_ret (ce_var 4))) cs_nil)))
    (cs_one (cs_ret ce_non)))))) (fun _ _ _ _ _ _ us hl => match us, hl with | [_, _], _ => rfl)).pure
theorem ok_order_paper (T : Txt K mg) : Glo P w K mg base "order_paper" 43 1 [] (pureF C.g_order_paper) :=
  (glo_mk (O := []) (Oc := []) (W := []) (U := []) T.d_order_paper sc_order_paper (fun f cdv A outer s H E P0 hr => (cs_growR (i := 1) sc_order_paper.nd (cs_while (vs := [2, 3]) (passes_of rfl) (ct_cmp od_lt (ce_callB cd_len T.z_len bo_len (ca_cons (ce_own 1) ca_nil)) (ce_callB cd_len T.z_len bo_len (ca_cons (ce_var 0) ca_nil))) (cs_cons (cs_asg (ce_callR (ok_next_free T) out2_body (hr.mono (by decide)) (ca_cons (ce_var 0) (ca_cons (ce_own 1) ca_nil)) (alen_cons (alen_cons alen_nil))) (cg_name 2 sc_order_paper.nd))
    (cs_cons (cs_if (ct_cmp od_is (ce_var 2) ce_non) (cs_cons (cs_asg ce_int (cg_name 3 sc_order_paper.nd))
    (cs_cons (cs_while (vs := []) (passes_of rfl) (ct_cmp (od_eq hr.units) (ce_call (ok_rings_with T) out2_body (hr.mono (by decide)) (ca_cons (ce_var 0) (ca_cons (ce_var 3) ca_nil)) (alen_cons (alen_cons alen_nil))) (ce_lst ca_nil)) (cs_one (cs_aug (i := 3) sc_order_paper.nd ip_add ce_int)))
    (cs_one (cs_ret (ce_tup (ca_cons ce_str (ca_cons (ce_ix (ce_call (ok_rings_with T) out2_body (hr.mono (by decide)) (ca_cons (ce_var 0) (ca_cons (ce_var 3) ca_nil)) (alen_cons (alen_cons alen_nil))) ce_int) ca_nil))))))) cs_nil)
    (cs_one (cs_append (i := 1) (ce_var 2)))))) (cs_one (cs_ret (ce_tup (ca_cons ce_str (ca_cons (ce_var 1) ca_nil))))))) (fun _ _ _ _ _ _ us hl => match us, hl with | [_], _ => rfl)).pure
theorem ok__law_cell (T : Txt K mg) : Glo P w K mg base "_law_cell" 1 2 [] (pureF C.g__law_cell) :=
  (glo_mk (O := []) (Oc := []) (W := []) (U := []) T.d__law_cell sc__law_cell (fun f cdv A outer s H E P0 hr => (cs_cons (cs_if (ct_cmp od_lt (ce_var 1) (ce_callB cd_len T.z_len bo_len (ca_cons (ce_var 0) ca_nil))) (cs_one (cs_ret (ce_ix (ce_var 0) (ce_var 1)))) cs_nil)
    (cs_one (cs_ret (ce_bin od_add (ce_bin od_mul ce_int (ce_var 1)) ce_int))))) (fun _ _ _ _ _ _ us hl => match us, hl with | [_, _], _ => rfl)).pure
theorem ok__law_box (T : Txt K mg) : Glo P w K mg base "_law_box" 2 2 [] (pureF C.g__law_box_2) :=
  (glo_mk (O := []) (Oc := []) (W := []) (U := []) T.d__law_box sc__law_box (fun f cdv A outer s H E P0 hr => (cs_cons (cs_asg (ce_call (ok__law_cell T) out2_body (hr.mono (by decide)) (ca_cons (ce_var 0) (ca_cons (ce_var 1) ca_nil)) (alen_cons (alen_cons alen_nil))) (cg_name 2 sc__law_box.nd))
    (cs_cons (cs_if (ct_cmp (od_eq hr.units) (ce_bin od_mod (ce_var 2) ce_int) ce_int) (cs_one (cs_ret (ce_lst (ca_cons (ce_bin od_fdiv (ce_var 2) ce_int) ca_nil)))) cs_nil)
    (cs_cons (cs_asg ce_int (cg_name 3 sc__law_box.nd))
    (cs_cons (cs_asg (ce_bin od_mod (ce_var 2) ce_int) (cg_name 4 sc__law_box.nd))
    (cs_cons (cs_for (U' := []) (vs := [5]) (passes_of rfl) rfl (ci_range1 T.z_range (ca_cons ce_int ca_nil)) (cg_name 5 sc__law_box.nd) (cs_cons (cs_asg (ce_bin od_mod (ce_bin od_add (ce_bin od_add (ce_bin od_add (ce_bin od_mul (ce_var 4) ce_int) (ce_bin od_mul (ce_bin od_mul ce_int (ce_var 5)) (ce_var 5))) (ce_bin od_mul ce_int (ce_var 1))) ce_int) ce_int) (cg_name 4 sc__law_box.nd))
    (cs_one (cs_asg (ce_bin od_add (ce_bin od_mul (ce_var 3) ce_int) (ce_var 4)) (cg_name 3 sc__law_box.nd)))))
    (cs_one (cs_ret (ce_lst (ca_cons (ce_var 3) ca_nil)))))))))) (fun _ _ _ _ _ _ us hl => match us, hl with | [_, _], _ => rfl)).pure
theorem ok__law_take (T : Txt K mg) : Glo P w K mg base "_law_take" 1 2 [0] C.g__law_take_2 :=
  (glo_mk (O := [0]) (Oc := [0]) (W := []) (U := [0]) T.d__law_take sc__law_take (fun f cdv A outer s H E P0 hr => (cs_cons (cs_asg (ce_bin od_mod (ce_ix (ce_own 0) ce_int) (ce_var 1)) (cg_name 2 sc__law_take.nd))
    (cs_cons (cs_setix (i := 0) (ce_bin od_fdiv (ce_ix (ce_own 0) ce_int) (ce_var 1)) ce_int)
    (cs_one (cs_ret (ce_var 2)))))) (fun _ _ _ _ _ _ us hl => match us, hl with | [_, _], _ => rfl))
theorem ok__law_readings (T : Txt K mg) : Glo P w K mg base "_law_readings" 1 1 [] (pureF C.g__law_readings) :=
  (glo_mk (O := []) (Oc := []) (W := []) (U := []) T.d__law_readings sc__law_readings (fun f cdv A outer s H E P0 hr => (cs_cons (cs_asg (ce_lst (ca_cons (ce_tup ca_nil) ca_nil)) (cg_name 1 sc__law_readings.nd))
    (cs_cons (cs_for (U' := []) (vs := [2]) (passes_of rfl) rfl (ci_range1 T.z_range (ca_cons (ce_var 0) ca_nil)) (cg_name 2 sc__law_readings.nd) (cs_one (cs_asg (ce_bin od_add (ce_comp rfl sc__law_readings.nd (ci_any (ce_var 1)) (blkOk_by (own := [("row", 3)]) (by kernel_rfl)) (fun P0 s H C cl fp => (cg_name 3 sc__law_readings.nd)) (fun s H C cl fp => cts_nil) (fun P0 s H C cl fp => (ce_bin od_add (ce_var 3) (ce_tup (ca_cons ce_int ca_nil))))) (ce_comp rfl sc__law_readings.nd (ci_any (ce_var 1)) (blkOk_by (own := [("row", 3)]) (by kernel_rfl)) (fun P0 s H C cl fp => (cg_name 3 sc__law_readings.nd)) (fun s H C cl fp => cts_nil) (fun P0 s H C cl fp => (ce_bin od_add (ce_var 3) (ce_tup (ca_cons ce_int ca_nil)))))) (cg_name 1 sc__law_readings.nd))))
    (cs_one (cs_ret (ce_callB cd_sort T.z_sorted bo_sorted (ca_cons (ce_var 1) ca_nil))))))) (fun _ _ _ _ _ _ us hl => match us, hl with | [_], _ => rfl)).pure
theorem ok__law_rule (T : Txt K mg) : Glo P w K mg base "_law_rule" 2 2 [0] C.g__law_rule_2 :=
  (glo_mk (O := [0]) (Oc := [0, 2, 3]) (W := [0, 2]) (U := [0]) T.d__law_rule sc__law_rule (fun f cdv A outer s H E P0 hr => (cs_cons (cs_own (i := 2) sc__law_rule.nd (ce_lrg1 rfl T.z_list T.z_range (ce_var 1)))
    (cs_cons (cs_own (i := 3) sc__law_rule.nd (ce_lst ca_nil))
    (cs_cons (cs_for (U' := [0]) (vs := []) (passes_of rfl) rfl (ci_range1 T.z_range (ca_cons (ce_callB (cd_min rfl) T.z_min bo_min (ca_cons (ce_callIO (ok__law_take T) [(0, 0)] out2_body (hr.mono (by decide)) (ca_cons (ce_own 0) (ca_cons ce_int ca_nil)) (alen_cons (alen_cons alen_nil))) (ca_cons (ce_var 1) ca_nil))) ca_nil)) (cg_name 4 sc__law_rule.nd) (cs_one (cs_append (i := 3) (ce_popAt (i := 2) (ce_callIO (ok__law_take T) [(0, 0)] out2_body (hr.mono (by decide)) (ca_cons (ce_own 0) (ca_cons (ce_callB cd_len T.z_len bo_len (ca_cons (ce_own 2) ca_nil)) ca_nil)) (alen_cons (alen_cons alen_nil)))))))
    (cs_cons (cs_asg (ce_call (ok__law_readings T) out2_body (hr.mono (by decide)) (ca_cons (ce_callB cd_len T.z_len bo_len (ca_cons (ce_own 3) ca_nil)) ca_nil) (alen_cons alen_nil)) (cg_name 5 sc__law_rule.nd))
    (cs_cons (cs_asg (ce_callIO (ok__law_take T) [(0, 0)] out2_body (hr.mono (by decide)) (ca_cons (ce_own 0) (ca_cons ce_int ca_nil)) (alen_cons (alen_cons alen_nil))) (cg_name 6 sc__law_rule.nd))
    (cs_cons (cs_if (ct_cmp (od_eq hr.units) (ce_var 6) ce_int) (cs_one (cs_ret (ce_tup (ca_cons (ce_callT cd_tuple T.z_tuple bo_tuple (ca_cons (ce_callB cd_sort T.z_sorted bo_sorted (ca_cons (ce_own 3) ca_nil)) ca_nil)) (ca_cons (ce_callT cd_tuple T.z_tuple bo_tuple (ca_cons (ce_comp rfl sc__law_rule.nd (ci_any (ce_var 5)) (blkOk_by (own := [("row", 11)]) (by kernel_rfl)) (fun P0 s H C cl fp => (cg_name 11 sc__law_rule.nd)) (fun s H C cl fp => cts_nil) (fun P0 s H C cl fp => (ce_callIO (ok__law_take T) [(0, 0)] Out2.blk (hr.mono (by decide)) (ca_cons (ce_own 0) (ca_cons ce_int ca_nil)) (alen_cons (alen_cons alen_nil))))) ca_nil)) ca_nil))))) cs_nil)
    (cs_cons (cs_asg (ce_comp rfl sc__law_rule.nd (ci_any (ce_own 3)) (blkOk_by (own := [("ear", 10)]) (by kernel_rfl)) (fun P0 s H C cl fp => (cg_name 10 sc__law_rule.nd)) (fun s H C cl fp => cts_nil) (fun P0 s H C cl fp => ce_int)) (cg_name 7 sc__law_rule.nd))
    (cs_cons (cs_if (ct_cmp (od_eq hr.units) (ce_var 6) ce_int) (cs_one (cs_asg (ce_comp rfl sc__law_rule.nd (ci_any (ce_own 3)) (blkOk_by (own := [("ear", 10)]) (by kernel_rfl)) (fun P0 s H C cl fp => (cg_name 10 sc__law_rule.nd)) (fun s H C cl fp => cts_nil) (fun P0 s H C cl fp => (ce_callIO (ok__law_take T) [(0, 0)] Out2.blk (hr.mono (by decide)) (ca_cons (ce_own 0) (ca_cons ce_int ca_nil)) (alen_cons (alen_cons alen_nil))))) (cg_name 7 sc__law_rule.nd))) cs_nil)
    (cs_cons (cs_asg (ce_callIO (ok__law_take T) [(0, 0)] out2_body (hr.mono (by decide)) (ca_cons (ce_own 0) (ca_cons (ce_bin od_add (ce_callB cd_len T.z_len bo_len (ca_cons (ce_own 3) ca_nil)) ce_int) ca_nil)) (alen_cons (alen_cons alen_nil))) (cg_name 8 sc__law_rule.nd))
    (cs_cons (cs_asgLc (i := 9) rfl sc__law_rule.nd rfl rfl (sw_true rfl rfl rfl (by decide +kernel)) (ci_any (ce_var 5)) (blkOk_by (own := [("row", 11)]) (by kernel_rfl)) (fun P0 s H C cl fp => (cg_name 11 sc__law_rule.nd)) (fun s H C cl fp => cts_nil) (fun P0 s H C cl fp => (ce_callT cd_int T.z_int bo_int (ca_cons (ce_cmp od_ge (ce_callB cd_len T.z_len bo_len (ca_cons (ce_comp rfl sc__law_rule.nd (ci_range1 T.z_range (ca_cons (ce_callB cd_len T.z_len bo_len (ca_cons (ce_own 3) ca_nil)) ca_nil)) (blkOk_by (own := [("k", 4)]) (by kernel_rfl)) (fun P0 s H C cl fp => (cg_name 4 sc__law_rule.nd)) (fun s H C cl fp => (cts_one fun P0 => (ct_cmp (od_eq hr.units) (ce_ix (ce_var 11) (ce_var 4)) (ce_ix (ce_var 7) (ce_var 4))))) (fun P0 s H C cl fp => (ce_var 4))) ca_nil)) (ce_var 8)) ca_nil))))
    (cs_one (cs_ret (ce_tup (ca_cons (ce_callT cd_tuple T.z_tuple bo_tuple (ca_cons (ce_callB cd_sort T.z_sorted bo_sorted (ca_cons (ce_own 3) ca_nil)) ca_nil)) (ca_cons (ce_callT cd_tuple T.z_tuple bo_tuple (ca_cons (ce_var 9) ca_nil)) ca_nil)))))))))))))))) (fun _ _ _ _ _ _ us hl => match us, hl with | [_, _], _ => rfl))
theorem ok__law_drawn (T : Txt K mg) : Glo P w K mg base "_law_drawn" 3 2 [0] C.g__law_drawn :=
  (glo_mk (O := [0]) (Oc := [0]) (W := [0]) (U := [0]) T.d__law_drawn sc__law_drawn (fun f cdv A outer s H E P0 hr => (cs_cons (cs_asg (ce_bin od_add ce_int (ce_callIO (ok__law_take T) [(0, 0)] out2_body (hr.mono (by decide)) (ca_cons (ce_own 0) (ca_cons (ce_var 1) ca_nil)) (alen_cons (alen_cons alen_nil)))) (cg_name 2 sc__law_drawn.nd))
    (cs_cons (cs_asg (ce_callIO (ok__law_take T) [(0, 0)] out2_body (hr.mono (by decide)) (ca_cons (ce_own 0) (ca_cons ce_int ca_nil)) (alen_cons (alen_cons alen_nil))) (cg_name 3 sc__law_drawn.nd))
    (cs_cons (cs_if (ct_cmp od_gt (ce_var 3) ce_int) (cs_one (cs_ret (ce_callT cd_tuple T.z_tuple bo_tuple (ca_cons (ce_comp rfl sc__law_drawn.nd (ci_range1 T.z_range (ca_cons (ce_var 2) ca_nil)) (blkOk_by (own := [("k", 5)]) (by kernel_rfl)) (fun P0 s H C cl fp => (cg_name 5 sc__law_drawn.nd)) (fun s H C cl fp => cts_nil) (fun P0 s H C cl fp => (ce_callIO (ok__law_rule T) [(0, 0)] Out2.blk (hr.mono (by decide)) (ca_cons (ce_own 0) (ca_cons (ce_var 2) ca_nil)) (alen_cons (alen_cons alen_nil))))) ca_nil)))) cs_nil)
    (cs_cons (cs_asgLc (i := 4) rfl sc__law_drawn.nd rfl rfl (sw_true rfl rfl rfl (by decide +kernel)) (ci_range1 T.z_range (ca_cons (ce_var 2) ca_nil)) (blkOk_by (own := [("k", 5)]) (by kernel_rfl)) (fun P0 s H C cl fp => (cg_name 5 sc__law_drawn.nd)) (fun s H C cl fp => cts_nil) (fun P0 s H C cl fp => (ce_callIO (ok__law_rule T) [(0, 0)] Out2.blk (hr.mono (by decide)) (ca_cons (ce_own 0) (ca_cons (ce_var 5) ca_nil)) (alen_cons (alen_cons alen_nil)))))
    (cs_cons (cs_if (ct_cmp (od_eq hr.units) (ce_var 3) ce_int) (cs_one (cs_asgLc (i := 4) rfl sc__law_drawn.nd rfl rfl (sw_true rfl rfl rfl (by decide +kernel)) (ci_any (ce_rev (ce_var 4) (co_some (ce_neg ce_int)))) (blkOk_by (own := [("ears", 6), ("table", 7)]) (by kernel_rfl)) (fun P0 s H C cl fp => (cg_tup [6, 7] rfl (cgs_cons 6 sc__law_drawn.nd (cgs_cons 7 sc__law_drawn.nd cgs_nil)))) (fun s H C cl fp => cts_nil) (fun P0 s H C cl fp => (ce_tup (ca_cons (ce_callT cd_tuple T.z_tuple bo_tuple (ca_cons (ce_callB cd_sort T.z_sorted bo_sorted (ca_cons (ce_comp rfl sc__law_drawn.nd (ci_any (ce_var 6)) (blkOk_by (own := [("ear", 8)]) (by kernel_rfl)) (fun P0 s H C cl fp => (cg_name 8 sc__law_drawn.nd)) (fun s H C cl fp => cts_nil) (fun P0 s H C cl fp => (ce_bin od_sub (ce_bin od_sub (ce_var 2) ce_int) (ce_var 8)))) ca_nil)) ca_nil)) (ca_cons (ce_var 7) ca_nil)))))) cs_nil)
    (cs_one (cs_ret (ce_callT cd_tuple T.z_tuple bo_tuple (ca_cons (ce_var 4) ca_nil)))))))))) (fun _ _ _ _ _ _ us hl => match us, hl with | [_, _], _ => rfl))
theorem ok__law_told (T : Txt K mg) : Glo P w K mg base "_law_told" 1 3 [] (pureF C.g__law_told) :=
  (glo_mk (O := []) (Oc := []) (W := []) (U := []) T.d__law_told sc__law_told (fun f cdv A outer s H E P0 hr => (cs_cons (cs_asg (ce_ix (ce_var 0) (ce_var 2)) (cg_tup [3, 4] rfl (cgs_cons 3 sc__law_told.nd (cgs_cons 4 sc__law_told.nd cgs_nil))))
    (cs_cons (cs_asg ce_int (cg_name 5 sc__law_told.nd))
    (cs_cons (cs_for (U' := []) (vs := [6]) (passes_of rfl) rfl (ci_any (ce_var 3)) (cg_name 6 sc__law_told.nd) (cs_one (cs_asg (ce_bin od_add (ce_bin od_mul ce_int (ce_var 5)) (ce_ix (ce_var 1) (ce_var 6))) (cg_name 5 sc__law_told.nd))))
    (cs_one (cs_ret (ce_ix (ce_var 4) (ce_var 5)))))))) (fun _ _ _ _ _ _ us hl => match us, hl with | [_, _, _], _ => rfl)).pure
theorem ok__law_whole (T : Txt K mg) : Glo P w K mg base "_law_whole" 1 1 [] (pureF C.g__law_whole_2) :=
  (glo_mk (O := []) (Oc := []) (W := []) (U := []) T.d__law_whole sc__law_whole (fun f cdv A outer s H E P0 hr => (cs_one (cs_ret (ce_and (ce_isi isk_int T.z_isinstance T.z_int (ce_var 0) bo_isinstance bo_int) (ce_one (ce_not (ce_isi isk_bool T.z_isinstance T.z_bool (ce_var 0) bo_isinstance bo_bool))))))) (fun _ _ _ _ _ _ us hl => match us, hl with | [_], _ => rfl)).pure
theorem ok__law_wires (T : Txt K mg) : Glo P w K mg base "_law_wires" 2 1 [] (pureF C.g__law_wires) :=
  (glo_mk (O := []) (Oc := [1]) (W := []) (U := []) T.d__law_wires sc__law_wires (fun f cdv A outer s H E P0 hr => (cs_cons (cs_dicnew (i := 1) sc__law_wires.nd)
    (cs_cons (cs_for (U' := []) (vs := [2, 3, 4, 5, 6]) (passes_of rfl) rfl (ci_any (ce_call (ok__law_readings T) out2_body (hr.mono (by decide)) (ca_cons (ce_callB cd_len T.z_len bo_len (ca_cons (ce_var 0) ca_nil)) ca_nil) (alen_cons alen_nil))) (cg_name 2 sc__law_wires.nd) (cs_one (cs_for (U' := []) (vs := [3, 4, 5, 6]) (passes_of rfl) rfl (ci_range1 T.z_range (ca_cons (ce_callB cd_len T.z_len bo_len (ca_cons (ce_var 0) ca_nil)) ca_nil)) (cg_name 3 sc__law_wires.nd) (cs_cons (cs_asg (ce_bin od_add (ce_bin od_add (ce_slice (ce_var 2) co_none (co_some (ce_var 3))) (ce_tup (ca_cons ce_int ca_nil))) (ce_slice (ce_var 2) (co_some (ce_bin od_add (ce_var 3) ce_int)) co_none)) (cg_name 4 sc__law_wires.nd))
    (cs_one (cs_for (U' := []) (vs := [5, 6]) (passes_of rfl) rfl (ci_range1 T.z_range (ca_cons (ce_callB cd_len T.z_len bo_len (ca_cons (ce_var 0) ca_nil)) ca_nil)) (cg_name 5 sc__law_wires.nd) (cs_cons (cs_asg (ce_bin od_sub (ce_call (ok__law_told T) out2_body (hr.mono (by decide)) (ca_cons (ce_var 0) (ca_cons (ce_var 4) (ca_cons (ce_var 5) ca_nil))) (alen_cons (alen_cons (alen_cons alen_nil)))) (ce_call (ok__law_told T) out2_body (hr.mono (by decide)) (ca_cons (ce_var 0) (ca_cons (ce_var 2) (ca_cons (ce_var 5) ca_nil))) (alen_cons (alen_cons (alen_cons alen_nil))))) (cg_name 6 sc__law_wires.nd))
    (cs_one (cs_if (ct_cmp (od_ne hr.units) (ce_var 6) ce_int) (cs_one (cs_dput (i := 1) (Nat.lt_of_le_of_lt (Nat.add_le_add_left (by decide) _) hr.units65) ce_bl (ce_tup (ca_cons (ce_var 3) (ca_cons (ce_var 5) (ca_cons (ce_var 6) ca_nil)))))) cs_nil)))))))))
    (cs_one (cs_ret (ce_callB (cd_sortDD rfl) T.z_sorted bo_sorted (ca_cons (ce_own 1) ca_nil))))))) (fun _ _ _ _ _ _ us hl => match us, hl with | [_], _ => rfl)).pure
theorem ok__law_pairs (T : Txt K mg) : Glo P w K mg base "_law_pairs" 3 1 [] (pureF C.g__law_pairs_2) :=
  (glo_mk (O := []) (Oc := [1]) (W := []) (U := []) T.d__law_pairs sc__law_pairs (fun f cdv A outer s H E P0 hr => (cs_cons (cs_dicnew (i := 1) sc__law_pairs.nd)
    (cs_cons (cs_group (i := 1) (a := 2) (b := 3) (s := 4) (Nat.lt_of_le_of_lt (Nat.add_le_add_left (by decide) _) hr.units65) (passes_of rfl) rfl (ci_any (ce_call (ok__law_wires T) out2_body (hr.mono (by decide)) (ca_cons (ce_var 0) ca_nil) (alen_cons alen_nil))) (cg_tup [2, 3, 4] rfl (cgs_cons 2 sc__law_pairs.nd (cgs_cons 3 sc__law_pairs.nd (cgs_cons 4 sc__law_pairs.nd cgs_nil)))) rfl (by first | exact Or.inl rfl | exact Or.inr (Or.inl rfl) | exact Or.inr (Or.inr rfl)) rfl (by first | exact Or.inl rfl | exact Or.inr (Or.inl rfl) | exact Or.inr (Or.inr rfl)) rfl (by first | exact Or.inl rfl | exact Or.inr (Or.inl rfl) | exact Or.inr (Or.inr rfl)) rfl (by first | exact Or.inl rfl | exact Or.inr (Or.inl rfl) | exact Or.inr (Or.inr rfl)) (by decide) (by decide) (by decide) (by decide) (by decide) (by decide) (by decide) (by decide))
    (cs_one (cs_ret (ce_own 1)))))) (fun _ _ _ _ _ _ us hl => match us, hl with | [_], _ => rfl)).pure
theorem ok__law_rings (T : Txt K mg) : Glo P w K mg base "_law_rings" 1 3 [] (pureF C.g__law_rings) :=
  (glo_mk (O := []) (Oc := [3, 5]) (W := [5]) (U := []) T.d__law_rings sc__law_rings (fun f cdv A outer s H E P0 hr => (cs_cons (cs_own (i := 3) sc__law_rings.nd (ce_lst ca_nil))
    (cs_cons (cs_for (U' := []) (vs := [4, 5, 6]) (passes_of rfl) rfl (ci_range1 T.z_range (ca_cons (ce_var 1) ca_nil)) (cg_name 4 sc__law_rings.nd) (cs_cons (cs_own (i := 5) sc__law_rings.nd (ce_lst (ca_cons (ce_tup (ca_cons (ce_var 4) ca_nil)) ca_nil)))
    (cs_one (cs_while (vs := [6]) (passes_of rfl) (ct_cmp (od_ne hr.units) (ce_own 5) (ce_lst ca_nil)) (cs_cons (cs_asg (ce_pop (i := 5)) (cg_name 6 sc__law_rings.nd))
    (cs_cons (cs_if (ct_din (Nat.lt_of_le_of_lt (Nat.add_le_add_left (by decide) _) hr.units65) (ce_tup (ca_cons (ce_ix (ce_var 6) (ce_neg ce_int)) (ca_cons (ce_var 4) ca_nil))) (ce_var 0)) (cs_one (cs_append (i := 3) (ce_var 6))) cs_nil)
    (cs_one (cs_if (ct_cmp od_lt (ce_callB cd_len T.z_len bo_len (ca_cons (ce_var 6) ca_nil)) (ce_var 2)) (cs_one (cs_ext (i := 5) (ce_comp rfl sc__law_rings.nd (ci_range2 T.z_range (ca_cons (ce_bin od_add (ce_var 4) ce_int) (ca_cons (ce_var 1) ca_nil))) (blkOk_by (own := [("k", 7)]) (by kernel_rfl)) (fun P0 s H C cl fp => (cg_name 7 sc__law_rings.nd)) (fun s H C cl fp => (cts_one fun P0 => (ct_w (cw_and (ct_cmp (od_nin hr.units65) (ce_var 7) (ce_var 6)) (cw_and1 (ct_din (Nat.lt_of_le_of_lt (Nat.add_le_add_left (by decide) _) hr.units65) (ce_tup (ca_cons (ce_ix (ce_var 6) (ce_neg ce_int)) (ca_cons (ce_var 7) ca_nil))) (ce_var 0))))))) (fun P0 s H C cl fp => (ce_bin od_add (ce_var 6) (ce_tup (ca_cons (ce_var 7) ca_nil))))))) cs_nil))))))))
    (cs_one (cs_ret (ce_callB cd_sort T.z_sorted bo_sorted (ca_cons (ce_own 3) ca_nil))))))) (fun _ _ _ _ _ _ us hl => match us, hl with | [_, _, _], _ => rfl)).pure
theorem ok__law_onward (T : Txt K mg) : Glo P w K mg base "_law_onward" 2 3 [] (pureF C.g__law_onward) :=
  (glo_mk (O := []) (Oc := []) (W := []) (U := []) T.d__law_onward sc__law_onward (fun f cdv A outer s H E P0 hr => (cs_cons (cs_if (ct_w (cw_or (ct_not (ct_val (ce_isi isk_list T.z_isinstance T.z_list (ce_var 2) bo_isinstance bo_list))) (cw_or (ct_cmp (od_ne hr.units) (ce_callB cd_len T.z_len bo_len (ca_cons (ce_var 2) ca_nil)) (ce_var 1)) (cw_or1 (ct_not (ct_val (ce_callB (cd_all rfl) T.z_all bo_all (ca_cons (ce_comp rfl sc__law_onward.nd (ci_any (ce_var 2)) (blkOk_by (own := [("one", 5)]) (by kernel_rfl)) (fun P0 s H C cl fp => (cg_name 5 sc__law_onward.nd)) (fun s H C cl fp => cts_nil) (fun P0 s H C cl fp => (ce_call (ok__law_whole T) Out2.blk (hr.mono (by decide)) (ca_cons (ce_var 5) ca_nil) (alen_cons alen_nil)))) ca_nil)))))))) (cs_one (cs_ret ce_bl)) cs_nil)
    (cs_cons (cs_if (ct_cmp (od_ne hr.units) (ce_callB cd_sort T.z_sorted bo_sorted (ca_cons (ce_var 2) ca_nil)) (ce_lrg1 rfl T.z_list T.z_range (ce_var 1))) (cs_one (cs_ret ce_bl)) cs_nil)
    (cs_one (cs_ret (ce_cmp (od_eq hr.units) (ce_compK (i := 0) rfl sc__law_onward.nd (blkOk_by (own := [("j", 3), ("k", 4)]) (by kernel_rfl)) (fun P0 s H C cl fp => (cg_tup [3, 4] rfl (cgs_cons 3 sc__law_onward.nd (cgs_cons 4 sc__law_onward.nd cgs_nil)))) (fun s H C cl fp => (cts_one fun P0 => (ct_cmp od_ge (ce_index hr.units65 (ce_var 2) (ce_var 3)) (ce_index hr.units65 (ce_var 2) (ce_var 4))))) (fun P0 s H C cl fp => ce_int)) (ce_lst ca_nil))))))) (fun _ _ _ _ _ _ us hl => match us, hl with | [_, _, _], _ => rfl)).pure
theorem ok__law_first (T : Txt K mg) : Glo P w K mg base "_law_first" 1 2 [] (pureF C.g__law_first_2) :=
  (glo_mk (O := []) (Oc := [2, 3]) (W := []) (U := []) T.d__law_first sc__law_first (fun f cdv A outer s H E P0 hr => (cs_cons (cs_own (i := 2) sc__law_first.nd (ce_lst ca_nil))
    (cs_cons (cs_own (i := 3) sc__law_first.nd (ce_lrg1 rfl T.z_list T.z_range (ce_var 1)))
    (cs_cons (cs_while (vs := [4]) (passes_of rfl) (ct_cmp (od_ne hr.units) (ce_own 3) (ce_lst ca_nil)) (cs_cons (cs_asgLc (i := 4) rfl sc__law_first.nd rfl rfl (sw_true rfl rfl rfl (by decide +kernel)) (ci_any (ce_own 3)) (blkOk_by (own := [("k", 5)]) (by kernel_rfl)) (fun P0 s H C cl fp => (cg_name 5 sc__law_first.nd)) (fun s H C cl fp => (cts_one fun P0 => (ct_cmp (od_eq hr.units) (ce_comp rfl sc__law_first.nd (ci_any (ce_own 3)) (blkOk_by (own := [("j", 6)]) (by kernel_rfl)) (fun P0 s H C cl fp => (cg_name 6 sc__law_first.nd)) (fun s H C cl fp => (cts_one fun P0 => (ct_din (Nat.lt_of_le_of_lt (Nat.add_le_add_left (by decide) _) hr.units65) (ce_tup (ca_cons (ce_var 6) (ca_cons (ce_var 5) ca_nil))) (ce_var 0)))) (fun P0 s H C cl fp => (ce_var 6))) (ce_lst ca_nil)))) (fun P0 s H C cl fp => (ce_var 5)))
    (cs_cons (cs_if (ct_cmp (od_eq hr.units) (ce_var 4) (ce_lst ca_nil)) (cs_one (cs_ret ce_non)) cs_nil)
    (cs_cons (cs_append (i := 2) (ce_ix (ce_var 4) ce_int))
    (cs_one (cs_remove (i := 3) (ce_ix (ce_var 4) ce_int)))))))
    (cs_one (cs_ret (ce_own 2))))))) (fun _ _ _ _ _ _ us hl => match us, hl with | [_, _], _ => rfl)).pure
theorem ok__law_short (T : Txt K mg) : Glo P w K mg base "_law_short" 2 2 [] (pureF C.g__law_short) :=
  (glo_mk (O := []) (Oc := []) (W := []) (U := []) T.d__law_short sc__law_short (fun f cdv A outer s H E P0 hr => (cs_cons (cs_asg ce_int (cg_name 2 sc__law_short.nd))
    (cs_cons (cs_while (vs := []) (passes_of rfl) (ct_cmp (od_eq hr.units) (ce_call (ok__law_rings T) out2_body (hr.mono (by decide)) (ca_cons (ce_var 0) (ca_cons (ce_var 1) (ca_cons (ce_var 2) ca_nil))) (alen_cons (alen_cons (alen_cons alen_nil)))) (ce_lst ca_nil)) (cs_one (cs_asg (ce_bin od_add (ce_var 2) ce_int) (cg_name 2 sc__law_short.nd))))
    (cs_one (cs_ret (ce_ix (ce_call (ok__law_rings T) out2_body (hr.mono (by decide)) (ca_cons (ce_var 0) (ca_cons (ce_var 1) (ca_cons (ce_var 2) ca_nil))) (alen_cons (alen_cons (alen_cons alen_nil)))) ce_int)))))) (fun _ _ _ _ _ _ us hl => match us, hl with | [_, _], _ => rfl)).pure
theorem ok__law_good (T : Txt K mg) : Glo P w K mg base "_law_good" 3 3 [] (pureF C.g__law_good_3) :=
  (glo_mk (O := []) (Oc := []) (W := []) (U := []) T.d__law_good sc__law_good (fun f cdv A outer s H E P0 hr => (cs_cons (cs_if (ct_w (cw_or (ct_not (ct_val (ce_isi isk_tuple T.z_isinstance T.z_tuple (ce_var 0) bo_isinstance bo_tuple))) (cw_or1 (ct_cmp (od_ne hr.units) (ce_callB cd_len T.z_len bo_len (ca_cons (ce_var 0) ca_nil)) ce_int)))) (cs_one (cs_ret ce_bl)) cs_nil)
    (cs_cons (cs_asg (ce_call (ok__law_first T) out2_body (hr.mono (by decide)) (ca_cons (ce_var 1) (ca_cons (ce_var 2) ca_nil)) (alen_cons (alen_cons alen_nil))) (cg_name 3 sc__law_good.nd))
    (cs_cons (cs_if (ct_cmp od_is (ce_var 3) ce_non) (cs_cons (cs_asg (ce_call (ok__law_short T) out2_body (hr.mono (by decide)) (ca_cons (ce_var 1) (ca_cons (ce_var 2) ca_nil)) (alen_cons (alen_cons alen_nil))) (cg_name 4 sc__law_good.nd))
    (cs_one (cs_ret (ce_and (ce_isi isk_tuple T.z_isinstance T.z_tuple (ce_ix (ce_var 0) ce_int) bo_isinstance bo_tuple) (ce_and (ce_cmp (od_eq hr.units) (ce_var 0) (ce_tup (ca_cons ce_str (ca_cons (ce_var 4) ca_nil)))) (ce_one (ce_callB (cd_all rfl) T.z_all bo_all (ca_cons (ce_comp rfl sc__law_good.nd (ci_any (ce_ix (ce_var 0) ce_int)) (blkOk_by (own := [("one", 5)]) (by kernel_rfl)) (fun P0 s H C cl fp => (cg_name 5 sc__law_good.nd)) (fun s H C cl fp => cts_nil) (fun P0 s H C cl fp => (ce_call (ok__law_whole T) Out2.blk (hr.mono (by decide)) (ca_cons (ce_var 5) ca_nil) (alen_cons alen_nil)))) ca_nil)))))))) cs_nil)
    (cs_one (cs_ret (ce_and (ce_cmp (od_eq hr.units) (ce_var 0) (ce_tup (ca_cons ce_str (ca_cons (ce_var 3) ca_nil)))) (ce_one (ce_call (ok__law_onward T) out2_body (hr.mono (by decide)) (ca_cons (ce_var 1) (ca_cons (ce_var 2) (ca_cons (ce_ix (ce_var 0) ce_int) ca_nil))) (alen_cons (alen_cons (alen_cons alen_nil)))))))))))) (fun _ _ _ _ _ _ us hl => match us, hl with | [_, _, _], _ => rfl)).pure
theorem ok__law_one_more (T : Txt K mg) : Glo P w K mg base "_law_one_more" 2 2 [0] C.g__law_one_more :=
  (glo_mk (O := [0]) (Oc := [0]) (W := [0]) (U := [0]) T.d__law_one_more sc__law_one_more (fun f cdv A outer s H E P0 hr => (cs_cons (cs_asg (ce_callIO (ok__law_take T) [(0, 0)] out2_body (hr.mono (by decide)) (ca_cons (ce_own 0) (ca_cons (ce_callB cd_len T.z_len bo_len (ca_cons (ce_var 1) ca_nil)) ca_nil)) (alen_cons (alen_cons alen_nil))) (cg_name 2 sc__law_one_more.nd))
    (cs_cons (cs_if (ct_cmp (od_ne hr.units) (ce_callIO (ok__law_take T) [(0, 0)] out2_body (hr.mono (by decide)) (ca_cons (ce_own 0) (ca_cons ce_int ca_nil)) (alen_cons (alen_cons alen_nil))) ce_int) (cs_one (cs_ret (ce_var 1))) cs_nil)
    (cs_one (cs_ret (ce_bin od_add (ce_bin od_add (ce_slice (ce_var 1) co_none (co_some (ce_var 2))) (ce_tup (ca_cons (ce_tup (ca_cons (ce_tup (ca_cons (ce_callIO (ok__law_take T) [(0, 0)] out2_body (hr.mono (by decide)) (ca_cons (ce_own 0) (ca_cons (ce_callB cd_len T.z_len bo_len (ca_cons (ce_var 1) ca_nil)) ca_nil)) (alen_cons (alen_cons alen_nil))) ca_nil)) (ca_cons (ce_tup (ca_cons ce_int (ca_cons ce_int ca_nil))) ca_nil))) ca_nil))) (ce_slice (ce_var 1) (co_some (ce_bin od_add (ce_var 2) ce_int)) co_none))))))) (fun _ _ _ _ _ _ us hl => match us, hl with | [_, _], _ => rfl))
theorem ok_law (T : Txt K mg) {f : Addr} {fd : FuncData} (F : Fun K "law" "law" s_law f fd) : FnOk P w K mg base (L2N.CX P w) 44 f fd ["script"] (spD K mg 1 [] (pureF C.g_law_k24)) :=
  law_fn (Oc := [2]) (W := [2]) F sc_law (fun f cdv A outer s H E P0 hr => (cs_cons (cs_for (U' := []) (vs := [1, 2, 3, 4, 5]) (passes_of rfl) rfl (ci_range1 T.z_range (ca_cons (ce_callB (cd_max rfl) T.z_max bo_max (ca_cons ce_int (ca_cons (ce_callB (cd_min rfl) T.z_min bo_min (ca_cons (ce_callB cd_len T.z_len bo_len (ca_cons (ce_var 0) ca_nil)) (ca_cons ce_int ca_nil))) ca_nil))) ca_nil)) (cg_name 1 sc_law.nd) (cs_cons (cs_own (i := 2) sc_law.nd (ce_call (ok__law_box T) out2_body (hr.mono (by decide)) (ca_cons (ce_var 0) (ca_cons (ce_var 1) ca_nil)) (alen_cons (alen_cons alen_nil))))
    (cs_cons (cs_asg (ce_callIO (ok__law_one_more T) [(0, 2)] out2_body (hr.mono (by decide)) (ca_cons (ce_own 2) (ca_cons (ce_callIO (ok__law_drawn T) [(0, 2)] out2_body (hr.mono (by decide)) (ca_cons (ce_own 2) (ca_cons (ce_ix (ce_lst (ca_cons ce_int (ca_cons ce_int ca_nil))) (ce_callT cd_int T.z_int bo_int (ca_cons (ce_cmp (od_eq hr.units) (ce_callIO (ok__law_take T) [(0, 2)] out2_body (hr.mono (by decide)) (ca_cons (ce_own 2) (ca_cons ce_int ca_nil)) (alen_cons (alen_cons alen_nil))) ce_int) ca_nil))) ca_nil)) (alen_cons (alen_cons alen_nil))) ca_nil)) (alen_cons (alen_cons alen_nil))) (cg_name 3 sc_law.nd))
    (cs_cons (cs_asg (ce_call (ok__law_pairs T) out2_body (hr.mono (by decide)) (ca_cons (ce_var 3) ca_nil) (alen_cons alen_nil)) (cg_name 4 sc_law.nd))
    (cs_scr (i := 5) (tr := (trP (Str.ofString "order"))) (R := (rP (Str.ofString "order"))) (vs := []) (qs := []) sc_law.nd (ok_order_paper T) out2_body (hr.mono (by decide)) (ca_cons (ce_var 3) ca_nil) (alen_cons alen_nil) (ct_not (ct_val (ce_call (ok__law_good T) out2_body (hr.mono (by decide)) (ca_cons (ce_var 5) (ca_cons (ce_var 4) (ca_cons (ce_callB cd_len T.z_len bo_len (ca_cons (ce_var 3) ca_nil)) ca_nil))) (alen_cons (alen_cons (alen_cons alen_nil)))))) ce_bl rdyP
    (ts_clearIf (i := 5) hr.units (by decide +kernel) rfl (by first | exact Or.inl rfl | exact Or.inr (Or.inl rfl) | exact Or.inr (Or.inr rfl)) (by decide) (by decide) (tm_clear (i := 5) (kI := 1) rfl (by first | exact Or.inl rfl | exact Or.inr (Or.inl rfl) | exact Or.inr (Or.inr rfl)) (by decide) (by decide)) (cs_one (cs_if (ct_not (ct_val (ce_call (ok__law_good T) out2_body (hr.mono (by decide)) (ca_cons (ce_call (ok_order_paper T) out2_body (hr.mono (by decide)) (ca_cons (ce_var 3) ca_nil) (alen_cons alen_nil)) (ca_cons (ce_var 4) (ca_cons (ce_callB cd_len T.z_len bo_len (ca_cons (ce_var 3) ca_nil)) ca_nil))) (alen_cons (alen_cons (alen_cons alen_nil)))))) (cs_one (cs_ret ce_bl)) cs_nil))))))))
    (cs_one (cs_ret ce_bl))))
end
end K24

namespace K24
theorem good_law : Y.Good C.g_law_k24 63 := H.good_k24
end K24

namespace K24
open PySem PySem.Spec PyProof.Rows L2 Y
theorem all {l : PySem.W.OpenLaw} {w : World} {K : PySem.W.Frag} {h : Heap} {mg : Str → Option Value} {fa : Addr} (X : K.In h) (G : h.Ns mainGlobals mg) (hfa : mg "law" = some (.ref fa)) (hg : Good C.g_law_k24 63)
{f0 : Addr} {od0 an0 : Option Addr} {sl0 : Array (Option Value)} {oc0 kV0 dc0 pm0 cd0 ct0 : Value}
    (a0 : PySem.W.nsIn K mainGlobals "stands_of" = some (some (.ref f0))) (l0 : K.lookup f0 = some ⟨oc0, od0, .func (PySem.W.fnOf "stands_of" "stands_of" (defArgs s_stands_of) (defBody s_stands_of) (defScope s_stands_of) .none kV0 dc0 pm0 an0 cd0 ct0), sl0⟩) (c0 : PySem.W.codeIn K cd0 "stands_of" = true) (k0 : PySem.W.keepIn K (.ref f0) = true)
{f1 : Addr} {od1 an1 : Option Addr} {sl1 : Array (Option Value)} {oc1 kV1 dc1 pm1 cd1 ct1 : Value}
    (a1 : PySem.W.nsIn K mainGlobals "place_of" = some (some (.ref f1))) (l1 : K.lookup f1 = some ⟨oc1, od1, .func (PySem.W.fnOf "place_of" "place_of" (defArgs s_place_of) (defBody s_place_of) (defScope s_place_of) .none kV1 dc1 pm1 an1 cd1 ct1), sl1⟩) (c1 : PySem.W.codeIn K cd1 "place_of" = true) (k1 : PySem.W.keepIn K (.ref f1) = true)
{f2 : Addr} {od2 an2 : Option Addr} {sl2 : Array (Option Value)} {oc2 kV2 dc2 pm2 cd2 ct2 : Value}
    (a2 : PySem.W.nsIn K mainGlobals "with_bit" = some (some (.ref f2))) (l2 : K.lookup f2 = some ⟨oc2, od2, .func (PySem.W.fnOf "with_bit" "with_bit" (defArgs s_with_bit) (defBody s_with_bit) (defScope s_with_bit) .none kV2 dc2 pm2 an2 cd2 ct2), sl2⟩) (c2 : PySem.W.codeIn K cd2 "with_bit" = true) (k2 : PySem.W.keepIn K (.ref f2) = true)
{f3 : Addr} {od3 an3 : Option Addr} {sl3 : Array (Option Value)} {oc3 kV3 dc3 pm3 cd3 ct3 : Value}
    (a3 : PySem.W.nsIn K mainGlobals "in_rows" = some (some (.ref f3))) (l3 : K.lookup f3 = some ⟨oc3, od3, .func (PySem.W.fnOf "in_rows" "in_rows" (defArgs s_in_rows) (defBody s_in_rows) (defScope s_in_rows) .none kV3 dc3 pm3 an3 cd3 ct3), sl3⟩) (c3 : PySem.W.codeIn K cd3 "in_rows" = true) (k3 : PySem.W.keepIn K (.ref f3) = true)
{f4 : Addr} {od4 an4 : Option Addr} {sl4 : Array (Option Value)} {oc4 kV4 dc4 pm4 cd4 ct4 : Value}
    (a4 : PySem.W.nsIn K mainGlobals "told_at" = some (some (.ref f4))) (l4 : K.lookup f4 = some ⟨oc4, od4, .func (PySem.W.fnOf "told_at" "told_at" (defArgs s_told_at) (defBody s_told_at) (defScope s_told_at) .none kV4 dc4 pm4 an4 cd4 ct4), sl4⟩) (c4 : PySem.W.codeIn K cd4 "told_at" = true) (k4 : PySem.W.keepIn K (.ref f4) = true)
{f5 : Addr} {od5 an5 : Option Addr} {sl5 : Array (Option Value)} {oc5 kV5 dc5 pm5 cd5 ct5 : Value}
    (a5 : PySem.W.nsIn K mainGlobals "signs_at" = some (some (.ref f5))) (l5 : K.lookup f5 = some ⟨oc5, od5, .func (PySem.W.fnOf "signs_at" "signs_at" (defArgs s_signs_at) (defBody s_signs_at) (defScope s_signs_at) .none kV5 dc5 pm5 an5 cd5 ct5), sl5⟩) (c5 : PySem.W.codeIn K cd5 "signs_at" = true) (k5 : PySem.W.keepIn K (.ref f5) = true)
{f6 : Addr} {od6 an6 : Option Addr} {sl6 : Array (Option Value)} {oc6 kV6 dc6 pm6 cd6 ct6 : Value}
    (a6 : PySem.W.nsIn K mainGlobals "wires_of" = some (some (.ref f6))) (l6 : K.lookup f6 = some ⟨oc6, od6, .func (PySem.W.fnOf "wires_of" "wires_of" (defArgs s_wires_of) (defBody s_wires_of) (defScope s_wires_of) .none kV6 dc6 pm6 an6 cd6 ct6), sl6⟩) (c6 : PySem.W.codeIn K cd6 "wires_of" = true) (k6 : PySem.W.keepIn K (.ref f6) = true)
{f7 : Addr} {od7 an7 : Option Addr} {sl7 : Array (Option Value)} {oc7 kV7 dc7 pm7 cd7 ct7 : Value}
    (a7 : PySem.W.nsIn K mainGlobals "signs_between" = some (some (.ref f7))) (l7 : K.lookup f7 = some ⟨oc7, od7, .func (PySem.W.fnOf "signs_between" "signs_between" (defArgs s_signs_between) (defBody s_signs_between) (defScope s_signs_between) .none kV7 dc7 pm7 an7 cd7 ct7), sl7⟩) (c7 : PySem.W.codeIn K cd7 "signs_between" = true) (k7 : PySem.W.keepIn K (.ref f7) = true)
{f8 : Addr} {od8 an8 : Option Addr} {sl8 : Array (Option Value)} {oc8 kV8 dc8 pm8 cd8 ct8 : Value}
    (a8 : PySem.W.nsIn K mainGlobals "steps_round" = some (some (.ref f8))) (l8 : K.lookup f8 = some ⟨oc8, od8, .func (PySem.W.fnOf "steps_round" "steps_round" (defArgs s_steps_round) (defBody s_steps_round) (defScope s_steps_round) .none kV8 dc8 pm8 an8 cd8 ct8), sl8⟩) (c8 : PySem.W.codeIn K cd8 "steps_round" = true) (k8 : PySem.W.keepIn K (.ref f8) = true)
{f9 : Addr} {od9 an9 : Option Addr} {sl9 : Array (Option Value)} {oc9 kV9 dc9 pm9 cd9 ct9 : Value}
    (a9 : PySem.W.nsIn K mainGlobals "is_round" = some (some (.ref f9))) (l9 : K.lookup f9 = some ⟨oc9, od9, .func (PySem.W.fnOf "is_round" "is_round" (defArgs s_is_round) (defBody s_is_round) (defScope s_is_round) .none kV9 dc9 pm9 an9 cd9 ct9), sl9⟩) (c9 : PySem.W.codeIn K cd9 "is_round" = true) (k9 : PySem.W.keepIn K (.ref f9) = true)
{f10 : Addr} {od10 an10 : Option Addr} {sl10 : Array (Option Value)} {oc10 kV10 dc10 pm10 cd10 ct10 : Value}
    (a10 : PySem.W.nsIn K mainGlobals "rings_with" = some (some (.ref f10))) (l10 : K.lookup f10 = some ⟨oc10, od10, .func (PySem.W.fnOf "rings_with" "rings_with" (defArgs s_rings_with) (defBody s_rings_with) (defScope s_rings_with) .none kV10 dc10 pm10 an10 cd10 ct10), sl10⟩) (c10 : PySem.W.codeIn K cd10 "rings_with" = true) (k10 : PySem.W.keepIn K (.ref f10) = true)
{f11 : Addr} {od11 an11 : Option Addr} {sl11 : Array (Option Value)} {oc11 kV11 dc11 pm11 cd11 ct11 : Value}
    (a11 : PySem.W.nsIn K mainGlobals "next_free" = some (some (.ref f11))) (l11 : K.lookup f11 = some ⟨oc11, od11, .func (PySem.W.fnOf "next_free" "next_free" (defArgs s_next_free) (defBody s_next_free) (defScope s_next_free) .none kV11 dc11 pm11 an11 cd11 ct11), sl11⟩) (c11 : PySem.W.codeIn K cd11 "next_free" = true) (k11 : PySem.W.keepIn K (.ref f11) = true)
{f12 : Addr} {od12 an12 : Option Addr} {sl12 : Array (Option Value)} {oc12 kV12 dc12 pm12 cd12 ct12 : Value}
    (a12 : PySem.W.nsIn K mainGlobals "order_paper" = some (some (.ref f12))) (l12 : K.lookup f12 = some ⟨oc12, od12, .func (PySem.W.fnOf "order_paper" "order_paper" (defArgs s_order_paper) (defBody s_order_paper) (defScope s_order_paper) .none kV12 dc12 pm12 an12 cd12 ct12), sl12⟩) (c12 : PySem.W.codeIn K cd12 "order_paper" = true) (k12 : PySem.W.keepIn K (.ref f12) = true)
{f13 : Addr} {od13 an13 : Option Addr} {sl13 : Array (Option Value)} {oc13 kV13 dc13 pm13 cd13 ct13 : Value}
    (a13 : PySem.W.nsIn K mainGlobals "_law_cell" = some (some (.ref f13))) (l13 : K.lookup f13 = some ⟨oc13, od13, .func (PySem.W.fnOf "_law_cell" "_law_cell" (defArgs s__law_cell) (defBody s__law_cell) (defScope s__law_cell) .none kV13 dc13 pm13 an13 cd13 ct13), sl13⟩) (c13 : PySem.W.codeIn K cd13 "_law_cell" = true) (k13 : PySem.W.keepIn K (.ref f13) = true)
{f14 : Addr} {od14 an14 : Option Addr} {sl14 : Array (Option Value)} {oc14 kV14 dc14 pm14 cd14 ct14 : Value}
    (a14 : PySem.W.nsIn K mainGlobals "_law_box" = some (some (.ref f14))) (l14 : K.lookup f14 = some ⟨oc14, od14, .func (PySem.W.fnOf "_law_box" "_law_box" (defArgs s__law_box) (defBody s__law_box) (defScope s__law_box) .none kV14 dc14 pm14 an14 cd14 ct14), sl14⟩) (c14 : PySem.W.codeIn K cd14 "_law_box" = true) (k14 : PySem.W.keepIn K (.ref f14) = true)
{f15 : Addr} {od15 an15 : Option Addr} {sl15 : Array (Option Value)} {oc15 kV15 dc15 pm15 cd15 ct15 : Value}
    (a15 : PySem.W.nsIn K mainGlobals "_law_take" = some (some (.ref f15))) (l15 : K.lookup f15 = some ⟨oc15, od15, .func (PySem.W.fnOf "_law_take" "_law_take" (defArgs s__law_take) (defBody s__law_take) (defScope s__law_take) .none kV15 dc15 pm15 an15 cd15 ct15), sl15⟩) (c15 : PySem.W.codeIn K cd15 "_law_take" = true) (k15 : PySem.W.keepIn K (.ref f15) = true)
{f16 : Addr} {od16 an16 : Option Addr} {sl16 : Array (Option Value)} {oc16 kV16 dc16 pm16 cd16 ct16 : Value}
    (a16 : PySem.W.nsIn K mainGlobals "_law_readings" = some (some (.ref f16))) (l16 : K.lookup f16 = some ⟨oc16, od16, .func (PySem.W.fnOf "_law_readings" "_law_readings" (defArgs s__law_readings) (defBody s__law_readings) (defScope s__law_readings) .none kV16 dc16 pm16 an16 cd16 ct16), sl16⟩) (c16 : PySem.W.codeIn K cd16 "_law_readings" = true) (k16 : PySem.W.keepIn K (.ref f16) = true)
{f17 : Addr} {od17 an17 : Option Addr} {sl17 : Array (Option Value)} {oc17 kV17 dc17 pm17 cd17 ct17 : Value}
    (a17 : PySem.W.nsIn K mainGlobals "_law_rule" = some (some (.ref f17))) (l17 : K.lookup f17 = some ⟨oc17, od17, .func (PySem.W.fnOf "_law_rule" "_law_rule" (defArgs s__law_rule) (defBody s__law_rule) (defScope s__law_rule) .none kV17 dc17 pm17 an17 cd17 ct17), sl17⟩) (c17 : PySem.W.codeIn K cd17 "_law_rule" = true) (k17 : PySem.W.keepIn K (.ref f17) = true)
{f18 : Addr} {od18 an18 : Option Addr} {sl18 : Array (Option Value)} {oc18 kV18 dc18 pm18 cd18 ct18 : Value}
    (a18 : PySem.W.nsIn K mainGlobals "_law_drawn" = some (some (.ref f18))) (l18 : K.lookup f18 = some ⟨oc18, od18, .func (PySem.W.fnOf "_law_drawn" "_law_drawn" (defArgs s__law_drawn) (defBody s__law_drawn) (defScope s__law_drawn) .none kV18 dc18 pm18 an18 cd18 ct18), sl18⟩) (c18 : PySem.W.codeIn K cd18 "_law_drawn" = true) (k18 : PySem.W.keepIn K (.ref f18) = true)
{f19 : Addr} {od19 an19 : Option Addr} {sl19 : Array (Option Value)} {oc19 kV19 dc19 pm19 cd19 ct19 : Value}
    (a19 : PySem.W.nsIn K mainGlobals "_law_told" = some (some (.ref f19))) (l19 : K.lookup f19 = some ⟨oc19, od19, .func (PySem.W.fnOf "_law_told" "_law_told" (defArgs s__law_told) (defBody s__law_told) (defScope s__law_told) .none kV19 dc19 pm19 an19 cd19 ct19), sl19⟩) (c19 : PySem.W.codeIn K cd19 "_law_told" = true) (k19 : PySem.W.keepIn K (.ref f19) = true)
{f20 : Addr} {od20 an20 : Option Addr} {sl20 : Array (Option Value)} {oc20 kV20 dc20 pm20 cd20 ct20 : Value}
    (a20 : PySem.W.nsIn K mainGlobals "_law_whole" = some (some (.ref f20))) (l20 : K.lookup f20 = some ⟨oc20, od20, .func (PySem.W.fnOf "_law_whole" "_law_whole" (defArgs s__law_whole) (defBody s__law_whole) (defScope s__law_whole) .none kV20 dc20 pm20 an20 cd20 ct20), sl20⟩) (c20 : PySem.W.codeIn K cd20 "_law_whole" = true) (k20 : PySem.W.keepIn K (.ref f20) = true)
{f21 : Addr} {od21 an21 : Option Addr} {sl21 : Array (Option Value)} {oc21 kV21 dc21 pm21 cd21 ct21 : Value}
    (a21 : PySem.W.nsIn K mainGlobals "_law_wires" = some (some (.ref f21))) (l21 : K.lookup f21 = some ⟨oc21, od21, .func (PySem.W.fnOf "_law_wires" "_law_wires" (defArgs s__law_wires) (defBody s__law_wires) (defScope s__law_wires) .none kV21 dc21 pm21 an21 cd21 ct21), sl21⟩) (c21 : PySem.W.codeIn K cd21 "_law_wires" = true) (k21 : PySem.W.keepIn K (.ref f21) = true)
{f22 : Addr} {od22 an22 : Option Addr} {sl22 : Array (Option Value)} {oc22 kV22 dc22 pm22 cd22 ct22 : Value}
    (a22 : PySem.W.nsIn K mainGlobals "_law_pairs" = some (some (.ref f22))) (l22 : K.lookup f22 = some ⟨oc22, od22, .func (PySem.W.fnOf "_law_pairs" "_law_pairs" (defArgs s__law_pairs) (defBody s__law_pairs) (defScope s__law_pairs) .none kV22 dc22 pm22 an22 cd22 ct22), sl22⟩) (c22 : PySem.W.codeIn K cd22 "_law_pairs" = true) (k22 : PySem.W.keepIn K (.ref f22) = true)
{f23 : Addr} {od23 an23 : Option Addr} {sl23 : Array (Option Value)} {oc23 kV23 dc23 pm23 cd23 ct23 : Value}
    (a23 : PySem.W.nsIn K mainGlobals "_law_rings" = some (some (.ref f23))) (l23 : K.lookup f23 = some ⟨oc23, od23, .func (PySem.W.fnOf "_law_rings" "_law_rings" (defArgs s__law_rings) (defBody s__law_rings) (defScope s__law_rings) .none kV23 dc23 pm23 an23 cd23 ct23), sl23⟩) (c23 : PySem.W.codeIn K cd23 "_law_rings" = true) (k23 : PySem.W.keepIn K (.ref f23) = true)
{f24 : Addr} {od24 an24 : Option Addr} {sl24 : Array (Option Value)} {oc24 kV24 dc24 pm24 cd24 ct24 : Value}
    (a24 : PySem.W.nsIn K mainGlobals "_law_onward" = some (some (.ref f24))) (l24 : K.lookup f24 = some ⟨oc24, od24, .func (PySem.W.fnOf "_law_onward" "_law_onward" (defArgs s__law_onward) (defBody s__law_onward) (defScope s__law_onward) .none kV24 dc24 pm24 an24 cd24 ct24), sl24⟩) (c24 : PySem.W.codeIn K cd24 "_law_onward" = true) (k24 : PySem.W.keepIn K (.ref f24) = true)
{f25 : Addr} {od25 an25 : Option Addr} {sl25 : Array (Option Value)} {oc25 kV25 dc25 pm25 cd25 ct25 : Value}
    (a25 : PySem.W.nsIn K mainGlobals "_law_first" = some (some (.ref f25))) (l25 : K.lookup f25 = some ⟨oc25, od25, .func (PySem.W.fnOf "_law_first" "_law_first" (defArgs s__law_first) (defBody s__law_first) (defScope s__law_first) .none kV25 dc25 pm25 an25 cd25 ct25), sl25⟩) (c25 : PySem.W.codeIn K cd25 "_law_first" = true) (k25 : PySem.W.keepIn K (.ref f25) = true)
{f26 : Addr} {od26 an26 : Option Addr} {sl26 : Array (Option Value)} {oc26 kV26 dc26 pm26 cd26 ct26 : Value}
    (a26 : PySem.W.nsIn K mainGlobals "_law_short" = some (some (.ref f26))) (l26 : K.lookup f26 = some ⟨oc26, od26, .func (PySem.W.fnOf "_law_short" "_law_short" (defArgs s__law_short) (defBody s__law_short) (defScope s__law_short) .none kV26 dc26 pm26 an26 cd26 ct26), sl26⟩) (c26 : PySem.W.codeIn K cd26 "_law_short" = true) (k26 : PySem.W.keepIn K (.ref f26) = true)
{f27 : Addr} {od27 an27 : Option Addr} {sl27 : Array (Option Value)} {oc27 kV27 dc27 pm27 cd27 ct27 : Value}
    (a27 : PySem.W.nsIn K mainGlobals "_law_good" = some (some (.ref f27))) (l27 : K.lookup f27 = some ⟨oc27, od27, .func (PySem.W.fnOf "_law_good" "_law_good" (defArgs s__law_good) (defBody s__law_good) (defScope s__law_good) .none kV27 dc27 pm27 an27 cd27 ct27), sl27⟩) (c27 : PySem.W.codeIn K cd27 "_law_good" = true) (k27 : PySem.W.keepIn K (.ref f27) = true)
{f28 : Addr} {od28 an28 : Option Addr} {sl28 : Array (Option Value)} {oc28 kV28 dc28 pm28 cd28 ct28 : Value}
    (a28 : PySem.W.nsIn K mainGlobals "_law_one_more" = some (some (.ref f28))) (l28 : K.lookup f28 = some ⟨oc28, od28, .func (PySem.W.fnOf "_law_one_more" "_law_one_more" (defArgs s__law_one_more) (defBody s__law_one_more) (defScope s__law_one_more) .none kV28 dc28 pm28 an28 cd28 ct28), sl28⟩) (c28 : PySem.W.codeIn K cd28 "_law_one_more" = true) (k28 : PySem.W.keepIn K (.ref f28) = true)
{f29 : Addr} {od29 an29 : Option Addr} {sl29 : Array (Option Value)} {oc29 kV29 dc29 pm29 cd29 ct29 : Value}
    (a29 : PySem.W.nsIn K mainGlobals "law" = some (some (.ref f29))) (l29 : K.lookup f29 = some ⟨oc29, od29, .func (PySem.W.fnOf "law" "law" (defArgs s_law) (defBody s_law) (defScope s_law) .none kV29 dc29 pm29 an29 cd29 ct29), sl29⟩) (c29 : PySem.W.codeIn K cd29 "law" = true) (k29 : PySem.W.keepIn K (.ref f29) = true)
    (z0 : PySem.W.nsIn K mainGlobals "all" = some none)
    (z1 : PySem.W.nsIn K mainGlobals "any" = some none)
    (z2 : PySem.W.nsIn K mainGlobals "bool" = some none)
    (z3 : PySem.W.nsIn K mainGlobals "enumerate" = some none)
    (z4 : PySem.W.nsIn K mainGlobals "int" = some none)
    (z5 : PySem.W.nsIn K mainGlobals "isinstance" = some none)
    (z6 : PySem.W.nsIn K mainGlobals "len" = some none)
    (z7 : PySem.W.nsIn K mainGlobals "list" = some none)
    (z8 : PySem.W.nsIn K mainGlobals "max" = some none)
    (z9 : PySem.W.nsIn K mainGlobals "min" = some none)
    (z10 : PySem.W.nsIn K mainGlobals "range" = some none)
    (z11 : PySem.W.nsIn K mainGlobals "sorted" = some none)
    (z12 : PySem.W.nsIn K mainGlobals "tuple" = some none)
    (z13 : PySem.W.nsIn K mainGlobals "zip" = some none)
    : ∃ fd : FuncData, (∀ (s : Shared) (u : Value), BindsTo s fd ⟨[u], []⟩ [("script", u)]) ∧ ∀ base : Heap, K.In base → base.Ns mainGlobals mg → FnOk l.prog w K mg base (L2N.CX l.prog w) 44 fa fd ["script"] (spL K 63) :=
  have T : Txt K mg := ⟨def_mk X G a0 l0 c0 k0, def_mk X G a1 l1 c1 k1, def_mk X G a2 l2 c2 k2, def_mk X G a3 l3 c3 k3, def_mk X G a4 l4 c4 k4, def_mk X G a5 l5 c5 k5, def_mk X G a6 l6 c6 k6, def_mk X G a7 l7 c7 k7, def_mk X G a8 l8 c8 k8, def_mk X G a9 l9 c9 k9, def_mk X G a10 l10 c10 k10, def_mk X G a11 l11 c11 k11, def_mk X G a12 l12 c12 k12, def_mk X G a13 l13 c13 k13, def_mk X G a14 l14 c14 k14, def_mk X G a15 l15 c15 k15, def_mk X G a16 l16 c16 k16, def_mk X G a17 l17 c17 k17, def_mk X G a18 l18 c18 k18, def_mk X G a19 l19 c19 k19, def_mk X G a20 l20 c20 k20, def_mk X G a21 l21 c21 k21, def_mk X G a22 l22 c22 k22, def_mk X G a23 l23 c23 k23, def_mk X G a24 l24 c24 k24, def_mk X G a25 l25 c25 k25, def_mk X G a26 l26 c26 k26, def_mk X G a27 l27 c27 k27, def_mk X G a28 l28 c28 k28, PySem.W.mg_none_of X G z0, PySem.W.mg_none_of X G z1, PySem.W.mg_none_of X G z2, PySem.W.mg_none_of X G z3, PySem.W.mg_none_of X G z4, PySem.W.mg_none_of X G z5, PySem.W.mg_none_of X G z6, PySem.W.mg_none_of X G z7, PySem.W.mg_none_of X G z8, PySem.W.mg_none_of X G z9, PySem.W.mg_none_of X G z10, PySem.W.mg_none_of X G z11, PySem.W.mg_none_of X G z12, PySem.W.mg_none_of X G z13⟩
  law_all X G hfa hg (fun base {f} {fd} F => ok_law T F) (fun _ _ _ _ _ _ s u => .of_eq rfl) a29 l29 c29 k29
end K24
open PySem PySem.W PyProof.Rows
set_option maxHeartbeats 0 in
theorem PySem.Challenge.cw_switchnets_k24_order_papers_told_holds : PySem.Challenge.rw_switchnets_k24_order_papers_told.Holds := by
  w_on; o_law; k_head; (case hw => w_witness2)
  k_fill
  refine L2.walk_ofB (l := PySem.Challenge.rw_switchnets_k24_order_papers_told) (n := 63) (k := 44) (x := "script") (CX := fun w => L2N.CX PySem.Challenge.rw_switchnets_k24_order_papers_told.prog w) (sp := fun w => Y.spL _ 63) rfl (by decide) rfl ⟨rfl, by decide, by decide⟩ (fun w h Z => PySem.W.kIn_of Z) ?F (fun _ _ a ns hl hb _ hS => ⟨a, ns, rfl, hS, hl, hb, fun _ => rfl⟩) (fun _ _ _ _ _ h => Y.cx_none h)
  case F =>
    intro w mg fa h KX G hmg
    refine' K24.all KX G hmg K24.good_law ?a0 ?l0 ?c0 ?k0 ?a1 ?l1 ?c1 ?k1 ?a2 ?l2 ?c2 ?k2 ?a3 ?l3 ?c3 ?k3 ?a4 ?l4 ?c4 ?k4 ?a5 ?l5 ?c5 ?k5 ?a6 ?l6 ?c6 ?k6 ?a7 ?l7 ?c7 ?k7 ?a8 ?l8 ?c8 ?k8 ?a9 ?l9 ?c9 ?k9 ?a10 ?l10 ?c10 ?k10 ?a11 ?l11 ?c11 ?k11 ?a12 ?l12 ?c12 ?k12 ?a13 ?l13 ?c13 ?k13 ?a14 ?l14 ?c14 ?k14 ?a15 ?l15 ?c15 ?k15 ?a16 ?l16 ?c16 ?k16 ?a17 ?l17 ?c17 ?k17 ?a18 ?l18 ?c18 ?k18 ?a19 ?l19 ?c19 ?k19 ?a20 ?l20 ?c20 ?k20 ?a21 ?l21 ?c21 ?k21 ?a22 ?l22 ?c22 ?k22 ?a23 ?l23 ?c23 ?k23 ?a24 ?l24 ?c24 ?k24 ?a25 ?l25 ?c25 ?k25 ?a26 ?l26 ?c26 ?k26 ?a27 ?l27 ?c27 ?k27 ?a28 ?l28 ?c28 ?k28 ?a29 ?l29 ?c29 ?k29 ?z0 ?z1 ?z2 ?z3 ?z4 ?z5 ?z6 ?z7 ?z8 ?z9 ?z10 ?z11 ?z12 ?z13
    (case a0 => k_is); (case l0 => k_is); (case c0 => k_is); (case k0 => k_is); (case a1 => k_is); (case l1 => k_is); (case c1 => k_is); (case k1 => k_is); (case a2 => k_is); (case l2 => k_is); (case c2 => k_is); (case k2 => k_is); (case a3 => k_is); (case l3 => k_is); (case c3 => k_is); (case k3 => k_is); (case a4 => k_is); (case l4 => k_is); (case c4 => k_is); (case k4 => k_is); (case a5 => k_is); (case l5 => k_is); (case c5 => k_is); (case k5 => k_is); (case a6 => k_is); (case l6 => k_is); (case c6 => k_is); (case k6 => k_is); (case a7 => k_is); (case l7 => k_is); (case c7 => k_is); (case k7 => k_is); (case a8 => k_is); (case l8 => k_is); (case c8 => k_is); (case k8 => k_is); (case a9 => k_is); (case l9 => k_is); (case c9 => k_is); (case k9 => k_is); (case a10 => k_is); (case l10 => k_is); (case c10 => k_is); (case k10 => k_is); (case a11 => k_is); (case l11 => k_is); (case c11 => k_is); (case k11 => k_is); (case a12 => k_is); (case l12 => k_is); (case c12 => k_is); (case k12 => k_is); (case a13 => k_is); (case l13 => k_is); (case c13 => k_is); (case k13 => k_is); (case a14 => k_is); (case l14 => k_is); (case c14 => k_is); (case k14 => k_is); (case a15 => k_is); (case l15 => k_is); (case c15 => k_is); (case k15 => k_is); (case a16 => k_is); (case l16 => k_is); (case c16 => k_is); (case k16 => k_is); (case a17 => k_is); (case l17 => k_is); (case c17 => k_is); (case k17 => k_is); (case a18 => k_is); (case l18 => k_is); (case c18 => k_is); (case k18 => k_is); (case a19 => k_is); (case l19 => k_is); (case c19 => k_is); (case k19 => k_is); (case a20 => k_is); (case l20 => k_is); (case c20 => k_is); (case k20 => k_is); (case a21 => k_is); (case l21 => k_is); (case c21 => k_is); (case k21 => k_is); (case a22 => k_is); (case l22 => k_is); (case c22 => k_is); (case k22 => k_is); (case a23 => k_is); (case l23 => k_is); (case c23 => k_is); (case k23 => k_is); (case a24 => k_is); (case l24 => k_is); (case c24 => k_is); (case k24 => k_is); (case a25 => k_is); (case l25 => k_is); (case c25 => k_is); (case k25 => k_is); (case a26 => k_is); (case l26 => k_is); (case c26 => k_is); (case k26 => k_is); (case a27 => k_is); (case l27 => k_is); (case c27 => k_is); (case k27 => k_is); (case a28 => k_is); (case l28 => k_is); (case c28 => k_is); (case k28 => k_is); (case a29 => k_is); (case l29 => k_is); (case c29 => k_is); (case k29 => k_is); (case z0 => k_is); (case z1 => k_is); (case z2 => k_is); (case z3 => k_is); (case z4 => k_is); (case z5 => k_is); (case z6 => k_is); (case z7 => k_is); (case z8 => k_is); (case z9 => k_is); (case z10 => k_is); (case z11 => k_is); (case z12 => k_is); (case z13 => k_is)

