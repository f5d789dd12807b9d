import PyProof.Rows.All
import Wide.All
import OpenK.AllK
import Wide.FinOn
import HandS.ForMost
import HandS.TupAny
import HandS.Wide
import HandS.IsInst
import HandS.Deep
import HandS.Flow
import HandS.TupMul
import HandS.TupLe
import HandS.TupLen
import HandS.SortOrd
import HandS.SortInts
import HandS.Walk
import HandS.Zip
import HandS.ForExc
import HandS.EndBits
import HandS.ExcCtx
import HandS.HotCalls
import HandS.Conv
import HandS.SortRule
import KE.KSortTup
import PyProof.Rows.SortShell
import PyProof.Rows.SortShellAny
import HandS.Text
import PyProof.AutoSeq1
import KE.GoesZip
import KE.GoesMore
import KE.GoesEnum
import HandS.ExcIs
import HandS.SetFor
import HandS.Strs
import HandS.Replace
import KE.KRevSl
import HandS.Dict
import HandS.Iter
import KE.KDictWalk
import KE.KEqDict
import KE.KDictSum
import KE.KDictCopyH
import HandS.More
import KE.SortData
import KE.KDictDisplayH
import HandS.SetKeys
import PyProof.WalksMore
import PyProof.SumAny
import KE.KDictZip
import KE.KDictItemsList
import HandS.ListItems
import KE.DataMinMax
import KE.KDictKeyed
import KE.KDictList
import KE.KTupSum
import HandS.Rev
import HandS.TupSets
import PySem.Challenge.RW_switchnets_k27_whole_rings_and_dens
set_option Elab.async false
set_option linter.all false
set_option maxRecDepth 100000
namespace Y
open PySem PySem.Spec PyProof.Rows L2
abbrev St := L2.St

/-- data at any depth; lists, dicts by what they hold; arg: the script -/
inductive D where
  | non | bl (b : Bool) | int (i : Int) | str (x : Str) | tup (xs : List D) | lst (xs : List D)
  | arg (ns : List Int) | dik (ks : List Key) (ds : List D) | dit (ks : List (List Key)) (ds : List D)
instance : Inhabited D := ⟨.non⟩
/-- a way of a run: an end, an exception of the program's own, anything else -/
inductive R (α : Type) where
  | ok (a : α) | er (c : Str) (ds : List D) | stk
@[simp] def R.bind {α β : Type} : R α → (α → R β) → R β
  | .ok a, f => f a
  | .er c ds, _ => .er c ds
  | .stk, _ => .stk
instance : Monad R where
  pure := .ok
  bind := R.bind
@[simp] theorem R.bind_ok {α β : Type} (a : α) (f : α → R β) : (R.ok a >>= f) = f a := id rfl
@[simp] theorem R.bind_stk {α β : Type} (f : α → R β) : ((R.stk : R α) >>= f) = .stk := id rfl
@[simp] theorem R.bind_er {α β : Type} (c : Str) (ds : List D) (f : α → R β) : ((R.er c ds : R α) >>= f) = .er c ds := id rfl
@[simp] theorem R.pure_eq {α : Type} (a : α) : (pure a : R α) = .ok a := id rfl
/-- the names' data by slot -/
abbrev Env := List (Option D)
/-- what an expression hands on: new data, data, or the object of an own slot -/
inductive Hd where
  | fr (d : D) | vl (d : D) | ow (i : Nat)
abbrev EM := Env → R (Hd × Env)
def look (i : Nat) (ρ : Env) : R D := match ρ[i]? with
  | some (some d) => .ok d
  | _ => .stk
def Hd.d : Hd → Env → R D
  | .fr d, _ => .ok d
  | .vl d, _ => .ok d
  | .ow i, ρ => look i ρ
def Hd.v : Hd → R D
  | .fr d => .ok d
  | .vl d => .ok d
  | .ow _ => .stk
def D.isMu : D → Bool
  | .lst _ => true
  | .dik _ _ => true
  | .dit _ _ => true
  | .arg _ => true
  | _ => false

abbrev Pr := Addr → Prop
mutual
/-- v is d, over objects none of which is forbidden (tuples never change: they may be any) -/
def Rep (K : PySem.W.Frag) (H : Hp) : D → Pr → V → Prop
  | .non, _, v => v = .non
  | .bl b, _, v => v = .bl b
  | .int i, _, v => v = .int i
  | .str x, _, v => v = .str x
  | .tup ds, P, v => ∃ a vs, v = .ref a ∧ H a = some (.tup vs) ∧ Reps K H ds P vs
  | .lst ds, P, v => ∃ a vs, v = .ref a ∧ ¬ P a ∧ H a = some (.lst vs) ∧ Reps K H ds (fun b => P b ∨ b = a) vs
  | .arg ns, P, v => ∃ a, v = .ref a ∧ ((¬ P a ∧ Rd H a (.lst (ns.map V.int))) ∨ SqL K (fun _ => none) a (ns.map V.int))
  | .dik ks ds, P, v => ∃ a vs, v = .ref a ∧ ¬ P a ∧ ks.length = vs.length ∧ Rd H a (.dK (ks.zip vs)) ∧ Reps K H ds (fun b => P b ∨ b = a) vs
  | .dit ks ds, P, v => ∃ a vs, v = .ref a ∧ ¬ P a ∧ ks.length = vs.length ∧ Rd H a (.dT (ks.zip vs)) ∧ Reps K H ds (fun b => P b ∨ b = a) vs
def Reps (K : PySem.W.Frag) (H : Hp) : List D → Pr → List V → Prop
  | [], _, vs => vs = []
  | d :: ds, P, vs => ∃ v ws, vs = v :: ws ∧ Rep K H d P v ∧ Reps K H ds P ws
end
/-- the object itself may be forbidden, what it holds not -/
def RepW (K : PySem.W.Frag) (H : Hp) : D → Pr → V → Prop
  | .lst ds, P, v => ∃ a vs, v = .ref a ∧ H a = some (.lst vs) ∧ Reps K H ds P vs
  | .arg ns, P, v => ∃ a, v = .ref a ∧ SqL K H a (ns.map V.int)
  | .dik ks ds, P, v => ∃ a vs, v = .ref a ∧ ks.length = vs.length ∧ Rd H a (.dK (ks.zip vs)) ∧ Reps K H ds P vs
  | .dit ks ds, P, v => ∃ a vs, v = .ref a ∧ ks.length = vs.length ∧ Rd H a (.dT (ks.zip vs)) ∧ Reps K H ds P vs
  | d, P, v => Rep K H d P v
/-- an own slot's object: it may be written -/
def RepO (K : PySem.W.Frag) (H : Hp) : D → Pr → V → Prop
  | .lst ds, P, v => ∃ a vs, v = .ref a ∧ H a = some (.lst vs) ∧ Reps K H ds P vs
  | .dik ks ds, P, v => ∃ a vs, v = .ref a ∧ ks.length = vs.length ∧ H a = some (.dK (ks.zip vs)) ∧ Reps K H ds P vs
  | .dit ks ds, P, v => ∃ a vs, v = .ref a ∧ ks.length = vs.length ∧ H a = some (.dT (ks.zip vs)) ∧ Reps K H ds P vs
  | .non, _, v => v = .non
  | .bl b, _, v => v = .bl b
  | .int i, _, v => v = .int i
  | .str x, _, v => v = .str x
  | _, _, _ => False

/-- an object that may change (or a list, a dict that is locked) -/
def isMut : Option HO → Prop
  | some (.lst _) => True
  | some (.dK _) => True
  | some (.dT _) => True
  | some (.ins _ _ _) => True
  | some (.set _ _) => True
  | some (.frz _ (.lst _)) => True
  | some (.frz _ (.dK _)) => True
  | some (.frz _ (.dT _)) => True
  | _ => False
theorem isMut.nt {H : Hp} {b : Addr} (h : isMut (H b)) {xs : List V} : ¬ Rd H b (.tup xs) := by
  rintro (e | ⟨o, e⟩) <;> (rw [e] at h; exact h)
theorem isMut.some {o : Option HO} (h : isMut o) : o ≠ none := by rintro rfl; exact h
theorem Rd.keep {H H' : Hp} {a : Addr} {u : HO} (r : Rd H a u) (k : ∀ o, H a = some o → H' a = some o) : Rd H' a u := by
  rcases r with e | ⟨o, e⟩
  · exact .inl (k _ e)
  · exact .inr ⟨o, k _ e⟩
theorem Rd.some {H : Hp} {a : Addr} {u : HO} (r : Rd H a u) : H a ≠ none := by
  rcases r with e | ⟨o, e⟩ <;> (rw [e]; intro z; cases z)

section
variable {K : PySem.W.Frag} {H H' : Hp}
mutual
theorem Rep.mono : ∀ (d : D) {P P' : Pr} {v : V}, (∀ b, P b → isMut (H b)) → (∀ b o, H b = some o → ¬ P b → H' b = some o) → (∀ b, P' b → P b ∨ H b = none) → Rep K H d P v → Rep K H' d P' v
  | .non, _, _, _, _, _, _, h => by unfold Rep at h ⊢; exact h
  | .bl _, _, _, _, _, _, _, h => by unfold Rep at h ⊢; exact h
  | .int _, _, _, _, _, _, _, h => by unfold Rep at h ⊢; exact h
  | .str _, _, _, _, _, _, _, h => by unfold Rep at h ⊢; exact h
  | .tup ds, P, P', v, hm, k, hp, h => by
    unfold Rep at h ⊢
    obtain ⟨a, vs, rfl, ht, hr⟩ := h
    exact ⟨a, vs, rfl, k a _ ht fun z => (hm a z).nt (.inl ht), Reps.mono ds hm k hp hr⟩
  | .lst ds, P, P', v, hm, k, hp, h => by
    unfold Rep at h ⊢
    obtain ⟨a, vs, rfl, ha, ht, hr⟩ := h
    refine ⟨a, vs, rfl, fun z => ?_, k a _ ht ha, Reps.mono ds (P := fun b => P b ∨ b = a) (fun b z => ?_) (fun b o e n => k b o e fun z => n (.inl z)) (fun b z => ?_) hr⟩
    · rcases hp a z with z | z
      · exact ha z
      · rw [ht] at z; cases z
    · rcases z with z | rfl
      · exact hm b z
      · rw [ht]; trivial
    · rcases z with z | z
      · rcases hp b z with z | z
        · exact .inl (.inl z)
        · exact .inr z
      · exact .inl (.inr z)
  | .arg ns, P, P', v, hm, k, hp, h => by
    unfold Rep at h ⊢
    obtain ⟨a, rfl, h⟩ := h
    refine ⟨a, rfl, ?_⟩
    rcases h with ⟨ha, ht⟩ | h
    · refine .inl ⟨fun z => ?_, Rd.keep ht fun o e => k a o e ha⟩
      rcases hp a z with z | z
      · exact ha z
      · exact Rd.some ht z
    · exact .inr h
  | .dik ks ds, P, P', v, hm, k, hp, h => by
    unfold Rep at h ⊢
    obtain ⟨a, vs, rfl, ha, hl, ht, hr⟩ := h
    refine ⟨a, vs, rfl, fun z => ?_, hl, Rd.keep ht fun o e => k a o e ha, Reps.mono ds (P := fun b => P b ∨ b = a) (fun b z => ?_) (fun b o e n => k b o e fun z => n (.inl z)) (fun b z => ?_) hr⟩
    · rcases hp a z with z | z
      · exact ha z
      · exact Rd.some ht z
    · rcases z with z | rfl
      · exact hm b z
      · rcases ht with e | ⟨o, e⟩ <;> (rw [e]; trivial)
    · rcases z with z | z
      · rcases hp b z with z | z
        · exact .inl (.inl z)
        · exact .inr z
      · exact .inl (.inr z)
  | .dit ks ds, P, P', v, hm, k, hp, h => by
    unfold Rep at h ⊢
    obtain ⟨a, vs, rfl, ha, hl, ht, hr⟩ := h
    refine ⟨a, vs, rfl, fun z => ?_, hl, Rd.keep ht fun o e => k a o e ha, Reps.mono ds (P := fun b => P b ∨ b = a) (fun b z => ?_) (fun b o e n => k b o e fun z => n (.inl z)) (fun b z => ?_) hr⟩
    · rcases hp a z with z | z
      · exact ha z
      · exact Rd.some ht z
    · rcases z with z | rfl
      · exact hm b z
      · rcases ht with e | ⟨o, e⟩ <;> (rw [e]; trivial)
    · rcases z with z | z
      · rcases hp b z with z | z
        · exact .inl (.inl z)
        · exact .inr z
      · exact .inl (.inr z)
theorem Reps.mono : ∀ (ds : List D) {P P' : Pr} {vs : List V}, (∀ b, P b → isMut (H b)) → (∀ b o, H b = some o → ¬ P b → H' b = some o) → (∀ b, P' b → P b ∨ H b = none) → Reps K H ds P vs → Reps K H' ds P' vs
  | [], _, _, _, _, _, _, h => by unfold Reps at h ⊢; exact h
  | d :: ds, P, P', vs, hm, k, hp, h => by
    unfold Reps at h ⊢
    obtain ⟨v, ws, rfl, h1, h2⟩ := h
    exact ⟨v, ws, rfl, Rep.mono d hm k hp h1, Reps.mono ds hm k hp h2⟩
end
theorem Reps.length : ∀ {ds : List D} {P : Pr} {vs : List V}, Reps K H ds P vs → vs.length = ds.length
  | [], _, _, h => by unfold Reps at h; subst h; rfl
  | d :: ds, P, vs, h => by
    unfold Reps at h
    obtain ⟨v, ws, rfl, _, h2⟩ := h
    rw [List.length_cons, List.length_cons, Reps.length h2]
theorem Reps.nil {P : Pr} : Reps K H [] P [] := by unfold Reps; rfl
theorem Reps.cons {d : D} {ds : List D} {P : Pr} {v : V} {vs : List V} (h : Rep K H d P v) (h2 : Reps K H ds P vs) : Reps K H (d :: ds) P (v :: vs) := by
  unfold Reps; exact ⟨v, vs, rfl, h, h2⟩
theorem Reps.nil_iff {P : Pr} {vs : List V} (h : Reps K H [] P vs) : vs = [] := by unfold Reps at h; exact h
theorem Reps.cons_iff {d : D} {ds : List D} {P : Pr} {vs : List V} (h : Reps K H (d :: ds) P vs) : ∃ v ws, vs = v :: ws ∧ Rep K H d P v ∧ Reps K H ds P ws := by unfold Reps at h; exact h
theorem Reps.get : ∀ {ds : List D} {P : Pr} {vs : List V} {i : Nat} {d : D}, Reps K H ds P vs → ds[i]? = some d → ∃ v, vs[i]? = some v ∧ Rep K H d P v
  | [], _, _, _, _, _, e => by simp at e
  | d :: ds, P, vs, 0, d', h, e => by
    obtain ⟨v, ws, rfl, h1, _⟩ := h.cons_iff
    simp at e; subst e
    exact ⟨v, rfl, h1⟩
  | d :: ds, P, vs, i + 1, d', h, e => by
    obtain ⟨v, ws, rfl, _, h2⟩ := h.cons_iff
    simpa using Reps.get h2 (by simpa using e)
theorem Reps.append : ∀ {ds es : List D} {P : Pr} {vs ws : List V}, Reps K H ds P vs → Reps K H es P ws → Reps K H (ds ++ es) P (vs ++ ws)
  | [], _, _, _, _, h, h2 => by rw [h.nil_iff]; exact h2
  | d :: ds, es, P, vs, ws, h, h2 => by
    obtain ⟨v, us, rfl, h1, h3⟩ := h.cons_iff
    exact Reps.cons h1 (Reps.append h3 h2)
theorem Reps.of_get : ∀ {ds : List D} {P : Pr} {vs : List V}, vs.length = ds.length → (∀ (i : Nat) (d : D) (v : V), ds[i]? = some d → vs[i]? = some v → Rep K H d P v) → Reps K H ds P vs
  | [], _, [], _, _ => Reps.nil
  | [], _, _ :: _, h, _ => by simp at h
  | _ :: _, _, [], h, _ => by simp at h
  | d :: ds, P, v :: vs, h, g => Reps.cons (g 0 d v rfl rfl) (Reps.of_get (by simpa using h) fun i d' v' e1 e2 => g (i + 1) d' v' (by simpa using e1) (by simpa using e2))
/-- forbidding less -/
theorem Rep.less {d : D} {P P' : Pr} {v : V} (hm : ∀ b, P b → isMut (H b)) (h : Rep K H d P v) (hp : ∀ b, P' b → P b) : Rep K H d P' v := h.mono d hm (fun _ _ e _ => e) fun b z => .inl (hp b z)
theorem Reps.less {ds : List D} {P P' : Pr} {vs : List V} (hm : ∀ b, P b → isMut (H b)) (h : Reps K H ds P vs) (hp : ∀ b, P' b → P b) : Reps K H ds P' vs := h.mono ds hm (fun _ _ e _ => e) fun b z => .inl (hp b z)
/-- nothing that stood is changed -/
theorem Rep.same {d : D} {P : Pr} {v : V} (hm : ∀ b, P b → isMut (H b)) (h : Rep K H d P v) (k : Same H H') : Rep K H' d P v := h.mono d hm (fun b o e _ => k b o e) fun _ z => .inl z
theorem Reps.same {ds : List D} {P : Pr} {vs : List V} (hm : ∀ b, P b → isMut (H b)) (h : Reps K H ds P vs) (k : Same H H') : Reps K H' ds P vs := h.mono ds hm (fun b o e _ => k b o e) fun _ z => .inl z
theorem mutL {a : Addr} {P : Pr} {vs : List V} (hm : ∀ b, P b → isMut (H b)) (h : H a = some (.lst vs)) : ∀ b, P b ∨ b = a → isMut (H b) := fun b z => by
  rcases z with z | rfl
  · exact hm b z
  · rw [h]; trivial
theorem mutK {a : Addr} {P : Pr} {vs : List (Key × V)} (hm : ∀ b, P b → isMut (H b)) (h : Rd H a (.dK vs)) : ∀ b, P b ∨ b = a → isMut (H b) := fun b z => by
  rcases z with z | rfl
  · exact hm b z
  · rcases h with e | ⟨o, e⟩ <;> (rw [e]; trivial)
theorem mutT {a : Addr} {P : Pr} {vs : List (List Key × V)} (hm : ∀ b, P b → isMut (H b)) (h : Rd H a (.dT vs)) : ∀ b, P b ∨ b = a → isMut (H b) := fun b z => by
  rcases z with z | rfl
  · exact hm b z
  · rcases h with e | ⟨o, e⟩ <;> (rw [e]; trivial)
theorem Rep.weak {d : D} {P : Pr} {v : V} (hm : ∀ b, P b → isMut (H b)) (h : Rep K H d P v) : RepW K H d P v := by
  cases d with
  | lst ds =>
    unfold Rep at h; unfold RepW
    obtain ⟨a, vs, rfl, _, ht, hr⟩ := h
    exact ⟨a, vs, rfl, ht, hr.less (mutL hm ht) fun b z => .inl z⟩
  | arg ns =>
    unfold Rep at h; unfold RepW
    obtain ⟨a, rfl, h⟩ := h
    rcases h with ⟨_, h⟩ | h
    · exact ⟨a, rfl, .inl h⟩
    · refine ⟨a, rfl, .inr ?_⟩
      rcases h with h | h
      · rcases h with e | ⟨o, e⟩ <;> cases e
      · exact h
  | dik ks ds =>
    unfold Rep at h; unfold RepW
    obtain ⟨a, vs, rfl, _, hl, ht, hr⟩ := h
    exact ⟨a, vs, rfl, hl, ht, hr.less (mutK hm ht) fun b z => .inl z⟩
  | dit ks ds =>
    unfold Rep at h; unfold RepW
    obtain ⟨a, vs, rfl, _, hl, ht, hr⟩ := h
    exact ⟨a, vs, rfl, hl, ht, hr.less (mutT hm ht) fun b z => .inl z⟩
  | non => exact h
  | bl _ => exact h
  | int _ => exact h
  | str _ => exact h
  | tup _ => exact h
theorem RepO.weak {d : D} {P : Pr} {v : V} (h : RepO K H d P v) : RepW K H d P v := by
  cases d with
  | lst ds => obtain ⟨a, vs, rfl, ht, hr⟩ := h; exact ⟨a, vs, rfl, ht, hr⟩
  | dik ks ds => obtain ⟨a, vs, rfl, hl, ht, hr⟩ := h; exact ⟨a, vs, rfl, hl, .inl ht, hr⟩
  | dit ks ds => obtain ⟨a, vs, rfl, hl, ht, hr⟩ := h; exact ⟨a, vs, rfl, hl, .inl ht, hr⟩
  | non => unfold RepW Rep; exact h
  | bl _ => unfold RepW Rep; exact h
  | int _ => unfold RepW Rep; exact h
  | str _ => unfold RepW Rep; exact h
  | tup _ => exact False.elim h
  | arg _ => exact False.elim h
theorem Rep.of_same {d : D} {P : Pr} {v : V} (hm : ∀ b, P b → isMut (H b)) (h : Rep K H d P v) (k : ∀ b o, H b = some o → ¬ P b → H' b = some o) : Rep K H' d P v := h.mono d hm k fun _ z => .inl z
/-- a new list, tuple -/
theorem Rep.newL {ds : List D} {P : Pr} {vs : List V} {p : Addr} (hm : ∀ b, P b → isMut (H b)) (h : Reps K H ds P vs) (hp : H p = none) : Rep K (upd H p (.lst vs)) (.lst ds) P (.ref p) := by
  unfold Rep
  refine ⟨p, vs, rfl, fun z => (hm p z).some hp, upd_same, h.mono ds hm (fun b o e _ => ?_) fun b z => ?_⟩
  · rw [upd_ne (ne_of_none e hp)]; exact e
  · rcases z with z | rfl
    · exact .inl z
    · exact .inr hp
theorem Rep.newT {ds : List D} {P : Pr} {vs : List V} {p : Addr} (hm : ∀ b, P b → isMut (H b)) (h : Reps K H ds P vs) (hp : H p = none) : Rep K (upd H p (.tup vs)) (.tup ds) P (.ref p) := by
  unfold Rep
  refine ⟨p, vs, rfl, upd_same, h.mono ds hm (fun b o e _ => ?_) fun b z => .inl z⟩
  rw [upd_ne (ne_of_none e hp)]; exact e
theorem Same.new {p : Addr} {o : HO} (hp : H p = none) : Same H (upd H p o) := fun b u e => by rw [upd_ne (ne_of_none e hp)]; exact e
end

/-- the own slots' objects -/
def OA (O : List Nat) (σ : St) (b : Addr) : Prop := ∃ i, i ∈ O ∧ σ[i]? = some (some (.ref b))
def FA (P0 : Pr) (O : List Nat) (σ : St) : Pr := fun b => P0 b ∨ OA O σ b
/-- the names' data ρ lie in the slots σ over H. P0: forbidden here; O: the own slots, whose lists and dicts this def may change: nothing else leads to them -/
structure Sim (K : PySem.W.Frag) (P0 : Pr) (O W : List Nat) (ρ : Env) (σ : St) (H : Hp) : Prop where
  sub : ∀ i ∈ W, i ∈ O
  len : ρ.length ≤ σ.length
  dom : ∀ b, FA P0 O σ b → isMut (H b)
  val : ∀ i d, ρ[i]? = some (some d) → i ∉ O → ∃ v, σ[i]? = some (some v) ∧ Rep K H d (FA P0 O σ) v
  own : ∀ i d, ρ[i]? = some (some d) → i ∈ O → ∃ v, σ[i]? = some (some v) ∧ RepO K H d (FA P0 O σ) v
  sep : ∀ i j a, i ∈ O → j ∈ O → σ[i]? = some (some (.ref a)) → σ[j]? = some (some (.ref a)) → i = j
  sep0 : ∀ a, OA O σ a → ¬ P0 a
/-- what an expression may do to the heap -/
structure Keep (O : List Nat) (σ : St) (H H' : Hp) : Prop where
  keep : ∀ b o, H b = some o → ¬ OA O σ b → H' b = some o
  some : ∀ b, H b ≠ none → H' b ≠ none
theorem Keep.refl {W : List Nat} {σ : St} {H : Hp} : Keep W σ H H := ⟨fun _ _ e _ => e, fun _ e => e⟩
theorem Keep.trans {W : List Nat} {σ : St} {H H1 H2 : Hp} (a : Keep W σ H H1) (b : Keep W σ H1 H2) : Keep W σ H H2 :=
  ⟨fun c o e n => b.keep c o (a.keep c o e n) n, fun c e => b.some c (a.some c e)⟩
theorem Keep.same {W : List Nat} {σ : St} {H H' : Hp} (k : Same H H') : Keep W σ H H' := ⟨fun b o e _ => k b o e, fun b e => by
  cases q : H b with
  | none => exact absurd q e
  | some o => rw [k b o q]; intro z; cases z⟩
section
variable {K : PySem.W.Frag} {P0 : Pr} {O W : List Nat} {ρ ρ' : Env} {σ : St} {H H' : Hp}
theorem Sim.oaw (S : Sim K P0 O W ρ σ H) {b : Addr} (z : OA W σ b) : OA O σ b := let ⟨i, hi, e⟩ := z; ⟨i, S.sub i hi, e⟩
theorem Sim.rep (S : Sim K P0 O W ρ σ H) (k : Keep W σ H H') {d : D} {v : V} (h : Rep K H d (FA P0 O σ) v) : Rep K H' d (FA P0 O σ) v :=
  h.of_same S.dom fun b o e n => k.keep b o e fun z => n (.inr (S.oaw z))
theorem Sim.reps (S : Sim K P0 O W ρ σ H) (k : Keep W σ H H') {d : List D} {v : List V} (h : Reps K H d (FA P0 O σ) v) : Reps K H' d (FA P0 O σ) v :=
  h.mono d S.dom (fun b o e n => k.keep b o e fun z => n (.inr (S.oaw z))) fun _ z => .inl z
/-- all that stood stands -/
theorem Sim.same (S : Sim K P0 O W ρ σ H) (k : Same H H') : Sim K P0 O W ρ σ H' where
  sub := S.sub
  len := S.len
  dom := fun b z => by
    have q := S.dom b z
    cases e : H b with
    | none => rw [e] at q; exact q.elim
    | some o => rw [k b o e, ← e]; exact q
  val := fun i d e n => let ⟨v, h1, h2⟩ := S.val i d e n; ⟨v, h1, h2.same S.dom k⟩
  own := fun i d e n => by
    obtain ⟨v, h1, h2⟩ := S.own i d e n
    refine ⟨v, h1, ?_⟩
    cases d with
    | lst ds => obtain ⟨a, vs, rfl, ht, hr⟩ := h2; exact ⟨a, vs, rfl, k _ _ ht, hr.same S.dom k⟩
    | dik ks ds => obtain ⟨a, vs, rfl, hl, ht, hr⟩ := h2; exact ⟨a, vs, rfl, hl, k _ _ ht, hr.same S.dom k⟩
    | dit ks ds => obtain ⟨a, vs, rfl, hl, ht, hr⟩ := h2; exact ⟨a, vs, rfl, hl, k _ _ ht, hr.same S.dom k⟩
    | non => exact h2
    | bl _ => exact h2
    | int _ => exact h2
    | str _ => exact h2
    | tup _ => exact h2
    | arg _ => exact h2
  sep := S.sep
  sep0 := S.sep0
/-- what lies in a slot, for reading -/
theorem Sim.look (S : Sim K P0 O W ρ σ H) {i : Nat} {d : D} (h : look i ρ = .ok d) : ∃ v, σ[i]? = some (some v) ∧ RepW K H d (FA P0 O σ) v := by
  unfold Y.look at h
  split at h
  · rename_i d' e
    cases h
    by_cases hi : i ∈ O
    · obtain ⟨v, h1, h2⟩ := S.own i d e hi
      exact ⟨v, h1, h2.weak⟩
    · obtain ⟨v, h1, h2⟩ := S.val i d e hi
      exact ⟨v, h1, h2.weak S.dom⟩
  · cases h
end
/-- what a handle says of a value; Hs: the heap ahead -/
def HdR (K : PySem.W.Frag) (P0 : Pr) (O : List Nat) (Hs : Hp) (σ : St) (H : Hp) : Hd → V → Prop
  | .fr d, v => Rep K H d (FA P0 O σ) v ∧ (d.isMu = true → ∀ a, v = .ref a → Hs a = none)
  | .vl d, v => Rep K H d (FA P0 O σ) v
  | .ow i, v => i ∈ O ∧ σ[i]? = some (some v)
section
variable {K : PySem.W.Frag} {P0 : Pr} {O W : List Nat} {ρ ρ' : Env} {σ : St} {Hs Hs' H H' : Hp}
theorem HdR.keep (S : Sim K P0 O W ρ σ H) (k : Keep W σ H H') {h : Hd} {v : V} (r : HdR K P0 O Hs σ H h v) : HdR K P0 O Hs σ H' h v := by
  cases h with
  | fr d => exact ⟨S.rep k r.1, r.2⟩
  | vl d => exact S.rep k r
  | ow i => exact r
/-- ahead of that -/
theorem HdR.back (k : ∀ b, Hs' b ≠ none → Hs b ≠ none) {h : Hd} {v : V} (r : HdR K P0 O Hs σ H h v) : HdR K P0 O Hs' σ H h v := by
  cases h with
  | fr d => exact ⟨r.1, fun m a e => Classical.byContradiction fun z => k a z (r.2 m a e)⟩
  | vl d => exact r
  | ow i => exact r
theorem HdR.d (S : Sim K P0 O W ρ σ H) {h : Hd} {v : V} {d : D} (r : HdR K P0 O Hs σ H h v) (e : h.d ρ = .ok d) : RepW K H d (FA P0 O σ) v := by
  cases h with
  | fr d' => cases e; exact r.1.weak S.dom
  | vl d' => cases e; exact Rep.weak S.dom r
  | ow i =>
    obtain ⟨w, h1, h2⟩ := S.look e
    have q : σ[i]? = some (some v) := r.2
    rw [q] at h1; cases h1
    exact h2
theorem HdR.v {h : Hd} {v : V} {d : D} (r : HdR K P0 O Hs σ H h v) (e : h.v = .ok d) : Rep K H d (FA P0 O σ) v := by
  cases h with
  | fr d' => cases e; exact r.1
  | vl d' => cases e; exact r
  | ow i => cases e
end
end Y

set_option Elab.async false
set_option linter.all false
set_option maxRecDepth 100000
namespace Y
open PySem PySem.Spec PyProof.Rows L2

/-- no exception is told on -/
def R.nox {α : Type} : R α → R α
  | .er _ _ => .stk
  | x => x
@[simp] theorem R.nox_ok {α : Type} (a : α) : (R.ok a).nox = .ok a := id rfl
@[simp] theorem R.nox_stk {α : Type} : (R.stk : R α).nox = .stk := id rfl
abbrev EK := Str → List D → Hp → Prop
def Res (E : EK) (W : List Nat) (σ : St) (H : Hp) {α : Type} (r : R α) (k : α → Prop) : Prop := match r with
  | .ok a => k a
  | .er c ds => ∀ H', Keep W σ H H' → E c ds H'
  | .stk => False
section
variable {E : EK} {O W : List Nat} {σ : St} {H H1 : Hp} {α β : Type}
theorem Res.of_bind {r : R α} {f : α → R β} {k : β → Prop} (h : Res E W σ H (r >>= f) k) : Res E W σ H r fun a => Res E W σ H (f a) k := by cases r <;> exact h
theorem Res.mono {r : R α} {k k' : α → Prop} (h : Res E W σ H r k) (i : ∀ a, k a → k' a) : Res E W σ H r k' := by
  cases r with
  | ok a => exact i a h
  | er c ds => exact h
  | stk => exact h
theorem Res.keep {r : R α} {k : α → Prop} (h : Res E W σ H r k) (kp : Keep W σ H H1) : Res E W σ H1 r k := by
  cases r with
  | ok a => exact h
  | er c ds => exact fun H' k2 => h H' (kp.trans k2)
  | stk => exact h
theorem Res.of_nox {r : R α} {f : α → R β} {k : β → Prop} (h : Res E W σ H (r.nox >>= f) k) : ∃ a, r = .ok a ∧ Res E W σ H (f a) k := by
  cases r with
  | ok a => exact ⟨a, rfl, h⟩
  | er c ds => exact h.elim
  | stk => exact h.elim
theorem Res.of_nox1 {r : R α} {k : α → Prop} (h : Res E W σ H r.nox k) : ∃ a, r = .ok a ∧ k a := by
  cases r with
  | ok a => exact ⟨a, rfl, h⟩
  | er c ds => exact h.elim
  | stk => exact h.elim
end

def tM (K : PySem.W.Frag) (P0 : Pr) (O W : List Nat) (E : EK) (m : EM) : TE := fun σ H Q => ∃ ρ, Sim K P0 O W ρ σ H ∧
  Res E W σ H (m ρ) fun a => ∀ v H', Sim K P0 O W a.2 σ H' → Keep W σ H H' → HdR K P0 O H σ H' a.1 v → Q v H'
/-- several, from the left -/
def HdRs (K : PySem.W.Frag) (P0 : Pr) (O : List Nat) (Hs : Hp) (σ : St) (H : Hp) : List Hd → List V → Prop
  | [], vs => vs = []
  | h :: hs, vs => ∃ v ws, vs = v :: ws ∧ HdR K P0 O Hs σ H h v ∧ HdRs K P0 O Hs σ H hs ws
abbrev AM := Env → R (List Hd × Env)
def tMs (K : PySem.W.Frag) (P0 : Pr) (O W : List Nat) (E : EK) (m : AM) : TA := fun σ H Q => ∃ ρ, Sim K P0 O W ρ σ H ∧
  Res E W σ H (m ρ) fun a => ∀ vs H', Sim K P0 O W a.2 σ H' → Keep W σ H H' → HdRs K P0 O H σ H' a.1 vs → Q vs H'
abbrev BM := Env → R (Bool × Env)
def tMt (K : PySem.W.Frag) (P0 : Pr) (O W : List Nat) (E : EK) (m : BM) : TT := fun σ H Q => ∃ ρ, Sim K P0 O W ρ σ H ∧
  Res E W σ H (m ρ) fun a => ∀ H', Sim K P0 O W a.2 σ H' → Keep W σ H H' → Q a.1 H'
theorem PE.imp {X : Cx} {e : Expr} {t t' : TE} (h : PE X e t) (i : ∀ σ H Q, t' σ H Q → t σ H Q) : PE X e t' := ⟨fun pins s σ H Q I q => h.run pins s σ H Q I (i σ H Q q)⟩
theorem PT.imp {X : Cx} {e : Expr} {t t' : TT} (h : PT X e t) (i : ∀ σ H Q, t' σ H Q → t σ H Q) : PT X e t' := ⟨fun pins s σ H Q I q => h.run pins s σ H Q I (i σ H Q q)⟩
theorem PW.imp {X : Cx} {e : Expr} {t t' : TT} (h : PW X e t) (i : ∀ σ H Q, t' σ H Q → t σ H Q) : PW X e t' := ⟨fun w pins s σ H Q I q => h.run w pins s σ H Q I (i σ H Q q)⟩
theorem PA.imp {X : Cx} {e : List Expr} {t t' : TA} (h : PA X e t) (i : ∀ σ H Q, t' σ H Q → t σ H Q) : PA X e t' := ⟨fun p pins s σ H Q I q => h.run p pins s σ H Q I (i σ H Q q)⟩
theorem PS.imp {X : Cx} {e : Stmt} {t t' : TS} (h : PS X e t) (i : ∀ D σ H, t' D σ H → t D σ H) : PS X e t' := ⟨fun pins s σ H D I q => h.run pins s σ H D I (i D σ H q)⟩
theorem PSs.imp {X : Cx} {e : List Stmt} {t t' : TS} (h : PSs X e t) (i : ∀ D σ H, t' D σ H → t D σ H) : PSs X e t' := ⟨fun pins s σ H D I q => h.run pins s σ H D I (i D σ H q)⟩
theorem PE.or {X : Cx} {e : Expr} {t t' : TE} (h : PE X e t) (h' : PE X e t') : PE X e fun σ H Q => t σ H Q ∨ t' σ H Q :=
  ⟨fun pins s σ H Q I q => q.elim (h.run pins s σ H Q I) (h'.run pins s σ H Q I)⟩
section
variable {K : PySem.W.Frag} {P0 : Pr} {O W : List Nat} {ρ ρ' : Env} {σ : St} {Hs Hs' H H' : Hp}
theorem HdRs.keep (S : Sim K P0 O W ρ σ H) (k : Keep W σ H H') : ∀ {hs : List Hd} {vs : List V}, HdRs K P0 O Hs σ H hs vs → HdRs K P0 O Hs σ H' hs vs
  | [], _, r => r
  | h :: hs, _, ⟨v, ws, e, r1, r2⟩ => ⟨v, ws, e, r1.keep S k, HdRs.keep S k r2⟩
theorem HdRs.back (k : ∀ b, Hs' b ≠ none → Hs b ≠ none) : ∀ {hs : List Hd} {vs : List V}, HdRs K P0 O Hs σ H hs vs → HdRs K P0 O Hs' σ H hs vs
  | [], _, r => r
  | h :: hs, _, ⟨v, ws, e, r1, r2⟩ => ⟨v, ws, e, r1.back k, HdRs.back k r2⟩
end

def cVar (i : Nat) : EM := fun ρ => do
  let d ← (look i ρ).nox
  pure (.vl d, ρ)
def cOwn (i : Nat) : EM := fun ρ => do
  let _ ← (look i ρ).nox
  pure (.ow i, ρ)
def cC (d : D) : EM := fun ρ => .ok (.fr d, ρ)
theorem look_some {i : Nat} {ρ : Env} {d : D} (h : look i ρ = .ok d) : ρ[i]? = some (some d) := by
  unfold look at h
  split at h
  · rename_i e; cases h; exact e
  · cases h
section
variable {X : Cx} {P0 : Pr} {O W : List Nat} {E : EK} {pos : Pos}
abbrev CEx (X : Cx) (P0 : Pr) (O W : List Nat) (E : EK) (e : Expr) (m : EM) : Prop := PE X e (tM X.K P0 O W E m)
theorem ce_var (i : Nat) {x : Str} (ho : i ∉ O := by decide) (hN : X.N[i]? = some x := by rfl) (hv : Vis X.env.scope x := by first | exact Or.inl rfl | exact Or.inr (Or.inl rfl) | exact Or.inr (Or.inr rfl)) (hd : (x == ("__debug__" : Str)) = false := by decide)
    (hcd : (x == ("__classdict__" : Str)) = false := by decide) : CEx X P0 O W E (.Name x pos) (cVar i) := PE.imp (pe_var (i := i) hN hv hd hcd) fun σ H Q ⟨ρ, S, h⟩ => by
  obtain ⟨d, e, h⟩ := h.of_nox
  obtain ⟨v, h1, h2⟩ := S.val i d (look_some e) ho
  exact ⟨v, h1, h v H S .refl h2⟩
theorem ce_own (i : Nat) {x : Str} (ho : i ∈ O := by decide) (hN : X.N[i]? = some x := by rfl) (hv : Vis X.env.scope x := by first | exact Or.inl rfl | exact Or.inr (Or.inl rfl) | exact Or.inr (Or.inr rfl)) (hd : (x == ("__debug__" : Str)) = false := by decide)
    (hcd : (x == ("__classdict__" : Str)) = false := by decide) : CEx X P0 O W E (.Name x pos) (cOwn i) := PE.imp (pe_var (i := i) hN hv hd hcd) fun σ H Q ⟨ρ, S, h⟩ => by
  obtain ⟨d, e, h⟩ := h.of_nox
  obtain ⟨v, h1, h2⟩ := S.own i d (look_some e) ho
  exact ⟨v, h1, h v H S .refl ⟨ho, h1⟩⟩
theorem c_of {v : V} {d : D} (h : ∀ H P, Rep X.K H d P v) (hm : d.isMu = false) : ∀ σ H Q, tM X.K P0 O W E (cC d) σ H Q → tC v σ H Q := fun σ H Q ⟨ρ, S, q⟩ =>
  q v H S .refl ⟨h _ _, fun z => by rw [hm] at z; cases z⟩
theorem ce_int {i j} : CEx X P0 O W E (.Constant (.int i) j pos) (cC (.int i)) := PE.imp pe_int (c_of (fun _ _ => by unfold Rep; rfl) rfl)
theorem ce_bl {i j} : CEx X P0 O W E (.Constant (.bool i) j pos) (cC (.bl i)) := PE.imp pe_bl (c_of (fun _ _ => by unfold Rep; rfl) rfl)
theorem ce_str {i j} : CEx X P0 O W E (.Constant (.str i) j pos) (cC (.str i)) := PE.imp pe_str (c_of (fun _ _ => by unfold Rep; rfl) rfl)
theorem ce_non {j} : CEx X P0 O W E (.Constant .none j pos) (cC .non) := PE.imp pe_non (c_of (fun _ _ => by unfold Rep; rfl) rfl)
/-- a module's constant: a number, a text, True, None -/
theorem ce_glob {x : Str} {v : V} {d : D} {u : Value} (h : ∀ H P, Rep X.K H d P v) (hm : d.isMu = false) (r : RelV v u) (hx : X.mg x = some u) (hg : Gl X x := by rfl) (hd : (x == ("__debug__" : Str)) = false := by decide) : CEx X P0 O W E (.Name x pos) (cC d) :=
  PE.imp (pe_glob hg hx r hd) (c_of h hm)
end

def cOp (f : D → D → R D) (a b : EM) : EM := fun ρ => do
  let (h1, ρ1) ← a ρ
  let (h2, ρ2) ← b ρ1
  let x ← (h1.d ρ2).nox
  let y ← (h2.d ρ2).nox
  let z ← (f x y).nox
  pure (.fr z, ρ2)
/-- what is told on of an operation: new data -/
def Out (K : PySem.W.Frag) (P : Pr) (H : Hp) (d : D) (Q : VK) : Prop := ∀ v H', Same H H' → Rep K H' d P v → (d.isMu = true → ∀ a, v = .ref a → H a = none) → Q v H'
def rD (K : PySem.W.Frag) (f : D → D → R D) : R2 := fun x y H Q => ∃ (P : Pr) (dx dy dz : D), (∀ b, P b → isMut (H b)) ∧ RepW K H dx P x ∧ RepW K H dy P y ∧ f dx dy = .ok dz ∧ Out K P H dz Q
theorem Same.some {H H' : Hp} (k : Same H H') : ∀ b, H b ≠ none → H' b ≠ none := fun b e => by
  cases q : H b with
  | none => exact absurd q e
  | some o => rw [k b o q]; intro z; cases z
section
variable {K : PySem.W.Frag} {P0 : Pr} {O W : List Nat} {E : EK}
/-- an operation's end, told to what follows -/
theorem out_of {ρ : Env} {σ : St} {H H1 : Hp} {Q : VK} {d : D} (S : Sim K P0 O W ρ σ H1) (k : Keep W σ H H1)
    (h : ∀ v H', Sim K P0 O W ρ σ H' → Keep W σ H H' → HdR K P0 O H σ H' (.fr d) v → Q v H') : Out K (FA P0 O σ) H1 d Q := fun v H' sm r fr =>
  h v H' (S.same sm) (k.trans (Keep.same sm)) ⟨r, fun m a e => Classical.byContradiction fun z => k.some a z (fr m a e)⟩
theorem tM_op {f : D → D → R D} {a b : EM} (σ : St) (H : Hp) (Q : VK) (h : tM K P0 O W E (cOp f a b) σ H Q) : tOp (rD K f) (tM K P0 O W E a) (tM K P0 O W E b) σ H Q := by
  obtain ⟨ρ, S, h⟩ := h
  refine ⟨ρ, S, h.of_bind.mono fun ⟨h1, ρ1⟩ q x H1 S1 k1 r1 => ⟨ρ1, S1, (q.keep k1).of_bind.mono fun ⟨h2, ρ2⟩ q2 y H2 S2 k2 r2 => ?_⟩⟩
  obtain ⟨dx, e1, q3⟩ := q2.of_nox
  obtain ⟨dy, e2, q4⟩ := q3.of_nox
  obtain ⟨dz, e3, q5⟩ := q4.of_nox
  exact ⟨FA P0 O σ, dx, dy, dz, S2.dom, (r1.keep S1 k2).d S2 e1, r2.d S2 e2, e3, out_of S2 (k1.trans k2) q5⟩
/-- new data of no object -/
theorem Out.flat {P : Pr} {H : Hp} {d : D} {v : V} {Q : VK} (h : Out K P H d Q) (r : Rep K H d P v) (hm : d.isMu = false) : Q v H := h v H (fun _ _ e => e) r fun z => by rw [hm] at z; cases z
theorem Out.int {P : Pr} {H : Hp} {i : Int} {Q : VK} (h : Out K P H (.int i) Q) : Q (.int i) H := h.flat (by unfold Rep; rfl) rfl
theorem Out.bl {P : Pr} {H : Hp} {i : Bool} {Q : VK} (h : Out K P H (.bl i) Q) : Q (.bl i) H := h.flat (by unfold Rep; rfl) rfl
theorem Out.str {P : Pr} {H : Hp} {i : Str} {Q : VK} (h : Out K P H (.str i) Q) : Q (.str i) H := h.flat (by unfold Rep; rfl) rfl
theorem Out.non {P : Pr} {H : Hp} {Q : VK} (h : Out K P H .non Q) : Q .non H := h.flat (by unfold Rep; rfl) rfl
theorem Out.newL {P : Pr} {H : Hp} {ds : List D} {vs : List V} {Q : VK} (h : Out K P H (.lst ds) Q) (hm : ∀ b, P b → isMut (H b)) (r : Reps K H ds P vs) {p : Addr} (hp : H p = none) : Q (.ref p) (upd H p (.lst vs)) :=
  h _ _ (Same.new hp) (Rep.newL hm r hp) fun _ a e => by cases e; exact hp
theorem Out.newT {P : Pr} {H : Hp} {ds : List D} {vs : List V} {Q : VK} (h : Out K P H (.tup ds) Q) (hm : ∀ b, P b → isMut (H b)) (r : Reps K H ds P vs) {p : Addr} (hp : H p = none) : Q (.ref p) (upd H p (.tup vs)) :=
  h _ _ (Same.new hp) (Rep.newT hm r hp) fun z => by cases z
/-- reading a datum's form -/
theorem RepW.int {H : Hp} {i : Int} {P : Pr} {v : V} (h : RepW K H (.int i) P v) : v = .int i := by unfold RepW Rep at h; exact h
theorem RepW.bl {H : Hp} {i : Bool} {P : Pr} {v : V} (h : RepW K H (.bl i) P v) : v = .bl i := by unfold RepW Rep at h; exact h
theorem RepW.str {H : Hp} {i : Str} {P : Pr} {v : V} (h : RepW K H (.str i) P v) : v = .str i := by unfold RepW Rep at h; exact h
theorem RepW.non {H : Hp} {P : Pr} {v : V} (h : RepW K H .non P v) : v = .non := by unfold RepW Rep at h; exact h
theorem RepW.tup {H : Hp} {ds : List D} {P : Pr} {v : V} (h : RepW K H (.tup ds) P v) : ∃ a vs, v = .ref a ∧ H a = some (.tup vs) ∧ Reps K H ds P vs := by unfold RepW Rep at h; exact h
theorem RepW.lst {H : Hp} {ds : List D} {P : Pr} {v : V} (h : RepW K H (.lst ds) P v) : ∃ a vs, v = .ref a ∧ H a = some (.lst vs) ∧ Reps K H ds P vs := h
theorem RepW.arg {H : Hp} {ds : List Int} {P : Pr} {v : V} (h : RepW K H (.arg ds) P v) : ∃ a, v = .ref a ∧ SqL K H a (ds.map V.int) := h
theorem Rep.tup_of {H : Hp} {ds : List D} {P : Pr} {a : Addr} {vs : List V} (h : H a = some (.tup vs)) (r : Reps K H ds P vs) : Rep K H (.tup ds) P (.ref a) := by unfold Rep; exact ⟨a, vs, rfl, h, r⟩
/-- a list or a tuple, for reading -/
def seqOf : D → Option (List D)
  | .lst ds => some ds
  | .tup ds => some ds
  | .arg ns => some (ns.map D.int)
  | _ => none
theorem reps_ints {H : Hp} {P : Pr} : ∀ ns : List Int, Reps K H (ns.map D.int) P (ns.map V.int)
  | [] => Reps.nil
  | n :: ns => Reps.cons (by unfold Rep; rfl) (reps_ints ns)
theorem RepW.seq {H : Hp} {d : D} {ds : List D} {P : Pr} {v : V} (h : RepW K H d P v) (e : seqOf d = some ds) : ∃ a vs, v = .ref a ∧ (SqL K H a vs ∨ SqT K H a vs) ∧ Reps K H ds P vs := by
  cases d <;> simp only [seqOf, Option.some.injEq, reduceCtorEq] at e
  · subst e; obtain ⟨a, vs, rfl, h1, h2⟩ := h.tup; exact ⟨a, vs, rfl, .inr (SqT.of h1), h2⟩
  · subst e; obtain ⟨a, vs, rfl, h1, h2⟩ := h.lst; exact ⟨a, vs, rfl, .inl (SqL.of h1), h2⟩
  · subst e; obtain ⟨a, rfl, h1⟩ := h.arg; exact ⟨a, _, rfl, .inl h1, reps_ints _⟩
end

/-- sizes that the machine bears -/
def szOk (n : Nat) : Bool := decide (n ≤ sizeLine)
def addD : D → D → R D
  | .int i, .int j => .ok (.int (i + j))
  | .str x, .str y => if szOk (x.length + y.length) = true then .ok (.str (x ++ y)) else .stk
  | .tup x, .tup y => if szOk (x.length + y.length) = true then .ok (.tup (x ++ y)) else .stk
  | .lst x, .lst y => if szOk (x.length + y.length) = true then .ok (.lst (x ++ y)) else .stk
  | _, _ => .stk
def subD : D → D → R D
  | .int i, .int j => .ok (.int (i - j))
  | _, _ => .stk
/-- either factor is small, or both are of at most 2 ^ 26 bits -/
def mulOk (i j : Int) : Bool := decide (i.natAbs < 2 ^ 64) || decide (j.natAbs < 2 ^ 64) || decide (i.natAbs.log2 < 2 ^ 26 - 8 ∧ j.natAbs.log2 < 2 ^ 26 - 8)
/-- a text as many times as told -/
def repS (k : Int) (x : Str) : Str := if k < 1 then Str.empty else if (k == 1 || x.length == 0) = true then x else ⟨(List.replicate k.toNat x.cps).foldl (· ++ ·) #[]⟩
def mulD : D → D → R D
  | .int i, .int j => if mulOk i j = true then .ok (.int (i * j)) else .stk
  | .lst x, .int k => if k < 2 ^ 20 ∧ -(2 ^ 20) < k ∧ szOk (x.length * k.toNat) = true then .ok (.lst (List.replicate k.toNat x).flatten) else .stk
  | .str x, .int k => if k < 2 ^ 20 ∧ -(2 ^ 20) < k ∧ szOk (x.length * k.toNat) = true then .ok (.str (repS k x)) else .stk
  | .tup x, .int k => if x.isEmpty = false ∧ -(2 ^ 20) < k ∧ k ≤ 1000 ∧ x.length ≤ 1000 then .ok (.tup (List.replicate k.toNat x).flatten) else .stk
  | _, _ => .stk
def smallPos (j : Int) : Bool := decide (0 < j ∧ j < 1073741824)
def fdivD : D → D → R D
  | .int i, .int j => if smallPos j = true then .ok (.int (i / j)) else .stk
  | _, _ => .stk
def modD : D → D → R D
  | .int i, .int j => if 0 < j then .ok (.int (i % j)) else .stk
  | _, _ => .stk
theorem mulOk_ok {i j : Int} (h : mulOk i j = true) : IntMulOk i j := by
  unfold mulOk at h
  simp only [Bool.or_eq_true, decide_eq_true_eq] at h
  rcases h with (h | h) | ⟨h1, h2⟩
  · exact IntMulOk.of_left (intBits_le_64 (by omega) (by omega))
  · exact IntMulOk.of_right (intBits_le_64 (by omega) (by omega))
  · have b : ∀ x : Int, Builtin.Int.intBits x ≤ x.natAbs.log2 + 1 := fun x => by
      unfold Builtin.Int.intBits
      split <;> omega
    have h3 := b i
    have h4 := b j
    have e : bitsLine = 134217728 := by decide
    unfold IntMulOk
    intro z
    rw [Bool.and_eq_true] at z
    have z2 := z.2
    unfold Builtin.Int.intTooBig at z2
    have z3 := of_decide_eq_true z2
    rw [e] at z3
    omega
section
variable {X : Cx}
theorem od_int {f : Value → Value → Sem Value} {g : D → D → R D} {C : Int → Int → Prop} {h : Int → Int → Int} (ho : OpR X f (rI C fun i j => .int (h i j))) (hg : ∀ x y z, g x y = .ok z → ∃ i j, x = .int i ∧ y = .int j ∧ z = .int (h i j) ∧ C i j) : OpR X f (rD X.K g) := by
  intro pins s σ H x y v u Q I rx ry ⟨P, dx, dy, dz, hm, r1, r2, e, out⟩
  obtain ⟨i, j, rfl, rfl, rfl, c⟩ := hg dx dy dz e
  obtain rfl := r1.int
  obtain rfl := r2.int
  exact ho pins s σ H _ _ v u Q I rx ry ⟨i, j, rfl, rfl, c, out.int⟩
theorem od_sub : OpR X (binaryOp .Sub) (rD X.K subD) := od_int (C := fun _ _ => True) (h := fun i j => i - j) (fun pins s σ H x y v u Q I rx ry ⟨i, j, e1, e2, _, q⟩ => op_sub pins s σ H x y v u Q I rx ry ⟨i, j, e1, e2, q⟩) fun x y z e => by
  cases x <;> cases y <;> simp only [subD, R.ok.injEq, reduceCtorEq] at e
  exact ⟨_, _, rfl, rfl, e.symm, trivial⟩
theorem od_fdiv : OpR X (binaryOp .FloorDiv) (rD X.K fdivD) := od_int op_fdiv fun x y z e => by
  cases x <;> cases y <;> simp only [fdivD, R.ok.injEq, reduceCtorEq] at e
  split at e
  · rename_i c; cases e; exact ⟨_, _, rfl, rfl, rfl, by unfold smallPos at c; have c := of_decide_eq_true c; exact c⟩
  · cases e
theorem od_mod : OpR X (binaryOp .Mod) (rD X.K modD) := od_int op_mod fun x y z e => by
  cases x <;> cases y <;> simp only [modD, R.ok.injEq, reduceCtorEq] at e
  split at e
  · rename_i c; cases e; exact ⟨_, _, rfl, rfl, rfl, c⟩
  · cases e
theorem od_add : OpR X (binaryOp .Add) (rD X.K addD) := by
  intro pins s σ H x y v u Q I rx ry ⟨P, dx, dy, dz, hm, r1, r2, e, out⟩
  cases dx <;> cases dy <;> simp only [addD, R.ok.injEq, reduceCtorEq] at e
  · subst e
    obtain rfl := r1.int
    obtain rfl := r2.int
    exact op_add pins s σ H _ _ v u Q I rx ry ⟨_, _, rfl, rfl, out.int⟩
  · split at e
    · rename_i c; cases e
      obtain rfl := r1.str
      obtain rfl := r2.str
      exact op_add_str pins s σ H _ _ v u Q I rx ry ⟨_, _, rfl, rfl, of_decide_eq_true c, out.str⟩
    · cases e
  · split at e
    · rename_i c; cases e
      obtain ⟨a, vs, rfl, h1, h2⟩ := r1.tup
      obtain ⟨b, ws, rfl, h3, h4⟩ := r2.tup
      refine op_catA pins s σ H _ _ v u Q I rx ry ⟨a, b, vs, ws, rfl, rfl, SqT.of h1, SqT.of h3, by rw [h2.length, h4.length]; exact of_decide_eq_true c, fun z => ?_, fun _ z => ?_, fun _ _ p hp => out.newT hm (h2.append h4) hp⟩
      · subst z
        have z := h2.length
        have z := List.length_eq_zero_iff.mp (show _ = 0 from z.symm)
        subst z
        rw [List.nil_append] at out
        exact out.flat (Rep.tup_of h3 h4) rfl
      · subst z
        have z := h4.length
        have z := List.length_eq_zero_iff.mp (show _ = 0 from z.symm)
        subst z
        rw [List.append_nil] at out
        exact out.flat (Rep.tup_of h1 h2) rfl
    · cases e
  · split at e
    · rename_i c; cases e
      obtain ⟨a, vs, rfl, h1, h2⟩ := r1.lst
      obtain ⟨b, ws, rfl, h3, h4⟩ := r2.lst
      exact op_cat pins s σ H _ _ v u Q I rx ry ⟨a, b, vs, ws, rfl, rfl, h1, h3, by rw [h2.length, h4.length]; exact of_decide_eq_true c, fun p hp => out.newL hm (h2.append h4) hp⟩
    · cases e
end
end Y

set_option Elab.async false
set_option linter.all false
set_option maxRecDepth 100000
namespace Y
open PySem PySem.Spec PyProof.Rows L2

section
open PySem.AutoSeq1 (wpAny_loadPart')
theorem tuple_mulS (l : Addr) (items : Array Value) (n : Nat) (dd : Option Addr) (sl : Array (Option Value)) (x : Int) (u : Tok) (c0 : (decide (x < -(2 ^ 63)) || decide (x ≥ 2 ^ 63)) = false) (c1 : (items.isEmpty || x == 1) = true) :
    Meets (Builtin.«tuple.__mul__» ⟨[.ref l, .int x u], []⟩) (fun _ R s => s.heap.get? l = some { cls := .type "tuple", dict := dd, data := .seq items n, slots := sl } ∧
      R (.ok (.ret (Value.ref l))) s) :=
  .of_wp fun prog w A R s h => by
    obtain ⟨hp, g, d, tk, os⟩ := s
    obtain ⟨hl, h⟩ := h
    have f1 := AutoSeq1.idx_int
    wp_walk using wpAny_loadPart' hl
    repeat (first
      | (refine wpAny_ite_false (decide_eq_false (by rw [c0]; exact Bool.false_ne_true)) ?_; wp_walk using wpAny_loadPart' hl)
      | (refine wpAny_ite_true (decide_eq_true c1) ?_; wp_walk using wpAny_loadPart' hl))
    exact ⟨_, rfl, h⟩
theorem tuple_mulE (l : Addr) (items : Array Value) (n : Nat) (dd : Option Addr) (sl : Array (Option Value)) (x : Int) (u : Tok) (c0 : (decide (x < -(2 ^ 63)) || decide (x ≥ 2 ^ 63)) = false) (c1 : (items.isEmpty || x == 1) = false) (c2 : (decide (x ≤ 0) || items.isEmpty) = true) :
    Meets (Builtin.«tuple.__mul__» ⟨[.ref l, .int x u], []⟩) (fun _ R s => s.heap.get? l = some { cls := .type "tuple", dict := dd, data := .seq items n, slots := sl } ∧
      R (.ok (.ret (Value.ref s.heap.objs.size))) { s with heap := s.heap.push { cls := Value.type "tuple", data := Data.seq #[] }, toks := s.toks }) :=
  .of_wp fun prog w A R s h => by
    obtain ⟨hp, g, d, tk, os⟩ := s
    obtain ⟨hl, h⟩ := h
    have f1 := AutoSeq1.idx_int
    wp_walk using wpAny_loadPart' hl
    repeat (first
      | (refine wpAny_ite_false (decide_eq_false (by rw [c0]; exact Bool.false_ne_true)) ?_; wp_walk using wpAny_loadPart' hl)
      | (refine wpAny_ite_false (decide_eq_false (by rw [c1]; exact Bool.false_ne_true)) ?_; wp_walk using wpAny_loadPart' hl)
      | (refine wpAny_ite_true (decide_eq_true c2) ?_; wp_walk using wpAny_loadPart' hl))
    exact ⟨_, rfl, h⟩
end
/-- a tuple times an int: once is the tuple itself -/
theorem op_repT1 {X : Cx} : OpR X (binaryOp .Mult) (fun x y H Q => ∃ l xs, x = .ref l ∧ y = .int 1 ∧ SqT X.K H l xs ∧ Q (.ref l) H) := by
  intro pins s σ H x y v u Q I rx ry h
  obtain ⟨l, xs, rfl, rfl, hT, q⟩ := h
  cases rx
  obtain ⟨t, rfl⟩ := ry
  obtain ⟨its, r, ⟨⟨cls, dd, data, sl⟩, ho, hc, n, hd⟩, hs⟩ := I.tuple hT
  simp only at hc hd
  subst hc hd
  have c0 : (decide ((1 : Int) < -(2 ^ 63)) || decide ((1 : Int) ≥ 2 ^ 63)) = false := by decide
  refine wpAny_binaryOp_repeat_ref (T := "tuple") (U := "int") (by decide) ⟨_, ho, rfl⟩ (fun s' => typeIs_int s' 1 t) noFill_tuple_mul F.fills_int_mul F.slot_int_rmul repeat_tuple F.slot_int_index.lookup
    (call_meets F.slot_int_rmul (typeIs_int s 1 t) F.entry_int_rmul (F.args_int_rmul_2 _ _) (int_rmul_tuple 1 t l its.toArray n dd sl)
      ⟨ho, rfl, ⟨_, ho, rfl⟩, call_meets F.slot_tuple_mul ⟨_, ho, rfl⟩ F.entry_tuple_mul (F.args_tuple_mul_2 _ _) (tuple_mulS l its.toArray n dd sl 1 t c0 (by simp)) ⟨ho, ?_⟩⟩)
  exact ⟨.ref l, H, I, rfl, q⟩
/-- no time or fewer: an empty tuple -/
theorem op_repT0 {X : Cx} : OpR X (binaryOp .Mult) (fun x y H Q => ∃ l k xs, x = .ref l ∧ y = .int k ∧ SqT X.K H l xs ∧ xs ≠ [] ∧ k ≤ 0 ∧ -(2 ^ 20) < k ∧ ∀ p, H p = none → Q (.ref p) (upd H p (.tup []))) := by
  intro pins s σ H x y v u Q I rx ry h
  obtain ⟨l, k, xs, rfl, rfl, hT, hne, h1, h2, q⟩ := h
  cases rx
  obtain ⟨t, rfl⟩ := ry
  obtain ⟨its, r, ⟨⟨cls, dd, data, sl⟩, ho, hc, n, hd⟩, hs⟩ := I.tuple hT
  simp only at hc hd
  subst hc hd
  have hi : its.toArray.isEmpty = false := by
    cases its with
    | nil => exact absurd (List.eq_nil_of_length_eq_zero r.length) hne
    | cons a b => rfl
  have c0 : (decide (k < -(2 ^ 63)) || decide (k ≥ 2 ^ 63)) = false := by
    rw [decide_eq_false (by omega), decide_eq_false (by omega)] <;> rfl
  have c1 : (its.toArray.isEmpty || k == 1) = false := by
    rw [hi, Bool.false_or]
    exact beq_eq_false_iff_ne.mpr (by omega)
  have c2 : (decide (k ≤ 0) || its.toArray.isEmpty) = true := by
    rw [decide_eq_true h1, Bool.true_or]
  refine wpAny_binaryOp_repeat_ref (T := "tuple") (U := "int") (by decide) ⟨_, ho, rfl⟩ (fun s' => typeIs_int s' k t) noFill_tuple_mul F.fills_int_mul F.slot_int_rmul repeat_tuple F.slot_int_index.lookup
    (call_meets F.slot_int_rmul (typeIs_int s k t) F.entry_int_rmul (F.args_int_rmul_2 _ _) (int_rmul_tuple k t l its.toArray n dd sl)
      ⟨ho, rfl, ⟨_, ho, rfl⟩, call_meets F.slot_tuple_mul ⟨_, ho, rfl⟩ F.entry_tuple_mul (F.args_tuple_mul_2 _ _) (tuple_mulE l its.toArray n dd sl k t c0 c1 c2) ⟨ho, ?_⟩⟩)
  refine ⟨.ref s.heap.objs.size, _, I.laid (t' := s.toks) (o := .tup []) (fun b ob q => Heap.get?_push_of_some _ q) (Nat.le_refl _) ?_, rfl, q _ (I.hok.fresh (Nat.le_refl _))⟩
  exact ⟨Nat.zero_le _, [], .nil, IsTup.new _ _⟩
theorem rep_all {K : PySem.W.Frag} {H : Hp} {P : Pr} {ds : List D} {vs : List V} (h : Reps K H ds P vs) : ∀ k : Nat, Reps K H (List.replicate k ds).flatten P (List.replicate k vs).flatten
  | 0 => Reps.nil
  | k + 1 => by rw [List.replicate_succ, List.replicate_succ, List.flatten_cons, List.flatten_cons]; exact h.append (rep_all h k)
noncomputable instance : DecidableEq (List D) := fun _ _ => Classical.propDecidable _
noncomputable instance : DecidableEq D := fun _ _ => Classical.propDecidable _
section
variable {X : Cx}
theorem repS_len (k : Int) (x : Str) : (⟨(List.replicate k.toNat x.cps).foldl (· ++ ·) #[]⟩ : Str).length = x.length * k.toNat := by
  show Array.size _ = _
  have h : ∀ (m : Nat) (a : Array Nat), ((List.replicate m x.cps).foldl (· ++ ·) a).size = a.size + x.cps.size * m := by
    intro m
    induction m with
    | zero => intro a; simp
    | succ m ih => intro a; rw [List.replicate_succ, List.foldl_cons, ih, Array.size_append, Nat.mul_succ]; omega
  rw [h, Array.size_empty, Nat.zero_add]
  rfl
/-- a text times an int -/
theorem op_repS : OpR X (binaryOp .Mult) (fun x y H Q => ∃ i k, x = .str i ∧ y = .int k ∧ -(2 ^ 20) < k ∧ k < 2 ^ 20 ∧ i.length * k.toNat ≤ sizeLine ∧ Q (.str (repS k i)) H) := by
  intro pins s σ H x y v u Q I rx ry h
  obtain ⟨i, k, rfl, rfl, h1, h2, hz, q⟩ := h
  obtain ⟨t, rfl⟩ := rx
  obtain ⟨t', rfl⟩ := ry
  have hs : sizeLine ≤ 2 ^ 40 := by decide
  refine PySem.P.mul_str ?_ (fun c _ => ?_) (fun _ _ => decide_eq_false (by omega)) ?_
  · rw [decide_eq_false (by omega), decide_eq_false (by omega)]; rfl
  · have e : ((i.length * k.toNat : Nat) : Int) = (i.length : Int) * k := by rw [Int.natCast_mul, Int.toNat_of_nonneg (by omega)]
    have := (Int.le_ediv_iff_mul_le (a := (i.length : Int)) (b := 2 ^ 63 - 1) (c := k) (by omega)).mpr (by rw [← e]; omega)
    omega
  · unfold repS at q
    by_cases c1 : k < 1
    · rw [if_pos c1] at q ⊢
      exact ⟨by decide, ⟨.str _, H, I.tok _, ⟨_, rfl⟩, q⟩⟩
    · rw [if_neg c1] at q ⊢
      by_cases c2 : (k == 1 || i.length == 0) = true
      · rw [if_pos c2] at q ⊢
        exact ⟨.str _, H, I, ⟨_, rfl⟩, q⟩
      · rw [if_neg c2] at q ⊢
        exact ⟨by rw [repS_len]; exact hz, ⟨.str _, H, I.tok _, ⟨_, rfl⟩, q⟩⟩
theorem od_mul : OpR X (binaryOp .Mult) (rD X.K mulD) := by
  intro pins s σ H x y v u Q I rx ry ⟨P, dx, dy, dz, hm, r1, r2, e, out⟩
  cases dx <;> cases dy <;> simp only [mulD, R.ok.injEq, reduceCtorEq] at e
  case int.int =>
    split at e
    · rename_i c; cases e
      obtain rfl := r1.int
      obtain rfl := r2.int
      obtain ⟨t, rfl⟩ := rx
      obtain ⟨t', rfl⟩ := ry
      exact mul_int ⟨.int _, H, I.tok _, ⟨_, rfl⟩, out.int⟩ (mulOk_ok c)
    · cases e
  case str.int =>
    split at e
    · rename_i c; cases e
      obtain rfl := r1.str
      obtain rfl := r2.int
      exact op_repS pins s σ H _ _ v u Q I rx ry ⟨_, _, rfl, rfl, by omega, by omega, of_decide_eq_true c.2.2, out.str⟩
    · cases e
  case tup.int =>
    split at e
    · rename_i c; cases e
      obtain ⟨a, vs, rfl, h1, h2⟩ := r1.tup
      obtain rfl := r2.int
      rename_i ds k
      have hne : vs ≠ [] := fun z => by
        have z2 := h2.length
        rw [z] at z2
        have z3 := List.length_eq_zero_iff.mp z2.symm
        rw [z3] at c
        exact absurd c.1 (by decide)
      by_cases c1 : k = 1
      · subst c1
        have e1 : (List.replicate (1 : Int).toNat ds).flatten = ds := by
          show ds ++ [] = ds
          exact List.append_nil _
        rw [e1] at out
        exact op_repT1 pins s σ H _ _ v u Q I rx ry ⟨a, vs, rfl, rfl, SqT.of h1, out.flat (Rep.tup_of h1 h2) rfl⟩
      · by_cases c2 : k ≤ 0
        · have e1 : (List.replicate k.toNat ds).flatten = [] := by
            have : k.toNat = 0 := by omega
            rw [this]; rfl
          rw [e1] at out
          exact op_repT0 pins s σ H _ _ v u Q I rx ry ⟨a, _, vs, rfl, rfl, SqT.of h1, hne, c2, c.2.1, fun p hp => out.newT hm Reps.nil hp⟩
        · exact op_repT pins s σ H _ _ v u Q I rx ry ⟨a, _, vs, rfl, rfl, SqT.of h1, hne, by omega, c.2.2.1, by rw [h2.length]; exact c.2.2.2, fun p hp => out.newT hm (rep_all h2 _) hp⟩
    · cases e
  case lst.int =>
    split at e
    · rename_i c
      have c : _ ∧ _ ∧ _ := c
      cases e
      obtain ⟨a, vs, rfl, h1, h2⟩ := r1.lst
      obtain rfl := r2.int
      exact op_rep pins s σ H _ _ v u Q I rx ry ⟨a, _, vs, rfl, rfl, h1, by omega, by omega, by rw [h2.length]; exact of_decide_eq_true c.2.2, fun p hp => out.newL hm (rep_all h2 _) hp⟩
    · cases e
end

mutual
def toPy : D → PyData
  | .non => .none
  | .bl b => .bool b
  | .int i => .int i
  | .str x => .str x
  | .tup ds => .tuple (toPys ds)
  | .lst ds => .list (toPys ds)
  | .arg ns => .list (ns.map .int)
  | .dik _ _ => .dict []
  | .dit _ _ => .dict []
def toPys : List D → List PyData
  | [] => []
  | d :: ds => toPy d :: toPys ds
end
def dOk (d : D) : Bool := SeqAt.shaped (toPy d)
def eqP (x y : D) : Bool := PyData.eqv (toPy x) (toPy y)
theorem dp_ints {K : PySem.W.Frag} {H : Hp} : ∀ ns : List Int, DpAll K H (ns.map V.int) (ns.map PyData.int)
  | [] => .nil
  | n :: ns => .cons (.int n) (dp_ints ns)
mutual
theorem Rep.dp {K : PySem.W.Frag} {H : Hp} : ∀ (d : D) {P : Pr} {v : V}, (toPy d).canLay0 = true → Rep K H d P v → Dp K H v (toPy d)
  | .non, _, _, _, h => by unfold Rep at h; subst h; exact .non
  | .bl b, _, _, _, h => by unfold Rep at h; subst h; exact .bl b
  | .int i, _, _, _, h => by unfold Rep at h; subst h; exact .int i
  | .str i, _, _, _, h => by unfold Rep at h; subst h; exact .str i
  | .tup ds, P, v, c, h => by
    unfold Rep at h
    obtain ⟨a, vs, rfl, h1, h2⟩ := h
    unfold toPy at c ⊢
    exact .tup (SqT.of h1) (Reps.dp ds (by simpa [PyData.canLay0] using c) h2)
  | .lst ds, P, v, c, h => by
    unfold Rep at h
    obtain ⟨a, vs, rfl, _, h1, h2⟩ := h
    unfold toPy at c ⊢
    exact .lst (SqL.of h1) (Reps.dp ds (by simpa [PyData.canLay0] using c) h2)
  | .arg ns, P, v, c, h => by
    unfold Rep at h
    unfold toPy
    obtain ⟨a, rfl, h⟩ := h
    rcases h with ⟨_, h⟩ | h
    · exact .lst (.inl h) (dp_ints ns)
    · refine .lst (.inr ?_) (dp_ints ns)
      rcases h with h | h
      · rcases h with e | ⟨o, e⟩ <;> cases e
      · exact h
  | .dik _ _, _, _, c, _ => by simp [toPy, PyData.canLay0] at c
  | .dit _ _, _, _, c, _ => by simp [toPy, PyData.canLay0] at c
theorem Reps.dp {K : PySem.W.Frag} {H : Hp} : ∀ (ds : List D) {P : Pr} {vs : List V}, PyData.canLayAll0 (toPys ds) = true → Reps K H ds P vs → DpAll K H vs (toPys ds)
  | [], _, _, _, h => by rw [h.nil_iff]; exact .nil
  | d :: ds, P, vs, c, h => by
    obtain ⟨v, ws, rfl, h1, h2⟩ := h.cons_iff
    unfold toPys at c ⊢
    have c := Bool.and_eq_true_iff.mp (show (PyData.canLay0 (toPy d) && PyData.canLayAll0 (toPys ds)) = true by simpa [PyData.canLayAll0] using c)
    exact .cons (Rep.dp d c.1 h1) (Reps.dp ds c.2 h2)
end
theorem RepW.dp {K : PySem.W.Frag} {H : Hp} {d : D} {P : Pr} {v : V} (c : dOk d = true) (h : RepW K H d P v) : Dp K H v (toPy d) := by
  have c := SeqAt.canLay_of_shaped c
  cases d with
  | lst ds =>
    obtain ⟨a, vs, rfl, h1, h2⟩ := h
    unfold toPy at c ⊢
    exact .lst (SqL.of h1) (Reps.dp ds (by simpa [PyData.canLay0] using c) h2)
  | arg ns =>
    obtain ⟨a, rfl, h1⟩ := h
    unfold toPy
    exact .lst h1 (dp_ints ns)
  | dik _ _ => simp [toPy, PyData.canLay0] at c
  | dit _ _ => simp [toPy, PyData.canLay0] at c
  | non => exact Rep.dp (P := P) _ c h
  | bl _ => exact Rep.dp (P := P) _ c h
  | int _ => exact Rep.dp (P := P) _ c h
  | str _ => exact Rep.dp (P := P) _ c h
  | tup _ => exact Rep.dp (P := P) _ c h
def eqD (x y : D) : R D := if (dOk x && dOk y) = true then .ok (.bl (eqP x y)) else .stk
def neD (x y : D) : R D := if (dOk x && dOk y) = true then .ok (.bl (!eqP x y)) else .stk
def ltD : D → D → R D
  | .int i, .int j => .ok (.bl (decide (i < j)))
  | .str x, .str y => .ok (.bl (decide (x.cps.toList < y.cps.toList)))
  | _, _ => .stk
def leD : D → D → R D
  | .int i, .int j => .ok (.bl (decide (i ≤ j)))
  | _, _ => .stk
def gtD : D → D → R D
  | .int i, .int j => .ok (.bl (decide (j < i)))
  | _, _ => .stk
def geD : D → D → R D
  | .int i, .int j => .ok (.bl (decide (j ≤ i)))
  | _, _ => .stk
def isNon : D → Bool
  | .non => true
  | _ => false
def isD : D → D → R D
  | x, .non => .ok (.bl (isNon x))
  | .bl a, .bl b => .ok (.bl (decide (a = b)))
  | _, _ => .stk
def isNotD : D → D → R D
  | x, .non => .ok (.bl (!isNon x))
  | .bl a, .bl b => .ok (.bl (!decide (a = b)))
  | _, _ => .stk
def flatD : D → Bool
  | .non => true
  | .bl _ => true
  | .int _ => true
  | .str _ => true
  | _ => false
/-- in a text of one sign, a list of data, a tuple of flat data -/
def inB : D → D → Option Bool
  | .str a, .str b => if a.length = 1 then some (decide (a.cps.getD 0 0 ∈ b.cps.toList)) else none
  | x, .lst ds => if (dOk x && dOk (.lst ds)) = true then some (ds.any fun z => eqP z x) else none
  | x, .tup ds => if (flatD x && ds.all flatD) = true then some (ds.any fun z => eqP z x) else none
  | _, _ => none
def inD (x y : D) : R D := match inB x y with | some b => .ok (.bl b) | none => .stk
def ninD (x y : D) : R D := match inB x y with | some b => .ok (.bl (!b)) | none => .stk
section
variable {K : PySem.W.Frag} {H : Hp} {P : Pr}
theorem RepW.isNon {d : D} {v : V} (h : RepW K H d P v) : decide (v = .non) = isNon d := by
  cases d with
  | non => rw [h.non]; rfl
  | bl _ => rw [h.bl]; rfl
  | int _ => rw [h.int]; rfl
  | str _ => rw [h.str]; rfl
  | tup _ => obtain ⟨a, vs, rfl, _⟩ := h.tup; rfl
  | lst _ => obtain ⟨a, vs, rfl, _⟩ := h.lst; rfl
  | arg _ => obtain ⟨a, rfl, _⟩ := h.arg; rfl
  | dik _ _ => obtain ⟨a, vs, rfl, _⟩ := h; rfl
  | dit _ _ => obtain ⟨a, vs, rfl, _⟩ := h; rfl
theorem flat_rep {d : D} {v : V} (f : flatD d = true) (h : Rep K H d P v) : flatV v = true := by
  cases d <;> unfold Rep at h <;> first | (subst h; rfl) | (simp [flatD] at f)
theorem flat_eq {d e : D} {v w : V} (f : flatD d = true) (g : flatD e = true) (h : Rep K H d P v) (h2 : Rep K H e P w) : eqV v w = eqP d e := by
  cases d <;> unfold Rep at h <;> first | (simp [flatD] at f; done) | skip
  all_goals (cases e <;> unfold Rep at h2 <;> first | (simp [flatD] at g; done) | skip)
  all_goals (subst h; subst h2; simp [eqV, eqP, toPy, PyData.eqv])
theorem flats_rep : ∀ {ds : List D} {vs : List V}, ds.all flatD = true → Reps K H ds P vs → vs.all flatV = true
  | [], _, _, h => by rw [h.nil_iff]; rfl
  | d :: ds, vs, f, h => by
    obtain ⟨v, ws, rfl, h1, h2⟩ := h.cons_iff
    rw [List.all_cons, Bool.and_eq_true] at f ⊢
    exact ⟨flat_rep f.1 h1, flats_rep f.2 h2⟩
theorem inV_rep {x : D} {v : V} (g : flatD x = true) (hx : Rep K H x P v) : ∀ {ds : List D} {vs : List V}, ds.all flatD = true → Reps K H ds P vs → inV v vs = ds.any fun z => eqP z x
  | [], _, _, h => by rw [h.nil_iff]; rfl
  | d :: ds, vs, f, h => by
    obtain ⟨w, ws, rfl, h1, h2⟩ := h.cons_iff
    rw [List.all_cons, Bool.and_eq_true] at f
    have ih := inV_rep g hx f.2 h2
    unfold inV at ih ⊢
    rw [List.any_cons, List.any_cons, ih, flat_eq f.1 g h1 hx]
theorem flatW {d : D} {v : V} (f : flatD d = true) (h : RepW K H d P v) : Rep K H d P v := by
  cases d <;> first | exact h | (simp [flatD] at f)
theorem dp_any {x : D} : ∀ ds : List D, ((toPys ds).any fun z => PyData.eqv z (toPy x)) = ds.any fun z => eqP z x
  | [] => rfl
  | d :: ds => by unfold toPys; rw [List.any_cons, List.any_cons, dp_any ds]; rfl
end
section
variable {X : Cx}
theorem od_eq (hu : X.A.units + 64 < cLine) : OpR X (compareOp .Eq) (rD X.K eqD) := by
  intro pins s σ H x y v u Q I rx ry ⟨P, dx, dy, dz, hm, r1, r2, e, out⟩
  unfold eqD at e
  split at e
  · rename_i c; cases e
    rw [Bool.and_eq_true] at c
    exact op_eqD hu pins s σ H x y v u Q I rx ry ⟨_, _, r1.dp c.1, r2.dp c.2, c.1, c.2, out.bl⟩
  · cases e
theorem od_ne (hu : X.A.units + 64 < cLine) : OpR X (compareOp .NotEq) (rD X.K neD) := by
  intro pins s σ H x y v u Q I rx ry ⟨P, dx, dy, dz, hm, r1, r2, e, out⟩
  unfold neD at e
  split at e
  · rename_i c; cases e
    rw [Bool.and_eq_true] at c
    exact op_neD hu pins s σ H x y v u Q I rx ry ⟨_, _, r1.dp c.1, r2.dp c.2, c.1, c.2, out.bl⟩
  · cases e
theorem od_cmp {op : CmpOp} {f : D → D → R D} {p : Int → Int → Bool} (ho : OpR X (compareOp op) (rI0 fun i j => .bl (p i j))) (hf : ∀ x y z, f x y = .ok z → ∃ i j, x = .int i ∧ y = .int j ∧ z = .bl (p i j)) : OpR X (compareOp op) (rD X.K f) := by
  intro pins s σ H x y v u Q I rx ry ⟨P, dx, dy, dz, hm, r1, r2, e, out⟩
  obtain ⟨i, j, rfl, rfl, rfl⟩ := hf _ _ _ e
  obtain rfl := r1.int
  obtain rfl := r2.int
  exact ho pins s σ H _ _ v u Q I rx ry ⟨_, _, rfl, rfl, out.bl⟩
theorem od_le : OpR X (compareOp .LtE) (rD X.K leD) := od_cmp op_le fun x y z e => by
  cases x <;> cases y <;> simp only [leD, R.ok.injEq, reduceCtorEq] at e
  exact ⟨_, _, rfl, rfl, e.symm⟩
theorem od_gt : OpR X (compareOp .Gt) (rD X.K gtD) := od_cmp op_gt fun x y z e => by
  cases x <;> cases y <;> simp only [gtD, R.ok.injEq, reduceCtorEq] at e
  exact ⟨_, _, rfl, rfl, e.symm⟩
theorem od_ge : OpR X (compareOp .GtE) (rD X.K geD) := od_cmp op_ge fun x y z e => by
  cases x <;> cases y <;> simp only [geD, R.ok.injEq, reduceCtorEq] at e
  exact ⟨_, _, rfl, rfl, e.symm⟩
theorem od_lt : OpR X (compareOp .Lt) (rD X.K ltD) := by
  intro pins s σ H x y v u Q I rx ry ⟨P, dx, dy, dz, hm, r1, r2, e, out⟩
  cases dx <;> cases dy <;> simp only [ltD, R.ok.injEq, reduceCtorEq] at e
  · subst e
    obtain rfl := r1.int
    obtain rfl := r2.int
    exact op_lt pins s σ H _ _ v u Q I rx ry ⟨_, _, rfl, rfl, out.bl⟩
  · subst e
    obtain rfl := r1.str
    obtain rfl := r2.str
    exact op_lt_str pins s σ H _ _ v u Q I rx ry ⟨_, _, rfl, rfl, out.bl⟩
theorem od_is : OpR X (compareOp .Is) (rD X.K isD) := by
  intro pins s σ H x y v u Q I rx ry ⟨P, dx, dy, dz, hm, r1, r2, e, out⟩
  unfold isD at e
  split at e
  · cases e
    obtain rfl := r2.non
    exact op_isN pins s σ H _ _ v u Q I rx ry ⟨rfl, by rw [r1.isNon]; exact out.bl⟩
  · cases e
    obtain rfl := r1.bl
    obtain rfl := r2.bl
    exact op_is_bl pins s σ H _ _ v u Q I rx ry ⟨_, _, rfl, rfl, out.bl⟩
  · cases e
theorem od_isnot : OpR X (compareOp .IsNot) (rD X.K isNotD) := by
  intro pins s σ H x y v u Q I rx ry ⟨P, dx, dy, dz, hm, r1, r2, e, out⟩
  unfold isNotD at e
  split at e
  · cases e
    obtain rfl := r2.non
    exact op_notN pins s σ H _ _ v u Q I rx ry ⟨rfl, by rw [r1.isNon]; exact out.bl⟩
  · cases e
    obtain rfl := r1.bl
    obtain rfl := r2.bl
    exact op_isnot_bl pins s σ H _ _ v u Q I rx ry ⟨_, _, rfl, rfl, out.bl⟩
  · cases e
theorem one_sign {a : Str} (h : a.length = 1) : a = ⟨#[a.cps.getD 0 0]⟩ := by
  refine Str.ext' ?_
  have h : a.cps.size = 1 := h
  apply Array.ext
  · simpa using h
  · intro i h1 h2
    have : i = 0 := by simp at h2; omega
    subst this
    simp [Array.getD, h]
theorem od_nin (hu : X.A.units + 65 < cLine) : OpR X (compareOp .NotIn) (rD X.K ninD) := by
  intro pins s σ H x y v u Q I rx ry ⟨P, dx, dy, dz, hm, r1, r2, e, out⟩
  unfold ninD at e
  split at e
  · rename_i b eb
    cases e
    unfold inB at eb
    split at eb
    · split at eb
      · rename_i c; cases eb
        obtain rfl := r1.str
        obtain rfl := r2.str
        refine op_notIn_sign pins s σ H _ _ v u Q I rx ry ⟨_, _, congrArg V.str (one_sign c), rfl, out.bl⟩
      · cases eb
    · split at eb
      · rename_i c; cases eb
        rw [Bool.and_eq_true] at c
        refine op_notInD hu pins s σ H _ _ v u Q I rx ry ⟨_, toPys _, r1.dp c.1, by have q := r2.dp c.2; unfold toPy at q; exact q, c.1, by have q := c.2; unfold dOk toPy at q; exact q, ?_⟩
        rw [dp_any]
        exact out.bl
      · cases eb
    · split at eb
      · rename_i c; cases eb
        rw [Bool.and_eq_true] at c
        obtain ⟨a, vs, rfl, h1, h2⟩ := r2.tup
        refine op_notIn_seq pins s σ H _ _ v u Q I rx ry ⟨a, vs, rfl, .inr (SqT.of h1), flat_rep c.1 (flatW c.1 r1), flats_rep c.2 h2, ?_⟩
        rw [if_pos rfl, inV_rep c.1 (flatW c.1 r1) c.2 h2]
        exact out.bl
      · cases eb
    · cases eb
  · cases e
end
end Y

set_option Elab.async false
set_option linter.all false
set_option maxRecDepth 100000
namespace Y
open PySem PySem.Spec PyProof.Rows L2

section
variable {X : Cx} {P0 : Pr} {O W : List Nat} {E : EK} {a b c : Expr} {ma mb mc : EM} {pos : Pos}
theorem ce_bin {op : Operator} {f : D → D → R D} (ho : OpR X (binaryOp op) (rD X.K f)) (ha : CEx X P0 O W E a ma) (hb : CEx X P0 O W E b mb) : CEx X P0 O W E (.BinOp a op b pos) (cOp f ma mb) := PE.imp (pe_op ho ha hb) tM_op
theorem ce_cmp {op : CmpOp} {f : D → D → R D} (ho : OpR X (compareOp op) (rD X.K f)) (ha : CEx X P0 O W E a ma) (hb : CEx X P0 O W E b mb) (hm : behindInMarks op b = false := by rfl) : CEx X P0 O W E (.Compare a [op] [b] pos) (cOp f ma mb) := PE.imp (pe_cmpR ho ha hb hm) tM_op
/-- a handle's truth -/
def truD : D → R Bool
  | .non => .ok false
  | .bl b => .ok b
  | .int i => .ok (i != 0)
  | .str x => if szOk x.length = true then .ok (x.length != 0) else .stk
  | .tup ds => .ok (!ds.isEmpty)
  | .lst ds => .ok (!ds.isEmpty)
  | .arg ns => .ok (!ns.isEmpty)
  | .dik _ _ => .stk
  | .dit _ _ => .stk
theorem truD_ok {K : PySem.W.Frag} {H : Hp} {P : Pr} {d : D} {v : V} {k : Bool} (h : truD d = .ok k) (r : RepW K H d P v) : TruV K v H k := by
  cases d <;> simp only [truD, R.ok.injEq, reduceCtorEq] at h
  · rw [r.non]; exact h.symm
  · rw [r.bl]; exact h.symm
  · rw [r.int]; exact h.symm
  · split at h
    · rename_i c; cases h
      rw [r.str]
      exact ⟨of_decide_eq_true c, by
        show (_ != _) = (_ != _)
        simp only [bne, Nat.beq_eq_true_eq]
        congr 1
        exact Bool.eq_iff_iff.mpr (by simp)⟩
    · cases h
  · obtain ⟨a, vs, rfl, h1, h2⟩ := r.tup
    refine .inr (.inl ⟨vs, SqT.of h1, ?_⟩)
    rw [← h]
    rename_i ds
    have := h2.length
    cases vs <;> cases ds <;> simp at this ⊢
  · obtain ⟨a, vs, rfl, h1, h2⟩ := r.lst
    refine .inl ⟨vs, SqL.of h1, ?_⟩
    rw [← h]
    rename_i ds
    have := h2.length
    cases vs <;> cases ds <;> simp at this ⊢
  · obtain ⟨a, rfl, h1⟩ := r.arg
    refine .inl ⟨_, h1, ?_⟩
    rw [← h]
    rename_i ns
    cases ns <;> rfl
abbrev CT (X : Cx) (P0 : Pr) (O W : List Nat) (E : EK) (e : Expr) (m : BM) : Prop := PT X e (tMt X.K P0 O W E m)
def cTru (m : EM) : BM := fun ρ => do
  let (h, ρ1) ← m ρ
  let d ← (h.d ρ1).nox
  let b ← (truD d).nox
  pure (b, ρ1)
theorem ct_val (ha : CEx X P0 O W E a ma) (he : ∀ whole, isTrue a X.env whole = (do let v ← whole; standAt a.pos; holding [v] (truthy v)) := by intro _; rfl) : CT X P0 O W E a (cTru ma) := PT.imp (pt_truth ha he) fun σ H Q ⟨ρ, S, h⟩ =>
  ⟨ρ, S, h.of_bind.mono fun ⟨h1, ρ1⟩ q v H1 S1 k1 r1 => by
    obtain ⟨d, e1, q⟩ := q.of_nox
    obtain ⟨k, e2, q⟩ := q.of_nox
    exact ⟨k, truD_ok e2 (r1.d S1 e1), q H1 S1 k1⟩⟩
/-- a comparison as a test -/
def cBl (m : EM) : BM := fun ρ => do
  let (h, ρ1) ← m ρ
  let d ← h.v.nox
  match d with
  | .bl k => pure (k, ρ1)
  | _ => .stk
theorem tM_bl {m : EM} (σ : St) (H : Hp) (Q : Bool → Hp → Prop) (h : tMt X.K P0 O W E (cBl m) σ H Q) : tTest (tM X.K P0 O W E m) σ H Q := by
  obtain ⟨ρ, S, h⟩ := h
  refine ⟨ρ, S, h.of_bind.mono fun ⟨h1, ρ1⟩ q v H1 S1 k1 r1 => ?_⟩
  obtain ⟨d, e1, q⟩ := q.of_nox
  have r := r1.v e1
  cases d <;> first | (exact q.elim) | skip
  unfold Rep at r
  exact ⟨_, r, q H1 S1 k1⟩
theorem tTest_imp {t t' : TE} (i : ∀ σ H Q, t' σ H Q → t σ H Q) {σ : St} {H : Hp} {Q : Bool → Hp → Prop} (h : tTest t' σ H Q) : tTest t σ H Q := i σ H _ h
theorem ct_cmp {op : CmpOp} {f : D → D → R D} (ho : OpR X (compareOp op) (rD X.K f)) (ha : CEx X P0 O W E a ma) (hb : CEx X P0 O W E b mb) (hm : behindInMarks op b = false := by rfl) : CT X P0 O W E (.Compare a [op] [b] pos) (cBl (cOp f ma mb)) := PT.imp (pt_cmpR ho ha hb hm) fun σ H Q h => tTest_imp tM_op (tM_bl σ H Q h)
def cNotT (m : BM) : BM := fun ρ => do
  let (b, ρ1) ← m ρ
  pure (!b, ρ1)
theorem ct_not {m : BM} (h : CT X P0 O W E a m) : CT X P0 O W E (.UnaryOp .Not a pos) (cNotT m) := PT.imp (pt_not h) fun σ H Q ⟨ρ, S, h⟩ => ⟨ρ, S, h.of_bind.mono fun ⟨b, ρ1⟩ q => q⟩
abbrev CW (X : Cx) (P0 : Pr) (O W : List Nat) (E : EK) (e : Expr) (m : BM) : Prop := PW X e (tMt X.K P0 O W E m)
def cAndT (a b : BM) : BM := fun ρ => do
  let (k, ρ1) ← a ρ
  if k = true then b ρ1 else pure (false, ρ1)
def cOrT (a b : BM) : BM := fun ρ => do
  let (k, ρ1) ← a ρ
  if k = true then pure (true, ρ1) else b ρ1
theorem cw_and1 {m : BM} (h : CT X P0 O W E a m) : CW X P0 O W E (.BoolOp .And [a] pos) m := pw_and1 h
theorem cw_or1 {m : BM} (h : CT X P0 O W E a m) : CW X P0 O W E (.BoolOp .Or [a] pos) m := pw_or1 h
theorem cw_and {rest : List Expr} {m n : BM} (h : CT X P0 O W E a m) (h2 : CW X P0 O W E (.BoolOp .And (b :: rest) pos) n) : CW X P0 O W E (.BoolOp .And (a :: b :: rest) pos) (cAndT m n) := PW.imp (pw_and h h2) fun σ H Q ⟨ρ, S, h⟩ =>
  ⟨ρ, S, h.of_bind.mono fun ⟨k, ρ1⟩ q H1 S1 k1 => by
    cases k with
    | true => exact ⟨ρ1, S1, (q.keep k1).mono fun ⟨k2, ρ2⟩ q2 H2 S2 k3 => q2 H2 S2 (k1.trans k3)⟩
    | false => exact q H1 S1 k1⟩
theorem cw_or {rest : List Expr} {m n : BM} (h : CT X P0 O W E a m) (h2 : CW X P0 O W E (.BoolOp .Or (b :: rest) pos) n) : CW X P0 O W E (.BoolOp .Or (a :: b :: rest) pos) (cOrT m n) := PW.imp (pw_or h h2) fun σ H Q ⟨ρ, S, h⟩ =>
  ⟨ρ, S, h.of_bind.mono fun ⟨k, ρ1⟩ q H1 S1 k1 => by
    cases k with
    | false => exact ⟨ρ1, S1, (q.keep k1).mono fun ⟨k2, ρ2⟩ q2 H2 S2 k3 => q2 H2 S2 (k1.trans k3)⟩
    | true => exact q H1 S1 k1⟩
theorem ct_w {m : BM} (h : CW X P0 O W E a m) : CT X P0 O W E a m := h.pt
theorem HdR.then {K : PySem.W.Frag} {ρ : Env} {σ : St} {H H1 H2 : Hp} {hd : Hd} {v : V} (k : Keep W σ H H1) (r : HdR K P0 O H1 σ H2 hd v) : HdR K P0 O H σ H2 hd v := r.back k.some
def cAnd (a b : EM) : EM := fun ρ => do
  let (h, ρ1) ← a ρ
  let d ← (h.d ρ1).nox
  let k ← (truD d).nox
  if k = true then b ρ1 else pure (h, ρ1)
def cNot (m : EM) : EM := fun ρ => do
  let (h, ρ1) ← m ρ
  let d ← (h.d ρ1).nox
  let k ← (truD d).nox
  pure (.fr (.bl (!k)), ρ1)
theorem ce_one {op : BoolOp} (h : CEx X P0 O W E a ma) : CEx X P0 O W E (.BoolOp op [a] pos) ma := pe_one h
theorem ce_and {rest : List Expr} (h : CEx X P0 O W E a ma) (h2 : CEx X P0 O W E (.BoolOp .And (b :: rest) pos) mb) : CEx X P0 O W E (.BoolOp .And (a :: b :: rest) pos) (cAnd ma mb) := PE.imp (pe_andT h h2) fun σ H Q ⟨ρ, S, h⟩ =>
  ⟨ρ, S, h.of_bind.mono fun ⟨h1, ρ1⟩ q v H1 S1 k1 r1 => by
    obtain ⟨d, e1, q⟩ := q.of_nox
    obtain ⟨k, e2, q⟩ := q.of_nox
    refine ⟨k, truD_ok e2 (r1.d S1 e1), ?_⟩
    cases k with
    | true => exact ⟨ρ1, S1, (q.keep k1).mono fun ⟨h2, ρ2⟩ q2 w H2 S2 k2 r2 => q2 w H2 S2 (k1.trans k2) (r2.back k1.some)⟩
    | false => exact q v H1 S1 k1 r1⟩
theorem ce_not (h : CEx X P0 O W E a ma) : CEx X P0 O W E (.UnaryOp .Not a pos) (cNot ma) := PE.imp (pe_notT h) fun σ H Q ⟨ρ, S, h⟩ =>
  ⟨ρ, S, h.of_bind.mono fun ⟨h1, ρ1⟩ q v H1 S1 k1 r1 => by
    obtain ⟨d, e1, q⟩ := q.of_nox
    obtain ⟨k, e2, q⟩ := q.of_nox
    exact ⟨k, truD_ok e2 (r1.d S1 e1), (out_of S1 k1 q).bl⟩⟩
def cChain2 (g : D → D → R D) (c : EM) (h2 : Hd) : EM := fun ρ2 => do
  let (h3, ρ3) ← c ρ2
  let y ← (h2.d ρ3).nox
  let w ← (h3.d ρ3).nox
  let z ← (g y w).nox
  pure (.fr z, ρ3)
def cChain (f g : D → D → R D) (a b c : EM) : EM := fun ρ => do
  let (h1, ρ1) ← a ρ
  let (h2, ρ2) ← b ρ1
  let x ← (h1.d ρ2).nox
  let y ← (h2.d ρ2).nox
  let z ← (f x y).nox
  match z with
  | .bl k => if k = true then cChain2 g c h2 ρ2 else .ok (.fr (.bl false), ρ2)
  | _ => .stk
theorem tM_chain {f g : D → D → R D} (σ : St) (H : Hp) (Q : VK) (h : tM X.K P0 O W E (cChain f g ma mb mc) σ H Q) : tChain (rD X.K f) (rD X.K g) (tM X.K P0 O W E ma) (tM X.K P0 O W E mb) (tM X.K P0 O W E mc) σ H Q := by
  obtain ⟨ρ, S, h⟩ := h
  refine ⟨ρ, S, h.of_bind.mono fun ⟨h1, ρ1⟩ q x H1 S1 k1 r1 => ⟨ρ1, S1, (q.keep k1).of_bind.mono fun ⟨h2, ρ2⟩ q2 y H2 S2 k2 r2 => ?_⟩⟩
  obtain ⟨dx, e1, q3⟩ := q2.of_nox
  obtain ⟨dy, e2, q4⟩ := q3.of_nox
  obtain ⟨dz, e3, q5⟩ := q4.of_nox
  refine ⟨FA P0 O σ, dx, dy, dz, S2.dom, (r1.keep S1 k2).d S2 e1, r2.d S2 e2, e3, fun v H3 sm r fr => ?_⟩
  cases dz <;> first | (exact q5.elim) | skip
  rename_i bb
  unfold Rep at r
  refine ⟨bb, r, ?_⟩
  have k3 : Keep W σ H2 H3 := Keep.same sm
  have S3 := S2.same sm
  cases bb with
  | false =>
    refine (if_neg Bool.false_ne_true).mpr ?_
    exact (q5 : ∀ v H', _) (.bl false) H3 S3 ((k1.trans k2).trans k3) ⟨by unfold Rep; rfl, fun z => by cases z⟩
  | true =>
    have q5 : Res E W σ H1 (cChain2 g mc h2 ρ2) _ := q5
    unfold cChain2 at q5
    refine (if_pos rfl).mpr ⟨ρ2, S3, (q5.keep (k2.trans k3)).of_bind.mono fun ⟨h3, ρ3⟩ q6 w H4 S4 k4 r4 => ?_⟩
    obtain ⟨dy2, e5, q7⟩ := q6.of_nox
    obtain ⟨dw, e6, q8⟩ := q7.of_nox
    obtain ⟨du, e7, q9⟩ := q8.of_nox
    exact ⟨FA P0 O σ, dy2, dw, du, S4.dom, ((r2.keep S2 k3).keep S3 k4).d S4 e5, r4.d S4 e6, e7, out_of S4 (((k1.trans k2).trans k3).trans k4) q9⟩
theorem ce_chain {op op' : CmpOp} {f g : D → D → R D} (ho : OpR X (compareOp op) (rD X.K f)) (ho' : OpR X (compareOp op') (rD X.K g)) (ha : CEx X P0 O W E a ma) (hb : CEx X P0 O W E b mb) (hc : CEx X P0 O W E c mc)
    (hm : lastMarks [op, op'] [b, c] = false := by with_unfolding_all rfl) : CEx X P0 O W E (.Compare a [op, op'] [b, c] pos) (cChain f g ma mb mc) := PE.imp (pe_chain ho ho' ha hb hc hm) tM_chain
def cNeg (m : EM) : EM := fun ρ => do
  let (h, ρ1) ← m ρ
  let d ← h.v.nox
  match d with
  | .int i => pure (.fr (.int (-i)), ρ1)
  | _ => .stk
theorem ce_neg (h : CEx X P0 O W E a ma) : CEx X P0 O W E (.UnaryOp .USub a pos) (cNeg ma) := PE.imp (pe_un un_neg h) fun σ H Q ⟨ρ, S, h⟩ =>
  ⟨ρ, S, h.of_bind.mono fun ⟨h1, ρ1⟩ q v H1 S1 k1 r1 => by
    obtain ⟨d, e1, q⟩ := q.of_nox
    have r := r1.v e1
    cases d <;> first | (exact q.elim) | skip
    unfold Rep at r
    exact ⟨_, r, (out_of S1 k1 q).int⟩⟩
end
end Y

set_option Elab.async false
set_option linter.all false
set_option maxRecDepth 100000
namespace Y
open PySem PySem.Spec PyProof.Rows L2

def cNil : AM := fun ρ => .ok ([], ρ)
def cCons (a : EM) (as : AM) : AM := fun ρ => do
  let (h, ρ1) ← a ρ
  let (hs, ρ2) ← as ρ1
  pure (h :: hs, ρ2)
def vsOf : List Hd → R (List D)
  | [] => .ok []
  | h :: hs => do
    let d ← h.v.nox
    let ds ← vsOf hs
    pure (d :: ds)
def dsOf : List Hd → Env → R (List D)
  | [], _ => .ok []
  | h :: hs, ρ => do
    let d ← (h.d ρ).nox
    let ds ← dsOf hs ρ
    pure (d :: ds)
def RepWs (K : PySem.W.Frag) (H : Hp) : List D → Pr → List V → Prop
  | [], _, vs => vs = []
  | d :: ds, P, vs => ∃ v ws, vs = v :: ws ∧ RepW K H d P v ∧ RepWs K H ds P ws
theorem R.ok_of {α β : Type} {r : R α} {f : α → R β} {b : β} (h : (r >>= f) = .ok b) : ∃ a, r = .ok a ∧ f a = .ok b := by
  cases r with
  | ok a => exact ⟨a, rfl, h⟩
  | er c ds => cases h
  | stk => cases h
theorem R.nox_of {α : Type} {r : R α} {a : α} (h : r.nox = .ok a) : r = .ok a := by cases r <;> first | exact h | cases h
theorem RepWs.get1 {K : PySem.W.Frag} {H : Hp} {d : D} {P : Pr} {vs : List V} (h : RepWs K H [d] P vs) : ∃ v, vs = [v] ∧ RepW K H d P v := by
  obtain ⟨v, ws, rfl, h1, h2⟩ := h
  have h2 : ws = [] := h2
  subst h2
  exact ⟨v, rfl, h1⟩
theorem RepWs.get2 {K : PySem.W.Frag} {H : Hp} {d e : D} {P : Pr} {vs : List V} (h : RepWs K H [d, e] P vs) : ∃ v w, vs = [v, w] ∧ RepW K H d P v ∧ RepW K H e P w := by
  obtain ⟨v, ws, rfl, h1, h2⟩ := h
  obtain ⟨w, rfl, h3⟩ := RepWs.get1 h2
  exact ⟨v, w, rfl, h1, h3⟩
section
variable {K : PySem.W.Frag} {P0 : Pr} {O W : List Nat} {ρ : Env} {σ : St} {Hs H : Hp}
theorem HdRs.vs : ∀ {hs : List Hd} {vs : List V} {ds : List D}, HdRs K P0 O Hs σ H hs vs → vsOf hs = .ok ds → Reps K H ds (FA P0 O σ) vs
  | [], _, _, r, e => by cases e; have r : _ = [] := r; subst r; exact Reps.nil
  | h :: hs, _, _, ⟨v, ws, e, r1, r2⟩, q => by
    obtain ⟨d, e1, q⟩ := R.ok_of q
    obtain ⟨ds, e2, q⟩ := R.ok_of q
    cases q
    subst e
    exact Reps.cons (r1.v (R.nox_of e1)) (HdRs.vs r2 e2)
theorem HdRs.ds (S : Sim K P0 O W ρ σ H) : ∀ {hs : List Hd} {vs : List V} {ds : List D}, HdRs K P0 O Hs σ H hs vs → dsOf hs ρ = .ok ds → RepWs K H ds (FA P0 O σ) vs
  | [], _, _, r, e => by cases e; exact r
  | h :: hs, _, _, ⟨v, ws, e, r1, r2⟩, q => by
    obtain ⟨d, e1, q⟩ := R.ok_of q
    obtain ⟨ds, e2, q⟩ := R.ok_of q
    cases q
    subst e
    exact ⟨v, ws, rfl, r1.d S (R.nox_of e1), HdRs.ds S r2 e2⟩
end
section
variable {X : Cx} {P0 : Pr} {O W : List Nat} {E : EK} {a b c e : Expr} {es : List Expr} {ma mb mc : EM} {ms : AM} {pos : Pos}
abbrev CA (X : Cx) (P0 : Pr) (O W : List Nat) (E : EK) (es : List Expr) (m : AM) : Prop := PA X es (tMs X.K P0 O W E m)
theorem ca_nil : CA X P0 O W E [] cNil := PA.imp pa_nil fun σ H Q ⟨ρ, S, h⟩ => h [] H S .refl rfl
theorem ca_cons (h : CEx X P0 O W E e ma) (hs : CA X P0 O W E es ms) (hst : starEach (e :: es) X.env = (false, eval e X.env) :: starEach es X.env := by rfl) : CA X P0 O W E (e :: es) (cCons ma ms) := PA.imp (pa_cons h hs hst) fun σ H Q ⟨ρ, S, h⟩ =>
  ⟨ρ, S, h.of_bind.mono fun ⟨h1, ρ1⟩ q v H1 S1 k1 r1 => ⟨ρ1, S1, (q.keep k1).of_bind.mono fun ⟨hs, ρ2⟩ q2 vs H2 S2 k2 r2 => q2 _ H2 S2 (k1.trans k2) ⟨v, vs, rfl, r1.keep S1 k2, HdRs.back k1.some r2⟩⟩⟩
def cTup (m : AM) : EM := fun ρ => do
  let (hs, ρ1) ← m ρ
  let ds ← (vsOf hs).nox
  if szOk ds.length = true then pure (.fr (.tup ds), ρ1) else .stk
def cLst (m : AM) : EM := fun ρ => do
  let (hs, ρ1) ← m ρ
  let ds ← (vsOf hs).nox
  if szOk ds.length = true then pure (.fr (.lst ds), ρ1) else .stk
theorem ce_tup {x1} (h : CA X P0 O W E es ms) : CEx X P0 O W E (.Tuple es x1 pos) (cTup ms) := PE.imp (pe_tup h) fun σ H Q ⟨ρ, S, h⟩ =>
  ⟨ρ, S, h.of_bind.mono fun ⟨hs, ρ1⟩ q vs H1 S1 k1 r1 => by
    obtain ⟨ds, e1, q⟩ := q.of_nox
    have rr := HdRs.vs r1 e1
    by_cases c : szOk ds.length = true
    · rw [if_pos c] at q
      exact ⟨by rw [rr.length]; exact of_decide_eq_true c, fun p hp => (out_of S1 k1 q).newT S1.dom rr hp⟩
    · rw [if_neg c] at q
      exact q.elim⟩
theorem ce_lst (h : CA X P0 O W E es ms) : CEx X P0 O W E (.List es pos) (cLst ms) := PE.imp (pe_lst h) fun σ H Q ⟨ρ, S, h⟩ =>
  ⟨ρ, S, h.of_bind.mono fun ⟨hs, ρ1⟩ q vs H1 S1 k1 r1 => by
    obtain ⟨ds, e1, q⟩ := q.of_nox
    have rr := HdRs.vs r1 e1
    by_cases c : szOk ds.length = true
    · rw [if_pos c] at q
      exact ⟨by rw [rr.length]; exact of_decide_eq_true c, fun p hp => (out_of S1 k1 q).newL S1.dom rr hp⟩
    · rw [if_neg c] at q
      exact q.elim⟩

def cCall (f : List D → R D) (m : AM) : EM := fun ρ => do
  let (hs, ρ1) ← m ρ
  let ds ← (dsOf hs ρ1).nox
  let z ← (f ds).nox
  pure (.fr z, ρ1)
def rDs (K : PySem.W.Frag) (f : List D → R D) : List V → Hp → VK → Prop := fun xs H Q => ∃ (P : Pr) (ds : List D) (dz : D), (∀ b, P b → isMut (H b)) ∧ RepWs K H ds P xs ∧ f ds = .ok dz ∧ Out K P H dz Q
theorem tM_call {f : List D → R D} (σ : St) (H : Hp) (Q : VK) (h : tM X.K P0 O W E (cCall f ms) σ H Q) : tCB (rDs X.K f) (tMs X.K P0 O W E ms) σ H Q := by
  obtain ⟨ρ, S, h⟩ := h
  refine ⟨ρ, S, h.of_bind.mono fun ⟨hs, ρ1⟩ q vs H1 S1 k1 r1 => ?_⟩
  obtain ⟨ds, e1, q⟩ := q.of_nox
  obtain ⟨z, e2, q⟩ := q.of_nox
  exact ⟨FA P0 O σ, ds, z, S1.dom, HdRs.ds S1 r1 e1, e2, out_of S1 k1 q⟩
theorem ce_callB {f : List D → R D} {id : String} {x : Str} {p : Pos} (hc : CallR X (.builtin id) (rDs X.K f)) (hm : X.mg x = none) (hv : bootBuiltins x = some (.builtin id)) (ha : CA X P0 O W E (e :: es) ms) (hg : Gl X x := by rfl) (hn : x ≠ "__name__" := by decide) (hdb : (x == ("__debug__" : Str)) = false := by decide)
    (he : starEach (e :: es) X.env = (false, eval e X.env) :: starEach es X.env := by rfl) (hpl : (backTo pos (starEach es X.env)).any (·.1) = false := by rfl) : CEx X P0 O W E (.Call (.Name x p) (e :: es) [] pos) (cCall f ms) := PE.imp (pe_callB hc hg hm hv ha hn hdb he hpl) tM_call
theorem ce_callT {f : List D → R D} {T : String} {x : Str} {p : Pos} (hc : CallR X (.type T) (rDs X.K f)) (hm : X.mg x = none) (hv : bootBuiltins x = some (.type T)) (ha : CA X P0 O W E (e :: es) ms) (hg : Gl X x := by rfl) (hn : x ≠ "__name__" := by decide) (hdb : (x == ("__debug__" : Str)) = false := by decide)
    (he : starEach (e :: es) X.env = (false, eval e X.env) :: starEach es X.env := by rfl) (hpl : (backTo pos (starEach es X.env)).any (·.1) = false := by rfl) : CEx X P0 O W E (.Call (.Name x p) (e :: es) [] pos) (cCall f ms) := PE.imp (pe_callTy hc hg hm hv ha hn hdb he hpl) tM_call
def lenD : List D → R D
  | [.str x] => if szOk x.length = true then .ok (.int x.length) else .stk
  | [.tup ds] => .ok (.int ds.length)
  | [.lst ds] => .ok (.int ds.length)
  | [.arg ns] => .ok (.int ns.length)
  | _ => .stk
def max2D : List D → R D
  | [.int i, .int j] => .ok (.int (max i j))
  | _ => .stk
def min2D : List D → R D
  | [.int i, .int j] => .ok (.int (min i j))
  | _ => .stk
/-- the ints of a list -/
def intsOf : List D → Option (List Int)
  | [] => some []
  | .int i :: ds => (intsOf ds).map (i :: ·)
  | _ => none
def blsOf : List D → Option (List Bool)
  | [] => some []
  | .bl i :: ds => (blsOf ds).map (i :: ·)
  | _ => none
def strsOf : List D → Option (List Str)
  | [] => some []
  | .str i :: ds => (strsOf ds).map (i :: ·)
  | _ => none
def allD : List D → R D
  | [.lst ds] => match blsOf ds with
    | some bs => .ok (.bl (bs.all id))
    | none => .stk
  | _ => .stk
def anyD : List D → R D
  | [.lst ds] => match blsOf ds with
    | some bs => .ok (.bl (bs.any id))
    | none => .stk
  | _ => .stk
/-- tuple(x), list(x) -/
def tupleD : List D → R D
  | [.lst ds] => .ok (.tup ds)
  | [.tup ds] => .ok (.tup ds)
  | _ => .stk
def listD : List D → R D
  | [.lst ds] => .ok (.lst ds)
  | [.tup ds] => .ok (.lst ds)
  | _ => .stk
def intOfD : List D → R D
  | [.int i] => .ok (.int i)
  | [.bl k] => .ok (.int (if k then 1 else 0))
  | [.str x] => if x.length = 1 ∧ 48 ≤ x.cps.getD 0 0 ∧ x.cps.getD 0 0 < 58 then .ok (.int ((x.cps.getD 0 0 : Nat) - 48)) else .stk
  | _ => .stk
theorem ints_rep {K : PySem.W.Frag} {H : Hp} {P : Pr} : ∀ {ds : List D} {ns : List Int} {vs : List V}, intsOf ds = some ns → Reps K H ds P vs → vs = ns.map V.int
  | [], ns, vs, e, h => by simp [intsOf] at e; subst e; exact h.nil_iff
  | d :: ds, ns, vs, e, h => by
    cases d <;> simp [intsOf] at e
    obtain ⟨ms, e1, rfl⟩ := e
    obtain ⟨v, ws, rfl, h1, h2⟩ := h.cons_iff
    unfold Rep at h1
    rw [h1, ints_rep e1 h2]
    rfl
theorem bls_rep {K : PySem.W.Frag} {H : Hp} {P : Pr} : ∀ {ds : List D} {ns : List Bool} {vs : List V}, blsOf ds = some ns → Reps K H ds P vs → vs = ns.map V.bl
  | [], ns, vs, e, h => by simp [blsOf] at e; subst e; exact h.nil_iff
  | d :: ds, ns, vs, e, h => by
    cases d <;> simp [blsOf] at e
    obtain ⟨ms, e1, rfl⟩ := e
    obtain ⟨v, ws, rfl, h1, h2⟩ := h.cons_iff
    unfold Rep at h1
    rw [h1, bls_rep e1 h2]
    rfl
theorem strs_rep {K : PySem.W.Frag} {H : Hp} {P : Pr} : ∀ {ds : List D} {ns : List Str} {vs : List V}, strsOf ds = some ns → Reps K H ds P vs → vs = ns.map V.str
  | [], ns, vs, e, h => by simp [strsOf] at e; subst e; exact h.nil_iff
  | d :: ds, ns, vs, e, h => by
    cases d <;> simp [strsOf] at e
    obtain ⟨ms, e1, rfl⟩ := e
    obtain ⟨v, ws, rfl, h1, h2⟩ := h.cons_iff
    unfold Rep at h1
    rw [h1, strs_rep e1 h2]
    rfl
theorem int2_of {f : Int → Int → D} {g : List D → R D} {ds : List D} {z : D} (hg : ∀ ds, g ds = match ds with | [.int i, .int j] => .ok (f i j) | _ => .stk) (h : g ds = .ok z) : ∃ i j, ds = [.int i, .int j] ∧ z = f i j := by
  rw [hg] at h
  split at h
  · cases h; exact ⟨_, _, rfl, rfl⟩
  · cases h
theorem cd_len : CallR X (.builtin "len") (rDs X.K lenD) := by
  intro pins s σ H xs us Q I r ⟨P, ds, dz, hm, rs, e, out⟩
  unfold lenD at e
  split at e
  · split at e
    · rename_i c; cases e
      obtain ⟨v, rfl, r1⟩ := rs.get1
      obtain rfl := r1.str
      exact call_len pins s σ H _ us Q I r ⟨_, _, rfl, ⟨of_decide_eq_true c, rfl⟩, out.int⟩
    · cases e
  · cases e
    obtain ⟨v, rfl, r1⟩ := rs.get1
    obtain ⟨a, vs, rfl, h1, h2⟩ := r1.tup
    rw [← h2.length] at out
    exact call_len pins s σ H _ us Q I r ⟨_, _, rfl, .inr ⟨vs, SqT.of h1, rfl⟩, out.int⟩
  · cases e
    obtain ⟨v, rfl, r1⟩ := rs.get1
    obtain ⟨a, vs, rfl, h1, h2⟩ := r1.lst
    rw [← h2.length] at out
    exact call_len pins s σ H _ us Q I r ⟨_, _, rfl, .inl ⟨vs, SqL.of h1, rfl⟩, out.int⟩
  · cases e
    obtain ⟨v, rfl, r1⟩ := rs.get1
    obtain ⟨a, rfl, h1⟩ := r1.arg
    refine call_len pins s σ H _ us Q I r ⟨_, _, rfl, .inl ⟨_, h1, rfl⟩, ?_⟩
    rw [List.length_map]
    exact out.int
  · cases e
theorem cd_max (hc : X.calm = true) : CallR X (.builtin "max") (rDs X.K max2D) := by
  intro pins s σ H xs us Q I r ⟨P, ds, dz, hm, rs, e, out⟩
  obtain ⟨i, j, rfl, rfl⟩ := int2_of (f := fun i j => .int (max i j)) (fun ds => by unfold max2D; rfl) e
  obtain ⟨v, w, rfl, r1, r2⟩ := rs.get2
  obtain rfl := r1.int
  obtain rfl := r2.int
  refine call_max2 hc pins s σ H _ us Q I r ⟨i, j, rfl, ?_⟩
  rw [show (if j > i then j else i) = max i j by omega]
  exact out.int
theorem cd_min (hc : X.calm = true) : CallR X (.builtin "min") (rDs X.K min2D) := by
  intro pins s σ H xs us Q I r ⟨P, ds, dz, hm, rs, e, out⟩
  obtain ⟨i, j, rfl, rfl⟩ := int2_of (f := fun i j => .int (min i j)) (fun ds => by unfold min2D; rfl) e
  obtain ⟨v, w, rfl, r1, r2⟩ := rs.get2
  obtain rfl := r1.int
  obtain rfl := r2.int
  refine call_min2 hc pins s σ H _ us Q I r ⟨i, j, rfl, ?_⟩
  rw [show (if j < i then j else i) = min i j by omega]
  exact out.int
theorem cd_all (hc : X.calm = true) : CallR X (.builtin "all") (rDs X.K allD) := by
  intro pins s σ H xs us Q I r ⟨P, ds, dz, hm, rs, e, out⟩
  unfold allD at e
  split at e
  · split at e
    · rename_i ns c; cases e
      obtain ⟨v, rfl, r1⟩ := rs.get1
      obtain ⟨a, vs, rfl, h1, h2⟩ := r1.lst
      obtain rfl := bls_rep c h2
      exact cr_all hc pins s σ H _ us Q I r ⟨a, ns, rfl, SqL.of h1, out.bl⟩
    · cases e
  · cases e
theorem cd_any (hc : X.calm = true) : CallR X (.builtin "any") (rDs X.K anyD) := by
  intro pins s σ H xs us Q I r ⟨P, ds, dz, hm, rs, e, out⟩
  unfold anyD at e
  split at e
  · split at e
    · rename_i ns c; cases e
      obtain ⟨v, rfl, r1⟩ := rs.get1
      obtain ⟨a, vs, rfl, h1, h2⟩ := r1.lst
      obtain rfl := bls_rep c h2
      exact cr_any hc pins s σ H _ us Q I r ⟨a, ns, rfl, SqL.of h1, out.bl⟩
    · cases e
  · cases e
theorem cd_tuple : CallR X (.type "tuple") (rDs X.K tupleD) := by
  intro pins s σ H xs us Q I r ⟨P, ds, dz, hm, rs, e, out⟩
  unfold tupleD at e
  split at e
  · cases e
    obtain ⟨v, rfl, r1⟩ := rs.get1
    obtain ⟨a, vs, rfl, h1, h2⟩ := r1.lst
    exact call_tuple_of pins s σ H _ us Q I r ⟨a, vs, rfl, .inl ⟨SqL.of h1, fun l hl => out.newT hm h2 hl⟩⟩
  · cases e
    obtain ⟨v, rfl, r1⟩ := rs.get1
    obtain ⟨a, vs, rfl, h1, h2⟩ := r1.tup
    exact call_tuple_of pins s σ H _ us Q I r ⟨a, vs, rfl, .inr ⟨SqT.of h1, out.flat (Rep.tup_of h1 h2) rfl⟩⟩
  · cases e
theorem cd_list : CallR X (.type "list") (rDs X.K listD) := by
  intro pins s σ H xs us Q I r ⟨P, ds, dz, hm, rs, e, out⟩
  unfold listD at e
  split at e
  · cases e
    obtain ⟨v, rfl, r1⟩ := rs.get1
    obtain ⟨a, vs, rfl, h1, h2⟩ := r1.lst
    exact call_list_of pins s σ H _ us Q I r ⟨a, vs, rfl, .inl (SqL.of h1), fun l hl => out.newL hm h2 hl⟩
  · cases e
    obtain ⟨v, rfl, r1⟩ := rs.get1
    obtain ⟨a, vs, rfl, h1, h2⟩ := r1.tup
    exact call_list_of pins s σ H _ us Q I r ⟨a, vs, rfl, .inr (SqT.of h1), fun l hl => out.newL hm h2 hl⟩
  · cases e
theorem digit_text : ∀ c : Nat, 48 ≤ c → c < 58 → PySem.intText? ⟨#[c]⟩ = some ((c : Int) - 48) := by
  intro c h1 h2
  have : c = 48 ∨ c = 49 ∨ c = 50 ∨ c = 51 ∨ c = 52 ∨ c = 53 ∨ c = 54 ∨ c = 55 ∨ c = 56 ∨ c = 57 := by omega
  rcases this with rfl | rfl | rfl | rfl | rfl | rfl | rfl | rfl | rfl | rfl <;> decide +kernel
theorem cd_int : CallR X (.type "int") (rDs X.K intOfD) := by
  intro pins s σ H xs us Q I r ⟨P, ds, dz, hm, rs, e, out⟩
  unfold intOfD at e
  split at e
  · cases e
    obtain ⟨v, rfl, r1⟩ := rs.get1
    obtain rfl := r1.int
    exact call_int1 pins s σ H _ us Q I r (.inl ⟨_, rfl, out.int⟩)
  · cases e
    obtain ⟨v, rfl, r1⟩ := rs.get1
    obtain rfl := r1.bl
    exact call_int1 pins s σ H _ us Q I r (.inr ⟨_, rfl, out.int⟩)
  · split at e
    · rename_i x c; cases e
      obtain ⟨v, rfl, r1⟩ := rs.get1
      obtain rfl := r1.str
      refine call_int_str pins s σ H _ us Q I r ⟨x, _, rfl, ?_, by rw [c.1]; decide, out.int⟩
      have q := digit_text _ c.2.1 c.2.2
      rw [one_sign c.1]
      exact q
    · cases e
  · cases e
end
end Y

set_option Elab.async false
set_option linter.all false
set_option maxRecDepth 100000
namespace Y
open PySem PySem.Spec PyProof.Rows L2

def ixD : D → D → R D
  | .str x, .int i => match atI x.cps.toList i with
    | some c => if szOk x.length = true then .ok (.str ⟨#[c]⟩) else .stk
    | none => .stk
  | .tup ds, .int i => match atI ds i with | some d => .ok d | none => .stk
  | .lst ds, .int i => match atI ds i with | some d => .ok d | none => .stk
  | .arg ns, .int i => match atI ns i with | some n => .ok (.int n) | none => .stk
  | _, _ => .stk
def cIx (a b : EM) : EM := fun ρ => do
  let (h1, ρ1) ← a ρ
  let (h2, ρ2) ← b ρ1
  let x ← (h1.d ρ2).nox
  let y ← (h2.d ρ2).nox
  let z ← (ixD x y).nox
  pure (.vl z, ρ2)
theorem Reps.atI {K : PySem.W.Frag} {H : Hp} {P : Pr} {ds : List D} {vs : List V} {i : Int} {d : D} (h : Reps K H ds P vs) (e : L2.atI ds i = some d) : ∃ v, L2.atI vs i = some v ∧ Rep K H d P v := by
  unfold L2.atI at e ⊢
  rw [h.length]
  cases q : ixN ds.length i with
  | none => rw [q] at e; cases e
  | some j => rw [q] at e; exact h.get e
theorem ints_atI {ns : List Int} {i n : Int} (e : atI ns i = some n) : atI (ns.map V.int) i = some (.int n) := by
  unfold atI at e ⊢
  rw [List.length_map]
  cases q : ixN ns.length i with
  | none => rw [q] at e; cases e
  | some j =>
    rw [q] at e
    show (ns.map V.int)[j]? = _
    rw [List.getElem?_map, show ns[j]? = some n from e]
    rfl
/-- the items of ds[lo:hi] -/
def cutD (ds : List D) (lo hi : Option Int) : List D := (ds.drop (HT.sIx ds.length 0 lo)).take (HT.sIx ds.length ds.length hi - HT.sIx ds.length 0 lo)
theorem Reps.drop {K : PySem.W.Frag} {H : Hp} {P : Pr} : ∀ (n : Nat) {ds : List D} {vs : List V}, Reps K H ds P vs → Reps K H (ds.drop n) P (vs.drop n)
  | 0, _, _, h => h
  | n + 1, [], _, h => by rw [h.nil_iff]; exact Reps.nil
  | n + 1, d :: ds, _, h => by
    obtain ⟨v, ws, rfl, _, h2⟩ := h.cons_iff
    exact Reps.drop n h2
theorem Reps.take {K : PySem.W.Frag} {H : Hp} {P : Pr} : ∀ (n : Nat) {ds : List D} {vs : List V}, Reps K H ds P vs → Reps K H (ds.take n) P (vs.take n)
  | 0, _, _, h => Reps.nil
  | n + 1, [], _, h => by rw [h.nil_iff]; exact Reps.nil
  | n + 1, d :: ds, _, h => by
    obtain ⟨v, ws, rfl, h1, h2⟩ := h.cons_iff
    exact Reps.cons h1 (Reps.take n h2)
theorem Reps.cut {K : PySem.W.Frag} {H : Hp} {P : Pr} {ds : List D} {vs : List V} (h : Reps K H ds P vs) (lo hi : Option Int) : Reps K H (cutD ds lo hi) P (cutV vs lo hi) := by
  unfold cutD cutV
  rw [h.length]
  exact (h.drop _).take _
def sliceD : D → Option Int → Option Int → R D
  | .str x, lo, hi => if szOk x.length = true then .ok (.str (cutS x lo hi)) else .stk
  | .tup ds, lo, hi => .ok (.tup (cutD ds lo hi))
  | .lst ds, lo, hi => .ok (.lst (cutD ds lo hi))
  | _, _, _ => .stk
abbrev OM := Env → R (Option Int × Env)
def cNoPart : OM := fun ρ => .ok (none, ρ)
def cPart (m : EM) : OM := fun ρ => do
  let (h, ρ1) ← m ρ
  let d ← h.v.nox
  match d with
  | .int i => pure (some i, ρ1)
  | _ => .stk
def cSlice (a : EM) (lo hi : OM) : EM := fun ρ => do
  let (h, ρ1) ← a ρ
  let (l, ρ2) ← lo ρ1
  let (u, ρ3) ← hi ρ2
  let d ← (h.d ρ3).nox
  let z ← (sliceD d l u).nox
  pure (.fr z, ρ3)
def tMo (K : PySem.W.Frag) (P0 : Pr) (O W : List Nat) (E : EK) (m : OM) : TO := fun σ H Q => ∃ ρ, Sim K P0 O W ρ σ H ∧ Res E W σ H (m ρ) fun a => ∀ H', Sim K P0 O W a.2 σ H' → Keep W σ H H' → Q a.1 H'
theorem PO.imp {X : Cx} {e : Option Expr} {t t' : TO} (h : PO X e t) (i : ∀ σ H Q, t' σ H Q → t σ H Q) : PO X e t' := by
  cases h with
  | mk h => exact ⟨fun pins s σ H Q I q => h pins s σ H Q I (i σ H Q q)⟩
section
variable {X : Cx} {P0 : Pr} {O W : List Nat} {E : EK} {a b c e : Expr} {es : List Expr} {ma mb mc : EM} {ms : AM} {pos : Pos}
abbrev CO (X : Cx) (P0 : Pr) (O W : List Nat) (E : EK) (e : Option Expr) (m : OM) : Prop := PO X e (tMo X.K P0 O W E m)
theorem co_none : CO X P0 O W E none cNoPart := PO.imp po_none fun σ H Q ⟨ρ, S, h⟩ => h H S .refl
theorem co_some (h : CEx X P0 O W E e ma) : CO X P0 O W E (some e) (cPart ma) := PO.imp (po_some h) fun σ H Q ⟨ρ, S, h⟩ =>
  ⟨ρ, S, h.of_bind.mono fun ⟨h1, ρ1⟩ q v H1 S1 k1 r1 => by
    obtain ⟨d, e1, q⟩ := q.of_nox
    have r := r1.v e1
    cases d <;> first | (exact q.elim) | skip
    unfold Rep at r
    exact ⟨_, r, q H1 S1 k1⟩⟩
theorem ce_ix (ha : CEx X P0 O W E a ma) (hb : CEx X P0 O W E b mb) (hs : PlainIx b := by intro _ _; rfl) : CEx X P0 O W E (.Subscript a b pos) (cIx ma mb) := PE.imp (pe_ix ix_seq ha hb hs) fun σ H Q ⟨ρ, S, h⟩ => by
  refine ⟨ρ, S, h.of_bind.mono fun ⟨h1, ρ1⟩ q x H1 S1 k1 r1 => ⟨ρ1, S1, (q.keep k1).of_bind.mono fun ⟨h2, ρ2⟩ q2 y H2 S2 k2 r2 => ?_⟩⟩
  obtain ⟨dx, e1, q3⟩ := q2.of_nox
  obtain ⟨dy, e2, q4⟩ := q3.of_nox
  obtain ⟨dz, e3, q5⟩ := q4.of_nox
  have rx := (r1.keep S1 k2).d S2 e1
  have ry := r2.d S2 e2
  have fin : ∀ v, Rep X.K H2 dz (FA P0 O σ) v → Q v H2 := fun v r => q5 v H2 S2 (k1.trans k2) r
  unfold ixD at e3
  split at e3
  · split at e3
    · split at e3
      · rename_i c' hc z; cases e3
        obtain rfl := rx.str
        obtain rfl := ry.int
        exact .inr (.inr ⟨_, _, _, rfl, rfl, of_decide_eq_true z, hc, fin _ (by unfold Rep; rfl)⟩)
      · cases e3
    · cases e3
  · split at e3
    · rename_i d hd; cases e3
      obtain ⟨p, vs, rfl, t1, t2⟩ := rx.tup
      obtain rfl := ry.int
      obtain ⟨v, e4, r4⟩ := t2.atI hd
      exact .inr (.inl ⟨p, vs, _, v, rfl, rfl, SqT.of t1, e4, fin v r4⟩)
    · cases e3
  · split at e3
    · rename_i d hd; cases e3
      obtain ⟨p, vs, rfl, t1, t2⟩ := rx.lst
      obtain rfl := ry.int
      obtain ⟨v, e4, r4⟩ := t2.atI hd
      exact .inl ⟨p, vs, _, v, rfl, rfl, SqL.of t1, e4, fin v r4⟩
    · cases e3
  · split at e3
    · rename_i d hd; cases e3
      obtain ⟨p, rfl, t1⟩ := rx.arg
      obtain rfl := ry.int
      exact .inl ⟨p, _, _, _, rfl, rfl, t1, ints_atI hd, fin _ (by unfold Rep; rfl)⟩
    · cases e3
  · cases e3
theorem ce_slice {lo hi : Option Expr} {ml mh : OM} {p2 : Pos} (ha : CEx X P0 O W E a ma) (hl : CO X P0 O W E lo ml) (hh : CO X P0 O W E hi mh) : CEx X P0 O W E (.Subscript a (.Slice lo hi none p2) pos) (cSlice ma ml mh) := PE.imp (pe_slice (sl_list.or (sl_tupA.or sl_str)) ha hl hh) fun σ H Q ⟨ρ, S, h⟩ => by
  refine ⟨ρ, S, h.of_bind.mono fun ⟨h1, ρ1⟩ q x H1 S1 k1 r1 => ⟨ρ1, S1, (q.keep k1).of_bind.mono fun ⟨l, ρ2⟩ q2 H2 S2 k2 => ⟨ρ2, S2, (q2.keep k2).of_bind.mono fun ⟨u, ρ3⟩ q3 H3 S3 k3 => ?_⟩⟩⟩
  obtain ⟨dx, e1, q4⟩ := q3.of_nox
  obtain ⟨dz, e3, q5⟩ := q4.of_nox
  have rx := (r1.keep S1 (k2.trans k3)).d S3 e1
  have out := out_of S3 ((k1.trans k2).trans k3) q5
  unfold sliceD at e3
  split at e3
  · split at e3
    · rename_i z; cases e3
      obtain rfl := rx.str
      exact .inr (.inr ⟨_, rfl, of_decide_eq_true z, out.str⟩)
    · cases e3
  · cases e3
    obtain ⟨p, vs, rfl, t1, t2⟩ := rx.tup
    have t3 := t2.cut l u
    refine .inr (.inl ⟨p, vs, rfl, SqT.of t1, fun z => ?_, fun _ p hp => out.newT S3.dom t3 hp⟩)
    have e4 : cutV vs l u = vs := by
      unfold cutV
      rw [z.1, z.2, List.drop_zero, Nat.sub_zero, List.take_length]
    rw [e4] at t3
    exact out.flat (Rep.tup_of t1 t3) rfl
  · cases e3
    obtain ⟨p, vs, rfl, t1, t2⟩ := rx.lst
    exact .inl ⟨p, vs, rfl, SqL.of t1, fun p hp => out.newL S3.dom (t2.cut l u) hp⟩
  · cases e3
end

/-- behind a statement or an expression: U: own slots that keep their objects -/
structure Tr (O U : List Nat) (σ : St) (H : Hp) (σ' : St) (H' : Hp) : Prop where
  keep : ∀ b o, H b = some o → ¬ OA O σ b → H' b = some o
  some : ∀ b, H b ≠ none → H' b ≠ none
  own : ∀ b, OA O σ' b → OA O σ b ∨ H b = none
  unch : ∀ i ∈ U, σ'[i]? = σ[i]?
theorem Tr.of {O W U : List Nat} {σ : St} {H H' : Hp} (hs : ∀ i ∈ W, i ∈ O) (k : Keep W σ H H') : Tr O U σ H σ H' := ⟨fun b o e n => k.keep b o e fun ⟨i, hi, z⟩ => n ⟨i, hs i hi, z⟩, k.some, fun _ z => .inl z, fun _ _ => rfl⟩
theorem Tr.refl {O U : List Nat} {σ : St} {H : Hp} : Tr O U σ H σ H := ⟨fun _ _ e _ => e, fun _ e => e, fun _ z => .inl z, fun _ _ => rfl⟩
theorem Tr.trans {O U : List Nat} {σ σ1 σ2 : St} {H H1 H2 : Hp} (a : Tr O U σ H σ1 H1) (b : Tr O U σ1 H1 σ2 H2) : Tr O U σ H σ2 H2 where
  keep := fun c o e n => b.keep c o (a.keep c o e n) fun z => by
    rcases a.own c z with z | z
    · exact n z
    · rw [e] at z; cases z
  some := fun c e => b.some c (a.some c e)
  own := fun c z => by
    rcases b.own c z with z | z
    · exact a.own c z
    · exact .inr (Classical.byContradiction fun q => a.some c q z)
  unch := fun i hi => (b.unch i hi).trans (a.unch i hi)
theorem Tr.less {O U U' : List Nat} {σ σ1 : St} {H H1 : Hp} (a : Tr O U σ H σ1 H1) (h : ∀ i ∈ U', i ∈ U) : Tr O U' σ H σ1 H1 := ⟨a.keep, a.some, a.own, fun i hi => a.unch i (h i hi)⟩
section
variable {K : PySem.W.Frag} {P0 : Pr} {O W U : List Nat} {ρ ρ' : Env} {σ σ' : St} {H H' : Hp}
end
end Y

set_option Elab.async false
set_option linter.all false
set_option maxRecDepth 100000
namespace Y
open PySem PySem.Spec PyProof.Rows L2

/-- v is the datum d that the handle tells, and stays so -/
def Hold (K : PySem.W.Frag) (O : List Nat) (h : Hd) (d : D) (v : V) (P0 : Pr) (ρ : Env) (σ : St) (H : Hp) : Prop := match h with
  | .ow i => i ∈ O ∧ ρ[i]? = some (some d) ∧ σ[i]? = some (some v)
  | _ => Rep K H d (FA P0 O σ) v
def Hd.ws : Hd → List Nat
  | .ow i => [i]
  | _ => []
section
variable {K : PySem.W.Frag} {P0 P1 : Pr} {O W : List Nat} {ρ ρ' : Env} {σ σ' : St} {H H' Hs : Hp} {h : Hd} {d : D} {v : V}
theorem Hold.rep (S : Sim K P0 O W ρ σ H) (o : Hold K O h d v P0 ρ σ H) : RepW K H d (FA P0 O σ) v := by
  cases h with
  | fr d' => exact Rep.weak S.dom o
  | vl d' => exact Rep.weak S.dom o
  | ow i =>
    obtain ⟨w, h1, h2⟩ := S.own i d o.2.1 o.1
    rw [o.2.2] at h1; cases h1
    exact h2.weak
theorem HdR.hold (r : HdR K P0 O Hs σ H h v) (e : h.d ρ = .ok d) : Hold K O h d v P0 ρ σ H := by
  cases h with
  | fr d' => cases e; exact r.1
  | vl d' => cases e; exact r
  | ow i => exact ⟨r.1, look_some e, r.2⟩
theorem Hold.keep (S : Sim K P0 O W ρ σ H) (o : Hold K O h d v P0 ρ σ H) (k : ∀ b o, H b = some o → ¬ FA P0 O σ b → H' b = some o) (w : ∀ b, FA P0 O σ' b → FA P0 O σ b ∨ H b = none)
    (hw : ∀ w ∈ h.ws, σ'[w]? = σ[w]? ∧ ρ'[w]? = ρ[w]?) : Hold K O h d v P0 ρ' σ' H' := by
  cases h with
  | fr d' => exact Rep.mono d S.dom k w o
  | vl d' => exact Rep.mono d S.dom k w o
  | ow i =>
    obtain ⟨h1, h2⟩ := hw i (by simp [Hd.ws])
    exact ⟨o.1, h2.trans o.2.1, h1.trans o.2.2⟩
theorem Hold.grow (S : Sim K P0 O W ρ σ H) (o : Hold K O h d v P0 ρ σ H) (w : ∀ b, P1 b → P0 b ∨ H b = none) (k : Same H H') : Hold K O h d v P1 ρ σ H' := by
  have q : ∀ b, FA P1 O σ b → FA P0 O σ b ∨ H b = none := fun b z => by
    rcases z with z | z
    · rcases w b z with z | z
      · exact .inl (.inl z)
      · exact .inr z
    · exact .inl (.inr z)
  cases h with
  | fr d' => exact Rep.mono d S.dom (fun b o e _ => k b o e) q o
  | vl d' => exact Rep.mono d S.dom (fun b o e _ => k b o e) q o
  | ow i => exact o
end
theorem Hold.mem {K : PySem.W.Frag} {P0 : Pr} {O : List Nat} {ρ : Env} {σ : St} {H : Hp} {h : Hd} {d : D} {v : V} (o : Hold K O h d v P0 ρ σ H) : ∀ w ∈ h.ws, w ∈ O := by
  cases h with
  | fr _ => exact fun w z => nomatch z
  | vl _ => exact fun w z => nomatch z
  | ow i =>
    intro w z
    have z : w = i := by simpa [Hd.ws] using z
    rw [z]; exact o.1
/-- an iterator gives ds; ws: own slots that it reads from; Ok: what must stay -/
structure Src (K : PySem.W.Frag) (O W : List Nat) (ds : List D) (ws : List Nat) (J : It) (Ok : Pr → Env → St → Hp → Prop) : Prop where
  go : ∀ P0 i ρ σ H, Sim K P0 O W ρ σ H → Ok P0 ρ σ H → i < ds.length → J.go i H
  stop : ∀ P0 ρ σ H, Sim K P0 O W ρ σ H → Ok P0 ρ σ H → J.stop ds.length H
  yld : ∀ P0 (i : Nat) ρ σ H x H' d, Sim K P0 O W ρ σ H → Ok P0 ρ σ H → ds[i]? = some d → J.yld i H x H' → Same H H' ∧ Rep K H' d (FA P0 O σ) x
  keep : ∀ P0 ρ σ H ρ' σ' H', Sim K P0 O W ρ σ H → (∀ b o, H b = some o → ¬ FA P0 O σ b → H' b = some o) → (∀ b, FA P0 O σ' b → FA P0 O σ b ∨ H b = none) → (∀ w ∈ ws, σ'[w]? = σ[w]? ∧ ρ'[w]? = ρ[w]?) → Ok P0 ρ σ H → Ok P0 ρ' σ' H'
  mem : ∀ P0 ρ σ H, Ok P0 ρ σ H → ∀ w ∈ ws, w ∈ O
  grow : ∀ P0 P1 ρ σ H H', Sim K P0 O W ρ σ H → (∀ b, P1 b → P0 b ∨ H b = none) → Same H H' → Ok P0 ρ σ H → Ok P1 ρ σ H'
abbrev IM := Env → R ((List D × List Nat) × Env)
def tMi (K : PySem.W.Frag) (P0 : Pr) (O W : List Nat) (E : EK) (m : IM) : TI := fun σ H R => ∃ ρ, Sim K P0 O W ρ σ H ∧
  Res E W σ H (m ρ) fun a => ∀ J H' Ok, Sim K P0 O W a.2 σ H' → Keep W σ H H' → Src K O W a.1.1 a.1.2 J Ok → Ok P0 a.2 σ H' → a.1.1.length ≤ sizeLine → R J H'
theorem PI.imp {X : Cx} {tg e : Expr} {t t' : TI} (h : PI X tg e t) (i : ∀ σ H R, t' σ H R → t σ H R) : PI X tg e t' := ⟨fun pins s σ H R I q => h.run pins s σ H R I (i σ H R q)⟩
theorem PI.or {X : Cx} {tg e : Expr} {t t' : TI} (h : PI X tg e t) (h' : PI X tg e t') : PI X tg e fun σ H R => t σ H R ∨ t' σ H R :=
  ⟨fun pins s σ H R I q => q.elim (h.run pins s σ H R I) (h'.run pins s σ H R I)⟩
section
variable {K : PySem.W.Frag} {O W : List Nat} {h h2 : Hd}
/-- over a list that a handle tells -/
theorem src_list {a : Addr} {ds : List D} : Src K O W ds h.ws (Itl K a) (Hold K O h (.lst ds) (.ref a)) where
  go := fun P0 i ρ σ H S ok hi => by
    obtain ⟨p, vs, e, t1, t2⟩ := (ok.rep S).lst
    cases e
    exact walk_list.goes i H (by rw [t2.length]; exact hi) (SqL.of t1)
  stop := fun P0 ρ σ H S ok => by
    obtain ⟨p, vs, e, t1, t2⟩ := (ok.rep S).lst
    cases e
    rw [← t2.length]
    exact walk_list.stops H (SqL.of t1)
  yld := fun P0 i ρ σ H x H' d S ok hd y => by
    obtain ⟨p, vs, e, t1, t2⟩ := (ok.rep S).lst
    cases e
    obtain ⟨v, e1, r⟩ := t2.get hd
    obtain ⟨e2, e3⟩ := walk_list.yields i H x H' (by rw [t2.length]; exact (List.getElem?_eq_some_iff.mp hd).1) (SqL.of t1) y
    subst e2
    rw [e1] at e3; cases e3
    exact ⟨fun _ _ z => z, r⟩
  keep := fun P0 ρ σ H ρ' σ' H' S k w hw ok => ok.keep S k w hw
  mem := fun P0 ρ σ H ok => ok.mem
  grow := fun P0 P1 ρ σ H H' S w k ok => ok.grow S w k
theorem src_tup {a : Addr} {ds : List D} : Src K O W ds h.ws (Itt K a) (Hold K O h (.tup ds) (.ref a)) where
  go := fun P0 i ρ σ H S ok hi => by
    obtain ⟨p, vs, e, t1, t2⟩ := (ok.rep S).tup
    cases e
    exact walk_tup.goes i H (by rw [t2.length]; exact hi) (SqT.of t1)
  stop := fun P0 ρ σ H S ok => by
    obtain ⟨p, vs, e, t1, t2⟩ := (ok.rep S).tup
    cases e
    rw [← t2.length]
    exact walk_tup.stops H (SqT.of t1)
  yld := fun P0 i ρ σ H x H' d S ok hd y => by
    obtain ⟨p, vs, e, t1, t2⟩ := (ok.rep S).tup
    cases e
    obtain ⟨v, e1, r⟩ := t2.get hd
    obtain ⟨e2, e3⟩ := walk_tup.yields i H x H' (by rw [t2.length]; exact (List.getElem?_eq_some_iff.mp hd).1) (SqT.of t1) y
    subst e2
    rw [e1] at e3; cases e3
    exact ⟨fun _ _ z => z, r⟩
  keep := fun P0 ρ σ H ρ' σ' H' S k w hw ok => ok.keep S k w hw
  mem := fun P0 ρ σ H ok => ok.mem
  grow := fun P0 P1 ρ σ H H' S w k ok => ok.grow S w k
theorem src_arg {a : Addr} {ns : List Int} : Src K O W (ns.map D.int) h.ws (Itl K a) (Hold K O h (.arg ns) (.ref a)) where
  go := fun P0 i ρ σ H S ok hi => by
    obtain ⟨p, e, t1⟩ := (ok.rep S).arg
    cases e
    exact walk_list.goes i H (by simpa using hi) t1
  stop := fun P0 ρ σ H S ok => by
    obtain ⟨p, e, t1⟩ := (ok.rep S).arg
    cases e
    have := walk_list.stops H t1
    simpa using this
  yld := fun P0 i ρ σ H x H' d S ok hd y => by
    obtain ⟨p, e, t1⟩ := (ok.rep S).arg
    cases e
    obtain ⟨e2, e3⟩ := walk_list.yields i H x H' (by have := (List.getElem?_eq_some_iff.mp hd).1; simpa using this) t1 y
    subst e2
    rw [List.getElem?_map] at e3 hd
    cases q : ns[i]? with
    | none => rw [q] at hd; cases hd
    | some n => rw [q] at hd e3; cases hd; cases e3; exact ⟨fun _ _ z => z, by unfold Rep; rfl⟩
  keep := fun P0 ρ σ H ρ' σ' H' S k w hw ok => ok.keep S k w hw
  mem := fun P0 ρ σ H ok => ok.mem
  grow := fun P0 P1 ρ σ H H' S w k ok => ok.grow S w k
theorem src_range {lo : Int} {n : Nat} : Src K O W ((List.range n).map fun i => D.int (lo + (i : Nat))) [] (Itr lo n) (fun _ _ _ _ => True) where
  go := fun P0 i ρ σ H S ok hi => by simpa [Itr] using hi
  stop := fun P0 ρ σ H S ok => by simp [Itr]
  yld := fun P0 i ρ σ H x H' d S ok hd y => by
    obtain ⟨e1, e2⟩ := y
    subst e1
    rw [List.getElem?_map] at hd
    cases q : (List.range n)[i]? with
    | none => rw [q] at hd; cases hd
    | some j =>
      rw [q] at hd; cases hd
      have : j = i := by
        obtain ⟨h1, h2⟩ := List.getElem?_eq_some_iff.mp q
        simpa using h2.symm
      subst this
      exact ⟨fun _ _ z => z, by unfold Rep; exact e2⟩
  keep := fun _ _ _ _ _ _ _ _ _ _ _ _ => trivial
  mem := fun _ _ _ _ _ w z => nomatch z
  grow := fun _ _ _ _ _ _ _ _ _ _ => trivial
theorem src_str {z : Str} : Src K O W (z.cps.toList.map fun c => D.str ⟨#[c]⟩) [] (Its z) (fun _ _ _ _ => True) where
  go := fun P0 i ρ σ H S ok hi => by simpa [Its] using hi
  stop := fun P0 ρ σ H S ok => by simp [Its]
  yld := fun P0 i ρ σ H x H' d S ok hd y => by
    obtain ⟨e1, c, e2, e3⟩ := y
    subst e1
    rw [List.getElem?_map, Array.getElem?_toList, e2] at hd
    cases hd
    exact ⟨fun _ _ z => z, by unfold Rep; exact e3⟩
  keep := fun _ _ _ _ _ _ _ _ _ _ _ _ => trivial
  mem := fun _ _ _ _ _ w z => nomatch z
  grow := fun _ _ _ _ _ _ _ _ _ _ => trivial
theorem Src.anyw {ds : List D} {J : It} {Ok : Pr → Env → St → Hp → Prop} (q : Src K O W ds [] J Ok) : Src K O W ds h.ws J (fun P0 ρ σ H => Ok P0 ρ σ H ∧ ∀ w ∈ h.ws, w ∈ O) where
  go := fun P0 i ρ σ H S ok => q.go P0 i ρ σ H S ok.1
  stop := fun P0 ρ σ H S ok => q.stop P0 ρ σ H S ok.1
  yld := fun P0 i ρ σ H x H' d S ok => q.yld P0 i ρ σ H x H' d S ok.1
  keep := fun P0 ρ σ H ρ' σ' H' S k w _ ok => ⟨q.keep P0 ρ σ H ρ' σ' H' S k w (fun _ z => nomatch z) ok.1, ok.2⟩
  mem := fun P0 ρ σ H ok => ok.2
  grow := fun P0 P1 ρ σ H H' S w k ok => ⟨q.grow P0 P1 ρ σ H H' S w k ok.1, ok.2⟩
end
def pairsD : List D → List D → List D
  | x :: xs, y :: ys => .tup [x, y] :: pairsD xs ys
  | _, _ => []
theorem pairsD_len : ∀ xs ys : List D, (pairsD xs ys).length = min xs.length ys.length
  | [], _ => by simp [pairsD]
  | _ :: _, [] => by simp [pairsD]
  | x :: xs, y :: ys => by simp [pairsD, pairsD_len xs ys]
theorem pairsD_get : ∀ {xs ys : List D} {i : Nat} {d : D}, (pairsD xs ys)[i]? = some d → ∃ x y, xs[i]? = some x ∧ ys[i]? = some y ∧ d = .tup [x, y]
  | [], _, _, _, h => by simp [pairsD] at h
  | _ :: _, [], _, _, h => by simp [pairsD] at h
  | x :: xs, y :: ys, 0, d, h => by simp [pairsD] at h; exact ⟨x, y, rfl, rfl, h.symm⟩
  | x :: xs, y :: ys, i + 1, d, h => by simpa using pairsD_get (i := i) (by simpa [pairsD] using h)
/-- a new pair at T -/
theorem pair_rep {K : PySem.W.Frag} {H : Hp} {P : Pr} {x y : D} {v w : V} {T : Addr} (hm : ∀ b, P b → isMut (H b)) (hT : H T = none) (h1 : Rep K H x P v) (h2 : Rep K H y P w) : Same H (upd H T (.tup [v, w])) ∧ Rep K (upd H T (.tup [v, w])) (.tup [x, y]) P (.ref T) :=
  ⟨Same.new hT, Rep.newT hm (Reps.cons h1 (Reps.cons h2 Reps.nil)) hT⟩
section
variable {K : PySem.W.Frag} {O W : List Nat} {h h2 : Hd}
end
section
variable {X : Cx} {P0 : Pr} {O W : List Nat} {E : EK} {a b c e tg : Expr} {es : List Expr} {ma mb mc : EM} {ms : AM} {pos : Pos}
abbrev CI (X : Cx) (P0 : Pr) (O W : List Nat) (E : EK) (tg e : Expr) (m : IM) : Prop := PI X tg e (tMi X.K P0 O W E m)
/-- over a list, a tuple, a text, the script -/
def itD : D → R (List D)
  | .lst ds => .ok ds
  | .tup ds => .ok ds
  | .arg ns => .ok (ns.map D.int)
  | .str z => .ok (z.cps.toList.map fun c => D.str ⟨#[c]⟩)
  | _ => .stk
def cIter (m : EM) : IM := fun ρ => do
  let (h, ρ1) ← m ρ
  let d ← (h.d ρ1).nox
  let ds ← (itD d).nox
  if szOk ds.length = true then pure ((ds, h.ws), ρ1) else .stk
theorem ci_any (ha : CEx X P0 O W E a ma) : CI X P0 O W E tg a (cIter ma) := PI.imp (PI.or (pi_list ha) (PI.or (pi_tup ha) (pi_str ha))) fun σ H _ ⟨ρ, S, h⟩ => by
  unfold cIter at h
  cases em : ma ρ with
  | er c ds =>
    rw [em] at h
    exact .inl ⟨ρ, S, by rw [em]; exact h⟩
  | stk => rw [em] at h; exact h.elim
  | ok p =>
    obtain ⟨h1, ρ1⟩ := p
    rw [em] at h
    obtain ⟨d, ed, h⟩ := Res.of_nox (show Res E W σ H ((h1.d ρ1).nox >>= _) _ from h)
    obtain ⟨ds, ei, h⟩ := h.of_nox
    by_cases c : szOk ds.length = true
    · rw [if_pos c] at h
      have hz := of_decide_eq_true c
      cases d <;> simp only [itD, R.ok.injEq, reduceCtorEq] at ei
      · subst ei
        refine .inr (.inr ⟨ρ, S, ?_⟩)
        rw [em]
        intro v H1 S1 k1 r1
        obtain rfl := (r1.d S1 ed).str
        exact ⟨_, rfl, h _ H1 _ S1 k1 src_str.anyw ⟨trivial, (r1.hold ed).mem⟩ hz⟩
      · subst ei
        refine .inr (.inl ⟨ρ, S, ?_⟩)
        rw [em]
        intro v H1 S1 k1 r1
        obtain ⟨p, vs, rfl, t1, t2⟩ := (r1.d S1 ed).tup
        exact ⟨p, rfl, ⟨vs, SqT.of t1⟩, h _ H1 _ S1 k1 src_tup (r1.hold ed) hz⟩
      · subst ei
        refine .inl ⟨ρ, S, ?_⟩
        rw [em]
        intro v H1 S1 k1 r1
        obtain ⟨p, vs, rfl, t1, t2⟩ := (r1.d S1 ed).lst
        exact ⟨p, rfl, ⟨vs, SqL.of t1⟩, h _ H1 _ S1 k1 src_list (r1.hold ed) hz⟩
      · subst ei
        refine .inl ⟨ρ, S, ?_⟩
        rw [em]
        intro v H1 S1 k1 r1
        obtain ⟨p, rfl, t1⟩ := (r1.d S1 ed).arg
        exact ⟨p, rfl, ⟨_, t1⟩, h _ H1 _ S1 k1 src_arg (r1.hold ed) hz⟩
    · rw [if_neg c] at h
      exact h.elim
def rngOk (i : Int) : Bool := decide (-(2 ^ 62) ≤ i ∧ i < 2 ^ 62)
def rng1D : List D → R (List D)
  | [.int j] => if rngOk j = true then .ok ((List.range j.toNat).map fun i => D.int (0 + (i : Nat))) else .stk
  | _ => .stk
def rng2D : List D → R (List D)
  | [.int i, .int j] => if (rngOk i && rngOk j) = true then .ok ((List.range (j - i).toNat).map fun k => D.int (i + (k : Nat))) else .stk
  | _ => .stk
def cRange (f : List D → R (List D)) (m : AM) : IM := fun ρ => do
  let (hs, ρ1) ← m ρ
  let ds ← (vsOf hs).nox
  let xs ← (f ds).nox
  if szOk xs.length = true then pure ((xs, []), ρ1) else .stk
theorem ci_range1 {p : Pos} (hm : X.mg "range" = none) (ha : CA X P0 O W E [a] ms) (hg : Gl X "range" := by rfl) (hs : starEach [a] X.env = [(false, eval a X.env)] := by rfl) : CI X P0 O W E tg (.Call (.Name "range" p) [a] [] pos) (cRange rng1D ms) := PI.imp (pi_range1 hg hm ha hs) fun σ H R ⟨ρ, S, h⟩ => by
  refine ⟨ρ, S, h.of_bind.mono fun ⟨hs, ρ1⟩ q vs H1 S1 k1 r1 => ?_⟩
  obtain ⟨ds, e1, q⟩ := q.of_nox
  obtain ⟨xs, e2, q⟩ := q.of_nox
  have rr := HdRs.vs r1 e1
  by_cases c : szOk xs.length = true
  · rw [if_pos c] at q
    unfold rng1D at e2
    split at e2
    · split at e2
      · rename_i j z; cases e2
        obtain ⟨v, ws, rfl, h1, h2⟩ := rr.cons_iff
        have h2 := h2.nil_iff
        subst h2
        unfold Rep at h1
        subst h1
        unfold rngOk at z
        have z := of_decide_eq_true z
        exact ⟨_, rfl, z.1, z.2, q _ H1 _ S1 k1 src_range trivial (of_decide_eq_true c)⟩
      · cases e2
    · cases e2
  · rw [if_neg c] at q
    exact q.elim
theorem ci_range2 {p : Pos} (hm : X.mg "range" = none) (ha : CA X P0 O W E [a, b] ms) (hg : Gl X "range" := by rfl) (hs : starEach [a, b] X.env = [(false, eval a X.env), (false, eval b X.env)] := by rfl) (hs2 : starEach [b] X.env = [(false, eval b X.env)] := by rfl) : CI X P0 O W E tg (.Call (.Name "range" p) [a, b] [] pos) (cRange rng2D ms) := PI.imp (pi_range2 hg hm ha hs hs2) fun σ H R ⟨ρ, S, h⟩ => by
  refine ⟨ρ, S, h.of_bind.mono fun ⟨hs, ρ1⟩ q vs H1 S1 k1 r1 => ?_⟩
  obtain ⟨ds, e1, q⟩ := q.of_nox
  obtain ⟨xs, e2, q⟩ := q.of_nox
  have rr := HdRs.vs r1 e1
  by_cases c : szOk xs.length = true
  · rw [if_pos c] at q
    unfold rng2D at e2
    split at e2
    · split at e2
      · rename_i i j z; cases e2
        obtain ⟨v, ws, rfl, h1, h2⟩ := rr.cons_iff
        obtain ⟨w, us, rfl, h3, h4⟩ := h2.cons_iff
        have h4 := h4.nil_iff
        subst h4
        unfold Rep at h1 h3
        subst h1
        subst h3
        rw [Bool.and_eq_true] at z
        unfold rngOk at z
        have z1 := of_decide_eq_true z.1
        have z2 := of_decide_eq_true z.2
        exact ⟨_, _, rfl, ⟨z1.1, z1.2, z2.1, z2.2⟩, q _ H1 _ S1 k1 src_range trivial (of_decide_eq_true c)⟩
      · cases e2
    · cases e2
  · rw [if_neg c] at q
    exact q.elim
end
end Y

set_option Elab.async false
set_option linter.all false
set_option maxRecDepth 100000
namespace Y
open PySem PySem.Spec PyProof.Rows L2

theorem OA_of {O : List Nat} {σ σ' : St} (h : ∀ i ∈ O, σ'[i]? = σ[i]?) (b : Addr) : OA O σ' b ↔ OA O σ b := by
  constructor
  · rintro ⟨i, hi, e⟩; exact ⟨i, hi, (h i hi).symm.trans e⟩
  · rintro ⟨i, hi, e⟩; exact ⟨i, hi, (h i hi).trans e⟩
section
variable {K : PySem.W.Frag} {P0 P1 : Pr} {O W : List Nat} {ρ ρ' : Env} {σ σ' : St} {H H' : Hp} {d : D} {v : V}
theorem FA_of (h : ∀ i ∈ O, σ'[i]? = σ[i]?) (b : Addr) : FA P0 O σ' b ↔ FA P0 O σ b := or_congr Iff.rfl (OA_of h b)
/-- other slots, less known -/
theorem Sim.move (S : Sim K P0 O W ρ σ H) (hl : ρ'.length ≤ σ'.length) (ho : ∀ i ∈ O, σ'[i]? = σ[i]?) (hρ : ∀ i ∈ O, ∀ d, ρ'[i]? = some (some d) → ρ[i]? = some (some d))
    (hv : ∀ (i : Nat) d, ρ'[i]? = some (some d) → i ∉ O → ∃ v, σ'[i]? = some (some v) ∧ Rep K H d (FA P0 O σ) v) : Sim K P0 O W ρ' σ' H where
  sub := S.sub
  len := hl
  dom := fun b z => S.dom b ((FA_of ho b).mp z)
  val := fun i d e n => by
    obtain ⟨v, h1, h2⟩ := hv i d e n
    exact ⟨v, h1, h2.less S.dom fun b z => (FA_of ho b).mp z⟩
  own := fun i d e n => by
    obtain ⟨v, h1, h2⟩ := S.own i d (hρ i n d e) n
    refine ⟨v, (ho i n).trans h1, ?_⟩
    have fa : ∀ b, FA P0 O σ' b → FA P0 O σ b := fun b z => (FA_of ho b).mp z
    cases d with
    | lst ds => obtain ⟨a, vs, rfl, ht, hr⟩ := h2; exact ⟨a, vs, rfl, ht, hr.less S.dom fa⟩
    | dik ks ds => obtain ⟨a, vs, rfl, hl, ht, hr⟩ := h2; exact ⟨a, vs, rfl, hl, ht, hr.less S.dom fa⟩
    | dit ks ds => obtain ⟨a, vs, rfl, hl, ht, hr⟩ := h2; exact ⟨a, vs, rfl, hl, ht, hr.less S.dom fa⟩
    | non => exact h2
    | bl _ => exact h2
    | int _ => exact h2
    | str _ => exact h2
    | tup _ => exact h2
    | arg _ => exact h2
  sep := fun i j a hi hj e1 e2 => S.sep i j a hi hj ((ho i hi).symm.trans e1) ((ho j hj).symm.trans e2)
  sep0 := fun a z => S.sep0 a ((OA_of ho a).mp z)
theorem Sim.set (S : Sim K P0 O W ρ σ H) {i : Nat} (hi : i ∉ O) (r : Rep K H d (FA P0 O σ) v) : Sim K P0 O W (ρ.set i (some d)) (σ.set i (some v)) H := by
  refine S.move (by simpa using S.len) (fun j hj => ?_) (fun j hj d' e => ?_) fun j d' e n => ?_
  · exact List.getElem?_set_ne (fun (e : i = j) => hi (by rw [e]; exact hj))
  · rwa [List.getElem?_set_ne (fun (e : i = j) => hi (by rw [e]; exact hj))] at e
  · by_cases hj : i = j
    · subst hj
      have h1 : i < ρ.length := by
        have := (List.getElem?_eq_some_iff.mp e).1
        simpa using this
      rw [List.getElem?_set_self h1] at e
      cases e
      exact ⟨v, List.getElem?_set_self (Nat.lt_of_lt_of_le h1 S.len), r⟩
    · rw [List.getElem?_set_ne hj] at e ⊢
      exact S.val j d' e n
/-- forgetting -/
def wipeE (ρ : Env) : List Nat → Env
  | [] => ρ
  | i :: is => (wipeE ρ is).set i none
theorem wipeE_length (ρ : Env) : ∀ is, (wipeE ρ is).length = ρ.length
  | [] => rfl
  | i :: is => by unfold wipeE; rw [List.length_set, wipeE_length ρ is]
theorem wipeE_some : ∀ {is : List Nat} {j : Nat} {d : D}, (wipeE ρ is)[j]? = some (some d) → ρ[j]? = some (some d) ∧ j ∉ is
  | [], j, d, e => ⟨e, by simp⟩
  | i :: is, j, d, e => by
    unfold wipeE at e
    by_cases hj : i = j
    · subst hj
      by_cases hl : i < (wipeE ρ is).length
      · rw [List.getElem?_set_self hl] at e; cases e
      · rw [List.getElem?_eq_none (by simpa using hl)] at e; cases e
    · rw [List.getElem?_set_ne hj] at e
      obtain ⟨h1, h2⟩ := wipeE_some e
      exact ⟨h1, by simp only [List.mem_cons, not_or]; exact ⟨fun z => hj z.symm, h2⟩⟩
theorem Sim.wipe (S : Sim K P0 O W ρ σ H) (is : List Nat) : Sim K P0 O W (wipeE ρ is) σ H :=
  S.move (by rw [wipeE_length]; exact S.len) (fun _ _ => rfl) (fun i _ d e => (wipeE_some e).1) fun i d e n => S.val i d (wipeE_some e).1 n
theorem wipe_ne {is : List Nat} {j : Nat} (h : j ∉ is) : (L2.wipe σ is)[j]? = σ[j]? := wipe_out h
/-- a comprehension's own names -/
theorem Sim.wipe2 (S : Sim K P0 O W ρ σ H) {is : List Nat} (h : ∀ i ∈ is, i ∉ O) : Sim K P0 O W (wipeE ρ is) (L2.wipe σ is) H := by
  refine S.move (by rw [wipeE_length, L2.wipe_length]; exact S.len) (fun i hi => wipe_ne fun z => h i z hi) (fun i _ d e => (wipeE_some e).1) fun i d e n => ?_
  obtain ⟨e1, e2⟩ := wipeE_some e
  rw [wipe_ne e2]
  exact S.val i d e1 n
/-- back from the block: the wiped slots are not told -/
theorem Sim.out {is : List Nat} (S : Sim K P0 O W ρ (L2.wipe σ is) H) (h : ∀ i ∈ is, i ∉ O) (hρ : ∀ i ∈ is, ∀ d, ρ[i]? ≠ some (some d)) : Sim K P0 O W ρ σ H := by
  refine S.move (by have := S.len; rwa [L2.wipe_length] at this) (fun i hi => (wipe_ne fun z => h i z hi).symm) (fun i _ d e => e) fun i d e n => ?_
  obtain ⟨v, h1, h2⟩ := S.val i d e n
  rw [wipe_ne fun z => hρ i z d e] at h1
  exact ⟨v, h1, h2⟩
/-- one more object is forbidden -/
theorem Sim.more (S : Sim K P0 O W ρ σ H) {q : Addr} {vs : List V} (hq : H q = none) : Sim K (fun b => P0 b ∨ b = q) O W ρ σ (upd H q (.lst vs)) := by
  have S' := S.same (Same.new (o := .lst vs) hq)
  have fa : ∀ b, FA (fun b => P0 b ∨ b = q) O σ b → FA P0 O σ b ∨ H b = none := fun b z => by
    rcases z with (z | z) | z
    · exact .inl (.inl z)
    · rw [z]; exact .inr hq
    · exact .inl (.inr z)
  refine ⟨S.sub, S.len, fun b z => ?_, fun i d e n => ?_, fun i d e n => ?_, S.sep, fun a z => ?_⟩
  · rcases z with (z | z) | z
    · exact S'.dom b (.inl z)
    · rw [z, upd_same]; trivial
    · exact S'.dom b (.inr z)
  · obtain ⟨v, h1, h2⟩ := S.val i d e n
    exact ⟨v, h1, h2.mono d S.dom (fun b o e _ => Same.new hq b o e) fa⟩
  · obtain ⟨v, h1, h2⟩ := S.own i d e n
    refine ⟨v, h1, ?_⟩
    cases d with
    | lst ds => obtain ⟨a, vs, rfl, ht, hr⟩ := h2; exact ⟨a, vs, rfl, Same.new hq _ _ ht, hr.mono ds S.dom (fun b o e _ => Same.new hq b o e) fa⟩
    | dik ks ds => obtain ⟨a, vs, rfl, hl, ht, hr⟩ := h2; exact ⟨a, vs, rfl, hl, Same.new hq _ _ ht, hr.mono ds S.dom (fun b o e _ => Same.new hq b o e) fa⟩
    | dit ks ds => obtain ⟨a, vs, rfl, hl, ht, hr⟩ := h2; exact ⟨a, vs, rfl, hl, Same.new hq _ _ ht, hr.mono ds S.dom (fun b o e _ => Same.new hq b o e) fa⟩
    | non => exact h2
    | bl _ => exact h2
    | int _ => exact h2
    | str _ => exact h2
    | tup _ => exact h2
    | arg _ => exact h2
  · rintro (y | y)
    · exact S.sep0 a z y
    · subst y
      exact (S.dom a (.inr z)).some hq
theorem Sim.lessP (S : Sim K P1 O W ρ σ H) (h : ∀ b, P0 b → P1 b) : Sim K P0 O W ρ σ H := by
  have fa : ∀ b, FA P0 O σ b → FA P1 O σ b := fun b z => z.imp (h b) id
  refine ⟨S.sub, S.len, fun b z => S.dom b (fa b z), fun i d e n => ?_, fun i d e n => ?_, S.sep, fun a z y => S.sep0 a z (h a y)⟩
  · obtain ⟨v, h1, h2⟩ := S.val i d e n
    exact ⟨v, h1, h2.less S.dom fa⟩
  · obtain ⟨v, h1, h2⟩ := S.own i d e n
    refine ⟨v, h1, ?_⟩
    cases d with
    | lst ds => obtain ⟨a, vs, rfl, ht, hr⟩ := h2; exact ⟨a, vs, rfl, ht, hr.less S.dom fa⟩
    | dik ks ds => obtain ⟨a, vs, rfl, hl, ht, hr⟩ := h2; exact ⟨a, vs, rfl, hl, ht, hr.less S.dom fa⟩
    | dit ks ds => obtain ⟨a, vs, rfl, hl, ht, hr⟩ := h2; exact ⟨a, vs, rfl, hl, ht, hr.less S.dom fa⟩
    | non => exact h2
    | bl _ => exact h2
    | int _ => exact h2
    | str _ => exact h2
    | tup _ => exact h2
    | arg _ => exact h2
/-- a forbidden object is written -/
theorem Sim.wr (S : Sim K P0 O W ρ σ H) {q : Addr} {o : HO} (hq : P0 q) (ho : isMut (some o)) : Sim K P0 O W ρ σ (upd H q o) := by
  have k : ∀ b u, H b = some u → ¬ FA P0 O σ b → upd H q o b = some u := fun b u e n => by rw [upd_ne fun (z : b = q) => n (.inl (by rw [z]; exact hq))]; exact e
  have ne : ∀ {i a}, i ∈ O → σ[i]? = some (some (V.ref a)) → a ≠ q := fun {i a} hi e z => S.sep0 a ⟨i, hi, e⟩ (by rw [z]; exact hq)
  refine ⟨S.sub, S.len, fun b z => ?_, fun i d e n => ?_, fun i d e n => ?_, S.sep, S.sep0⟩
  · by_cases hb : b = q
    · rw [hb, upd_same]; exact ho
    · rw [upd_ne hb]; exact S.dom b z
  · obtain ⟨v, h1, h2⟩ := S.val i d e n
    exact ⟨v, h1, h2.of_same S.dom k⟩
  · obtain ⟨v, h1, h2⟩ := S.own i d e n
    refine ⟨v, h1, ?_⟩
    cases d with
    | lst ds => obtain ⟨a, vs, rfl, ht, hr⟩ := h2; exact ⟨a, vs, rfl, by rw [upd_ne (ne n h1)]; exact ht, hr.mono ds S.dom k fun _ z => .inl z⟩
    | dik ks ds => obtain ⟨a, vs, rfl, hl, ht, hr⟩ := h2; exact ⟨a, vs, rfl, hl, by rw [upd_ne (ne n h1)]; exact ht, hr.mono ds S.dom k fun _ z => .inl z⟩
    | dit ks ds => obtain ⟨a, vs, rfl, hl, ht, hr⟩ := h2; exact ⟨a, vs, rfl, hl, by rw [upd_ne (ne n h1)]; exact ht, hr.mono ds S.dom k fun _ z => .inl z⟩
    | non => exact h2
    | bl _ => exact h2
    | int _ => exact h2
    | str _ => exact h2
    | tup _ => exact h2
    | arg _ => exact h2
end

def setAll (ρ : Env) : List Nat → List D → Env
  | i :: is, d :: ds => setAll (ρ.set i (some d)) is ds
  | _, _ => ρ
abbrev GM := D → Env → R Env
def tmName (i : Nat) : GM := fun d ρ => .ok (ρ.set i (some d))
def tmTup (is : List Nat) : GM := fun d ρ => match d with
  | .tup ds => if ds.length = is.length then .ok (setAll ρ is ds) else .stk
  | _ => .stk
def tG (K : PySem.W.Frag) (P0 : Pr) (O W : List Nat) (tm : GM) (is : List Nat) : TG := fun v σ H Q => ∃ ρ d ρ', Sim K P0 O W ρ σ H ∧ Rep K H d (FA P0 O σ) v ∧ tm d ρ = .ok ρ' ∧
  ∀ σ', Sim K P0 O W ρ' σ' H → σ'.length = σ.length → (∀ j, j ∉ is → σ'[j]? = σ[j]?) → Q σ' H
theorem PG.imp {X : Cx} {e : Expr} {t t' : TG} (h : PG X e t) (i : ∀ v σ H Q, t' v σ H Q → t v σ H Q) : PG X e t' := by
  cases h with
  | mk h => exact ⟨fun pins s σ H v u Q I r q => h pins s σ H v u Q I r (i v σ H Q q)⟩
section
variable {X : Cx} {P0 : Pr} {O W : List Nat} {pos : Pos}
abbrev CG (X : Cx) (P0 : Pr) (O W : List Nat) (tg : Expr) (tm : GM) (is : List Nat) : Prop := PG X tg (tG X.K P0 O W tm is)
theorem cg_name (i : Nat) {x : Str} (hN : X.N.Nodup) (ho : i ∉ O := by decide) (hi : X.N[i]? = some x := by rfl) (hx : Loc X.env.scope x := by first | exact Or.inl rfl | exact Or.inr rfl) (hf : X.fn x = true ∨ X.env.scope.names.lookup x = some .local := by first | exact .inl rfl | exact .inr rfl) : CG X P0 O W (.Name x pos) (tmName i) [i] :=
  PG.imp (pg_name hN hi hx hf) fun v σ H Q ⟨ρ, d, ρ', S, r, e, q⟩ => by
    cases e
    exact q _ (S.set ho r) (by simp) fun j hj => List.getElem?_set_ne fun z => hj (by simp [z])
def gNames : List Nat → TGs
  | [] => gNil
  | i :: is => gCons (gName i) (gNames is)
theorem names_ok {K : PySem.W.Frag} {H : Hp} {Q : St → Hp → Prop} : ∀ {is : List Nat} {ds : List D} {vs : List V} {ρ : Env} {σ : St}, (∀ i ∈ is, i ∉ O) → ds.length = is.length → Sim K P0 O W ρ σ H → Reps K H ds (FA P0 O σ) vs →
    (∀ σ', Sim K P0 O W (setAll ρ is ds) σ' H → σ'.length = σ.length → (∀ j, j ∉ is → σ'[j]? = σ[j]?) → Q σ' H) → gNames is vs σ H Q
  | [], [], vs, ρ, σ, _, _, S, r, q => ⟨r.nil_iff, q σ S rfl fun _ _ => rfl⟩
  | [], _ :: _, _, _, _, _, hl, _, _, _ => by simp at hl
  | _ :: _, [], _, _, _, _, hl, _, _, _ => by simp at hl
  | i :: is, d :: ds, vs, ρ, σ, ho, hl, S, r, q => by
    obtain ⟨v, ws, rfl, r1, r2⟩ := r.cons_iff
    have hi : i ∉ O := ho i (by simp)
    have S1 := S.set hi r1
    have fa : ∀ j ∈ O, (σ.set i (some v))[j]? = σ[j]? := fun j hj => List.getElem?_set_ne fun (z : i = j) => hi (by rw [z]; exact hj)
    refine ⟨v, ws, rfl, names_ok (fun j hj => ho j (by simp [hj])) (by simpa using hl) S1 (r2.less S.dom fun b z => (FA_of fa b).mp z) fun σ' S' h1 h2 => ?_⟩
    exact q σ' S' (by rw [h1]; simp) fun j hj => by
      rw [h2 j fun z => hj (by simp [z])]
      exact List.getElem?_set_ne fun z => hj (by simp [z])
theorem cg_tup {es : List Expr} {k : Nat} (is : List Nat) (hc : X.calm = true) (h : PGs X es (gNames is)) (ho : ∀ i ∈ is, i ∉ O := by decide) (hst : (assignEach es X.env).findIdx? (·.1) = none := by rfl) (hn : (assignEach es X.env).length = is.length := by rfl) : CG X P0 O W (.Tuple es k pos) (tmTup is) is :=
  PG.imp (pg_tup hc h hn hst) fun v σ H Q ⟨ρ, d, ρ', S, r, e, q⟩ => by
    unfold tmTup at e
    split at e
    · split at e
      · rename_i hl; cases e
        unfold Rep at r
        obtain ⟨a, vs, rfl, h1, h2⟩ := r
        exact ⟨a, vs, rfl, SqT.of h1, by rw [h2.length, hl], names_ok ho hl S h2 q⟩
      · cases e
    · cases e
theorem cgs_nil : PGs X [] (gNames []) := pgs_nil
theorem cgs_cons {es : List Expr} {is : List Nat} (i : Nat) {x : Str} {p : Pos} (hN : X.N.Nodup) (h2 : PGs X es (gNames is)) (hi : X.N[i]? = some x := by rfl) (hx : Loc X.env.scope x := by first | exact Or.inl rfl | exact Or.inr rfl) (hf : X.fn x = true ∨ X.env.scope.names.lookup x = some .local := by first | exact .inl rfl | exact .inr rfl) :
    PGs X (.Name x p :: es) (gNames (i :: is)) := pgs_cons (pg_name hN hi hx hf) h2
end

open Classical in
/-- the slots that are read from stay -/
noncomputable def chk (ws : List Nat) (ρ ρ' : Env) : R Unit := if ∀ w ∈ ws, ρ'[w]? = ρ[w]? then .ok () else .stk
@[simp] theorem chk_nil {ρ ρ' : Env} : chk [] ρ ρ' = .ok () := by unfold chk; rw [if_pos]; intro w hw; cases hw
theorem chk_ok {ws : List Nat} {ρ ρ' : Env} (h : chk ws ρ ρ' = .ok ()) : ∀ w ∈ ws, ρ'[w]? = ρ[w]? := by
  unfold chk at h
  split at h
  · assumption
  · cases h
noncomputable def cCompL (tm : GM) (t : BM) (e : EM) (vs ws : List Nat) : List D → Env → R (List D × Env)
  | [], ρ => .ok ([], ρ)
  | x :: xs, ρ => do
    let ρ1 ← tm x ρ
    let (k, ρ2) ← t ρ1
    if k = true then do
      let (h, ρ3) ← e ρ2
      let d ← h.v
      let _ ← chk ws ρ (wipeE ρ3 vs)
      let (ys, ρ5) ← cCompL tm t e vs ws xs (wipeE ρ3 vs)
      pure (d :: ys, ρ5)
    else do
      let _ ← chk ws ρ (wipeE ρ2 vs)
      cCompL tm t e vs ws xs (wipeE ρ2 vs)
noncomputable def cComp (im : IM) (tm : GM) (t : BM) (e : EM) (vs : List Nat) : EM := fun ρ => do
  let ((ds, ws), ρ1) ← im ρ
  let (ys, ρ2) ← (cCompL tm t e vs ws ds (wipeE ρ1 vs)).nox
  pure (.fr (.lst ys), ρ2)
def cYes : BM := fun ρ => .ok (true, ρ)
abbrev E00 : EK := fun _ _ _ => False
/-- one turn -/
inductive CStep (tm : GM) (t : BM) (e : EM) (vs ws : List Nat) (x : D) (xs : List D) (ρ : Env) (ys : List D) (ρf : Env) : Prop where
  | yes (ρ1 ρ2 ρ3 : Env) (h : Hd) (d : D) (ys' : List D) (e1 : tm x ρ = .ok ρ1) (e2 : t ρ1 = .ok (true, ρ2)) (e3 : e ρ2 = .ok (h, ρ3)) (e4 : h.v = .ok d) (e5 : chk ws ρ (wipeE ρ3 vs) = .ok ()) (e6 : cCompL tm t e vs ws xs (wipeE ρ3 vs) = .ok (ys', ρf)) (e7 : ys = d :: ys')
  | no (ρ1 ρ2 : Env) (e1 : tm x ρ = .ok ρ1) (e2 : t ρ1 = .ok (false, ρ2)) (e5 : chk ws ρ (wipeE ρ2 vs) = .ok ()) (e6 : cCompL tm t e vs ws xs (wipeE ρ2 vs) = .ok (ys, ρf))
theorem cComp_step {tm : GM} {t : BM} {e : EM} {vs ws : List Nat} {x : D} {xs : List D} {ρ : Env} {ys : List D} {ρf : Env} (h : cCompL tm t e vs ws (x :: xs) ρ = .ok (ys, ρf)) : CStep tm t e vs ws x xs ρ ys ρf := by
  unfold cCompL at h
  obtain ⟨ρ1, e1, h⟩ := R.ok_of h
  obtain ⟨⟨k, ρ2⟩, e2, h⟩ := R.ok_of h
  cases k with
  | true =>
    have h : (e ρ2 >>= _) = R.ok (ys, ρf) := h
    obtain ⟨⟨hd, ρ3⟩, e3, h⟩ := R.ok_of h
    obtain ⟨d, e4, h⟩ := R.ok_of h
    obtain ⟨_, e5, h⟩ := R.ok_of h
    obtain ⟨⟨ys', ρ5⟩, e6, h⟩ := R.ok_of h
    cases h
    exact .yes ρ1 ρ2 ρ3 hd d ys' e1 e2 e3 e4 e5 e6 rfl
  | false =>
    have h : (chk ws ρ (wipeE ρ2 vs) >>= _) = R.ok (ys, ρf) := h
    obtain ⟨_, e5, h⟩ := R.ok_of h
    exact .no ρ1 ρ2 e1 e2 e5 h
end Y

set_option Elab.async false
set_option linter.all false
set_option maxRecDepth 100000
namespace Y
open PySem PySem.Spec PyProof.Rows L2

theorem wipe_same {σ σ' : St} {vs : List Nat} (hl : σ'.length = σ.length) (h : ∀ j, j ∉ vs → σ'[j]? = σ[j]?) : L2.wipe σ' vs = L2.wipe σ vs := by
  apply List.ext_getElem?
  intro j
  by_cases hj : j ∈ vs
  · have q : ∀ (τ : St), (L2.wipe τ vs)[j]? = if j < τ.length then some none else none := fun τ => by
      have hlen := L2.wipe_length τ vs
      cases e : (L2.wipe τ vs)[j]? with
      | none =>
        rw [List.getElem?_eq_none_iff] at e
        rw [if_neg (by omega)]
      | some o =>
        have := (List.getElem?_eq_some_iff.mp e).1
        rw [if_pos (by omega)]
        cases o with
        | none => rfl
        | some v => exact absurd hj (wipe_some e).2
    rw [q, q, hl]
  · rw [wipe_ne hj, wipe_ne hj, h j hj]
theorem wipe_idem {σ : St} {vs : List Nat} : L2.wipe (L2.wipe σ vs) vs = L2.wipe σ vs := wipe_same (L2.wipe_length σ vs) fun j hj => wipe_ne hj
theorem wipeE_none {ρ : Env} {vs : List Nat} : ∀ i ∈ vs, ∀ d, (wipeE ρ vs)[i]? ≠ some (some d) := fun i hi d e => (wipeE_some e).2 hi
section
variable {X : Cx} {P0 : Pr} {O W : List Nat} {E : EK} {a b c e tg : Expr} {es : List Expr} {ma mb mc : EM} {ms : AM} {pos : Pos}
theorem PE.ex {e : Expr} {m : EM} (h : ∀ P0, CEx X P0 O W E e m) : PE X e (fun σ H Q => ∃ P0, tM X.K P0 O W E m σ H Q) := ⟨fun pins s σ H Q I ⟨P0, q⟩ => (h P0).run pins s σ H Q I q⟩
theorem PT.ex {e : Expr} {m : BM} (h : ∀ P0, CT X P0 O W E e m) : PT X e (fun σ H Q => ∃ P0, tMt X.K P0 O W E m σ H Q) := ⟨fun pins s σ H Q I ⟨P0, q⟩ => (h P0).run pins s σ H Q I q⟩
theorem PG.ex {e : Expr} {m : GM} {is : List Nat} (h : ∀ P0, CG X P0 O W e m is) : PG X e (fun v σ H Q => ∃ P0, tG X.K P0 O W m is v σ H Q) := by
  refine ⟨fun pins s σ H v u Q I r ⟨P0, q⟩ => ?_⟩
  cases h P0 with
  | mk h => exact h pins s σ H v u Q I r q
/-- the tests of a comprehension -/
abbrev CTs (X : Cx) (O W : List Nat) (E : EK) (ifs : List Expr) (m : BM) : Prop := PTs X ifs (fun σ H Q => ∃ P0, tMt X.K P0 O W E m σ H Q)
theorem cts_nil : CTs X O W E [] cYes := by
  cases (pts_nil (X := X)) with
  | mk h => exact ⟨fun pins s σ H Q I ⟨P0, ρ, S, q⟩ => h pins s σ H Q I (q H S .refl)⟩
theorem cts_one {m : BM} (h : ∀ P0, CT X P0 O W E c m) : CTs X O W E [c] m := pts_one (PT.ex h)
theorem comp_core {K : PySem.W.Frag} {im : IM} {tm : GM} {t : BM} {me : EM} {is vs : List Nat} (hv : ∀ i ∈ is, i ∈ vs) (ho : ∀ i ∈ vs, i ∉ O) (σ : St) (H : Hp) (Q : VK) (h : tM K P0 O W E (cComp im tm t me vs) σ H Q) :
    tLc (tMi K P0 O W E im) (fun v σ H Q => ∃ P0, tG K P0 O W tm is v σ H Q) (fun σ H Q => ∃ P0, tMt K P0 O W E00 t σ H Q) (fun σ H Q => ∃ P0, tM K P0 O W E00 me σ H Q) vs σ H Q := by
  obtain ⟨ρ, S, h⟩ := h
  refine ⟨ρ, S, h.of_bind.mono fun ⟨⟨ds, ws⟩, ρ1⟩ q J H1 Ok S1 k1 src ok hz Dn hD => ?_⟩
  obtain ⟨⟨ys, ρf⟩, er, q⟩ := q.of_nox
  have src : Src K O W ds ws J Ok := src
  have hz : ds.length ≤ sizeLine := hz
  generalize hP : (fun b => P0 b ∨ b = Dn : Pr) = P1
  have pD : P1 Dn := by subst hP; exact .inr rfl
  have pI : ∀ b, P0 b → P1 b := by subst hP; exact fun b z => .inl z
  have pO : ∀ b, P1 b → P0 b ∨ b = Dn := by subst hP; exact fun b z => z
  have S2 : Sim K P1 O W ρ1 σ (upd H1 Dn (.lst [])) := by subst hP; exact S1.more hD
  have ok2 : Ok P1 ρ1 σ (upd H1 Dn (.lst [])) := src.grow P0 _ ρ1 σ H1 _ S1 (fun b z => (pO b z).elim .inl fun z => .inr (by rw [z]; exact hD)) (Same.new hD) ok
  have wO : ∀ w ∈ ws, w ∉ vs := fun w hw z => ho w z (src.mem _ _ _ _ ok w hw)
  have sO : ∀ i ∈ O, (L2.wipe σ vs)[i]? = σ[i]? := fun i hi => wipe_ne fun y => ho i y hi
  have S3 : Sim K P1 O W (wipeE ρ1 vs) (L2.wipe σ vs) (upd H1 Dn (.lst [])) := S2.wipe2 ho
  have nD : ¬ OA O (L2.wipe σ vs) Dn := fun z => (S1.dom Dn (.inr ((OA_of sO Dn).mp z))).some hD
  have ok3 : Ok P1 (wipeE ρ1 vs) (L2.wipe σ vs) (upd H1 Dn (.lst [])) := src.keep P1 ρ1 σ _ _ _ _ S2 (fun _ _ e _ => e) (fun b z => .inl ((FA_of sO b).mp z)) (fun w hw => ⟨wipe_ne (wO w hw), by
    cases e : (wipeE ρ1 vs)[w]? with
    | none =>
      have : ρ1.length ≤ w := by rw [← wipeE_length ρ1 vs]; exact List.getElem?_eq_none_iff.mp e
      rw [List.getElem?_eq_none this]
    | some o =>
      have q2 : ∀ (is : List Nat), w ∉ is → (wipeE ρ1 is)[w]? = ρ1[w]? := fun is => by
        induction is with
        | nil => intro _; rfl
        | cons i is ih =>
          intro hn
          simp only [List.mem_cons, not_or] at hn
          unfold wipeE
          rw [List.getElem?_set_ne fun z => hn.1 z.symm]
          exact ih hn.2
      rw [← e, q2 vs (wO w hw)]⟩) ok2
  -- the invariant
  let I : Nat → Hp → Prop := fun i Hx => i ≤ ds.length ∧ ∃ (ρx : Env) (acc : List V) (yd rest : List D), Sim K P1 O W ρx (L2.wipe σ vs) Hx ∧ Ok P1 ρx (L2.wipe σ vs) Hx ∧ Hx Dn = some (.lst acc) ∧ Reps K Hx yd (FA P1 O (L2.wipe σ vs)) acc ∧ acc.length ≤ i ∧
    cCompL tm t me vs ws (ds.drop i) ρx = .ok (rest, ρf) ∧ ys = yd ++ rest ∧ (∀ b o, H1 b = some o → ¬ OA W σ b → Hx b = some o) ∧ (∀ b, H1 b ≠ none → Hx b ≠ none) ∧ (∀ j ∈ vs, ∀ d, ρx[j]? ≠ some (some d))
  refine ⟨fun i m Hx => m = ds.length - i ∧ I i Hx, ⟨ds.length, by simp, Nat.zero_le _, wipeE ρ1 vs, [], [], ys, S3, ok3, upd_same, Reps.nil, Nat.le_refl _, er, rfl, fun b o e _ => Same.new hD b o e, fun b e => Same.some (Same.new hD) b e, wipeE_none⟩, ?_⟩
  rintro i m Hx ⟨rfl, hi, ρx, acc, yd, rest, Sx, okx, hDx, hR, hacc, hC, hys, kx, sx, nx⟩
  by_cases hlt : i < ds.length
  · right
    refine ⟨src.go P1 i ρx _ Hx Sx okx hlt, I (i + 1), fun H' p' => ⟨ds.length - (i + 1), by omega, rfl, p'⟩, fun x' H' y => ?_⟩
    obtain ⟨sm, rx⟩ := src.yld P1 i ρx _ Hx x' H' ds[i] Sx okx (List.getElem?_eq_getElem hlt) y
    rw [List.drop_eq_getElem_cons hlt] at hC
    have back : ∀ {σ2 : St}, σ2.length = (L2.wipe σ vs).length → (∀ j, j ∉ is → σ2[j]? = (L2.wipe σ vs)[j]?) → L2.wipe σ2 vs = L2.wipe σ vs ∧ ∀ j ∈ O, σ2[j]? = (L2.wipe σ vs)[j]? := fun {σ2} h1 h2 =>
      ⟨(wipe_same h1 fun j hj => h2 j fun z => hj (hv j z)).trans wipe_idem, fun j hj => h2 j fun z => ho j (hv j z) hj⟩
    -- from the turn's end to the next turn
    have next : ∀ {σ2 : St} {ρ3 : Env} {H4 : Hp} {acc' : List V} {yd' rest' : List D}, σ2.length = (L2.wipe σ vs).length → (∀ j, j ∉ is → σ2[j]? = (L2.wipe σ vs)[j]?) → Sim K P1 O W ρ3 σ2 H4 → Keep W σ2 H' H4 →
        (∀ w ∈ ws, (wipeE ρ3 vs)[w]? = ρx[w]?) → Reps K H4 yd' (FA P1 O σ2) acc' → acc'.length ≤ i + 1 → cCompL tm t me vs ws (ds.drop (i + 1)) (wipeE ρ3 vs) = .ok (rest', ρf) → ys = yd' ++ rest' → I (i + 1) (upd H4 Dn (.lst acc')) := by
      intro σ2 ρ3 H4 acc' yd' rest' h1 h2 S4 k4 hw r' hl' hc' hy'
      obtain ⟨b1, b2⟩ := back h1 h2
      have nD2 : ¬ OA O σ2 Dn := fun z => nD ((OA_of b2 Dn).mp z)
      have S5 := S4.wipe2 (is := vs) ho
      rw [b1] at S5
      have S6 := S5.wr (o := .lst acc') pD trivial
      have kp : ∀ b o, Hx b = some o → ¬ FA P1 O (L2.wipe σ vs) b → upd H4 Dn (.lst acc') b = some o := fun b o e n => by
        rw [upd_ne fun z => n (.inl (by rw [z]; exact pD))]
        exact k4.keep b o (sm b o e) fun z => n (.inr ((OA_of b2 b).mp (S4.oaw z)))
      refine ⟨hlt, wipeE ρ3 vs, acc', yd', rest', S6, src.keep P1 ρx _ Hx _ _ _ Sx kp (fun b z => .inl z) (fun w hw' => ⟨rfl, hw w hw'⟩) okx, upd_same, ?_, hl', hc', hy', fun b o e n => ?_, fun b e => ?_, wipeE_none⟩
      · refine r'.mono yd' S4.dom (fun b o e n => ?_) fun b z => .inl ((FA_of b2 b).mpr z)
        rw [upd_ne fun z => n (.inl (by rw [z]; exact pD))]
        exact e
      · have hb : b ≠ Dn := ne_of_none e hD
        rw [upd_ne hb]
        exact k4.keep b o (sm b o (kx b o e n)) fun z => n ((OA_of (fun i hi => sO i (S1.sub i hi)) b).mp ((OA_of (fun i hi => b2 i (S1.sub i hi)) b).mp z))
      · by_cases hb : b = Dn
        · rw [hb, upd_same]; intro z; cases z
        · rw [upd_ne hb]
          exact k4.some b (Same.some sm b (sx b e))
    cases cComp_step hC with
    | yes ρa ρb ρc hd d ys' e1 e2 e3 e4 e5 e6 e7 =>
      refine ⟨P1, ρx, ds[i], ρa, Sx.same sm, rx, e1, fun σ2 Sa h1 h2 => ⟨(back h1 h2).1, P1, ρa, Sa, ?_⟩⟩
      rw [e2]
      intro H3 Sb k3
      refine (if_pos rfl).mpr ⟨P1, ρb, Sb, ?_⟩
      rw [e3]
      intro y' H4 Sc k4 r4
      have b2 := (back h1 h2).2
      have nD2 : ¬ OA O σ2 Dn := fun z => nD ((OA_of b2 Dn).mp z)
      have k34 : Keep W σ2 H' H4 := k3.trans k4
      refine ⟨acc, k34.keep _ _ (sm _ _ hDx) fun z => nD2 (Sc.oaw z), by omega, ?_⟩
      have r5 : Reps K H4 yd (FA P1 O σ2) acc := hR.mono yd Sx.dom (fun b o e n => k34.keep b o (sm b o e) fun z => n (.inr ((OA_of b2 b).mp (Sc.oaw z)))) fun b z => .inl ((FA_of b2 b).mp z)
      exact next h1 h2 Sc k34 (chk_ok e5) (r5.append (Reps.cons (r4.v e4) Reps.nil)) (by simp; omega) e6 (by rw [hys, e7]; simp)
    | no ρa ρb e1 e2 e5 e6 =>
      refine ⟨P1, ρx, ds[i], ρa, Sx.same sm, rx, e1, fun σ2 Sa h1 h2 => ⟨(back h1 h2).1, P1, ρa, Sa, ?_⟩⟩
      rw [e2]
      intro H3 Sb k3
      refine (if_neg Bool.false_ne_true).mpr ?_
      have b2 := (back h1 h2).2
      have nD2 : ¬ OA O σ2 Dn := fun z => nD ((OA_of b2 Dn).mp z)
      have r5 : Reps K H3 yd (FA P1 O σ2) acc := hR.mono yd Sx.dom (fun b o e n => k3.keep b o (sm b o e) fun z => n (.inr ((OA_of b2 b).mp (Sb.oaw z)))) fun b z => .inl ((FA_of b2 b).mp z)
      have hD3 : H3 Dn = some (.lst acc) := k3.keep _ _ (sm _ _ hDx) fun z => nD2 (Sb.oaw z)
      have fin := next h1 h2 Sb k3 (chk_ok e5) r5 (by omega) e6 hys
      have e : upd H3 Dn (.lst acc) = H3 := by
        funext b
        unfold upd
        split
        · rename_i z; rw [z, hD3]
        · rfl
      rw [e] at fin
      exact fin
  · left
    have ei : i = ds.length := by omega
    subst ei
    refine ⟨src.stop P1 ρx _ Hx Sx okx, ?_⟩
    rw [List.drop_length] at hC
    have hC : (R.ok (([] : List D), ρx)) = R.ok (rest, ρf) := hC
    cases hC
    rw [List.append_nil] at hys
    subst hys
    have kH : Keep W σ H1 Hx := ⟨kx, sx⟩
    refine q (.ref Dn) Hx ((Sx.lessP pI).out ho nx) (k1.trans kH) ⟨?_, fun _ a e => ?_⟩
    · unfold Rep
      refine ⟨Dn, acc, rfl, fun z => (S1.dom Dn z).some hD, hDx, hR.less Sx.dom fun b z => ?_⟩
      rcases z with z | z
      · exact (FA_of sO b).mpr (z.imp (pI b) id)
      · rw [z]; exact .inl pD
    · cases e
      exact Classical.byContradiction fun z => k1.some Dn z hD
theorem ce_comp {elt iter : Expr} {ifs : List Expr} {scope : Scope} {own : List (Str × Nat)} {im : IM} {tm : GM} {t : BM} {me : EM} {is : List Nat} (hc : X.calm = true) (hN : X.N.Nodup) (hi : CI X P0 O W E tg iter im) (ok : BlkOk X.N X.env.scope scope own)
    (hg : ∀ (P0 : Pr) (s : Shared) (H : Hp) (C : Addr) (cl : List (Str × Addr)) (fp : List Addr), CG (X.blk s H scope (compEnvC scope cl C X.env) fp) P0 O W tg tm is)
    (ht : ∀ (s : Shared) (H : Hp) (C : Addr) (cl : List (Str × Addr)) (fp : List Addr), CTs (X.blk s H scope (compEnvC scope cl C X.env) fp) O W E00 ifs t)
    (he : ∀ (P0 : Pr) (s : Shared) (H : Hp) (C : Addr) (cl : List (Str × Addr)) (fp : List Addr), CEx (X.blk s H scope (compEnvC scope cl C X.env) fp) P0 O W E00 elt me)
    (hv : ∀ i ∈ is, i ∈ own.map (·.2) := by decide) (ho : ∀ i ∈ own.map (·.2), i ∉ O := by decide) (hs : ∀ x, foldedSetIterable iter X.env x = pure x := by intro _; rfl) :
    CEx X P0 O W E (.ListComp elt [⟨tg, iter, ifs, 0⟩] scope pos) (cComp im tm t me (own.map (·.2))) :=
  PE.imp (pe_lc hc hN hi ok (fun s H C cl fp => PG.ex fun P0 => hg P0 s H C cl fp) ht (fun s H C cl fp => PE.ex fun P0 => he P0 s H C cl fp) hs) (comp_core hv ho)
end
end Y

set_option Elab.async false
set_option linter.all false
set_option maxRecDepth 100000
namespace Y
open PySem PySem.Spec PyProof.Rows L2

mutual
def D.nl : D → Bool
  | .non => true
  | .bl _ => true
  | .int _ => true
  | .str _ => true
  | .tup ds => nls ds
  | _ => false
def nls : List D → Bool
  | [] => true
  | d :: ds => d.nl && nls ds
end
/-- a list, a dict of such -/
def D.shallow : D → Bool
  | .lst ds => nls ds
  | .dik _ ds => nls ds
  | .dit _ ds => nls ds
  | d => d.nl
section
variable {K : PySem.W.Frag} {H : Hp}
mutual
theorem Rep.nl : ∀ {d : D} {P P' : Pr} {v : V}, d.nl = true → Rep K H d P v → Rep K H d P' v
  | .non, _, _, _, _, h => by unfold Rep at h ⊢; exact h
  | .bl _, _, _, _, _, h => by unfold Rep at h ⊢; exact h
  | .int _, _, _, _, _, h => by unfold Rep at h ⊢; exact h
  | .str _, _, _, _, _, h => by unfold Rep at h ⊢; exact h
  | .tup ds, P, P', v, n, h => by
    unfold Rep at h ⊢
    obtain ⟨a, vs, e, h1, h2⟩ := h
    exact ⟨a, vs, e, h1, Reps.nl (by unfold D.nl at n; exact n) h2⟩
  | .lst _, _, _, _, n, _ => by simp [D.nl] at n
  | .arg _, _, _, _, n, _ => by simp [D.nl] at n
  | .dik _ _, _, _, _, n, _ => by simp [D.nl] at n
  | .dit _ _, _, _, _, n, _ => by simp [D.nl] at n
theorem Reps.nl : ∀ {ds : List D} {P P' : Pr} {vs : List V}, nls ds = true → Reps K H ds P vs → Reps K H ds P' vs
  | [], _, _, _, _, h => by rw [h.nil_iff]; exact Reps.nil
  | d :: ds, P, P', vs, n, h => by
    obtain ⟨v, ws, rfl, h1, h2⟩ := h.cons_iff
    unfold nls at n
    rw [Bool.and_eq_true] at n
    exact Reps.cons (Rep.nl n.1 h1) (Reps.nl n.2 h2)
end
theorem RepO.shallow {d : D} {P P' : Pr} {v : V} (n : d.shallow = true) (h : RepO K H d P v) : RepO K H d P' v := by
  cases d with
  | lst ds => obtain ⟨a, vs, e, h1, h2⟩ := h; exact ⟨a, vs, e, h1, h2.nl n⟩
  | dik ks ds => obtain ⟨a, vs, e, hl, h1, h2⟩ := h; exact ⟨a, vs, e, hl, h1, h2.nl n⟩
  | dit ks ds => obtain ⟨a, vs, e, hl, h1, h2⟩ := h; exact ⟨a, vs, e, hl, h1, h2.nl n⟩
  | non => exact h
  | bl _ => exact h
  | int _ => exact h
  | str _ => exact h
  | tup _ => exact h
  | arg _ => exact h
theorem RepO.mono {H' : Hp} {d : D} {P P' : Pr} {v : V} (hm : ∀ b, P b → isMut (H b)) (k : ∀ b o, H b = some o → ¬ P b → H' b = some o) (hp : ∀ b, P' b → P b ∨ H b = none) (hk : ∀ a o, v = .ref a → H a = some o → H' a = some o) (h : RepO K H d P v) : RepO K H' d P' v := by
  cases d with
  | lst ds => obtain ⟨a, vs, e, h1, h2⟩ := h; exact ⟨a, vs, e, hk a _ e h1, h2.mono ds hm k hp⟩
  | dik ks ds => obtain ⟨a, vs, e, hl, h1, h2⟩ := h; exact ⟨a, vs, e, hl, hk a _ e h1, h2.mono ds hm k hp⟩
  | dit ks ds => obtain ⟨a, vs, e, hl, h1, h2⟩ := h; exact ⟨a, vs, e, hl, hk a _ e h1, h2.mono ds hm k hp⟩
  | non => exact h
  | bl _ => exact h
  | int _ => exact h
  | str _ => exact h
  | tup _ => exact h
  | arg _ => exact h
end
open Classical in
/-- what is known of the slots is what was known; or, of own slots, it holds no lists -/
noncomputable def chkO (O W : List Nat) (ρ ρ' : Env) : R Unit := if ∀ (j : Nat) d, ρ'[j]? = some (some d) → (ρ[j]? = some (some d) ∧ j ∉ W) ∨ (j ∈ O ∧ d.shallow = true) ∨ d.nl = true then .ok () else .stk
theorem chkO_ok {O W : List Nat} {ρ ρ' : Env} (h : chkO O W ρ ρ' = .ok ()) : ∀ (j : Nat) d, ρ'[j]? = some (some d) → (ρ[j]? = some (some d) ∧ j ∉ W) ∨ (j ∈ O ∧ d.shallow = true) ∨ d.nl = true := by
  unfold chkO at h
  split at h
  · assumption
  · cases h
@[simp] theorem chkO_same {O : List Nat} {ρ : Env} : chkO O [] ρ ρ = .ok () := by unfold chkO; rw [if_pos fun j d e => .inl ⟨e, by simp⟩]
/-- what an own slot may take -/
def D.ownable : D → Bool
  | .lst _ => true
  | .non => true
  | .bl _ => true
  | .int _ => true
  | .str _ => true
  | _ => false
section
variable {K : PySem.W.Frag} {P0 P1 : Pr} {O W : List Nat} {ρ ρ' : Env} {σ σ' : St} {H H' : Hp} {d : D} {v : V}
/-- an own slot's object is written -/
theorem Sim.ownW (S : Sim K P0 O W ρ σ H) {i : Nat} {a : Addr} {o : HO} (hi : i ∈ O) (ha : σ[i]? = some (some (.ref a))) (ho : isMut (some o)) (r : RepO K (upd H a o) d (FA P0 O σ) (.ref a)) : Sim K P0 O W (ρ.set i (some d)) σ (upd H a o) := by
  have pa : FA P0 O σ a := .inr ⟨i, hi, ha⟩
  have k : ∀ b u, H b = some u → ¬ FA P0 O σ b → upd H a o b = some u := fun b u e n => by rw [upd_ne fun z => n (by rw [z]; exact pa)]; exact e
  refine ⟨S.sub, by simpa using S.len, fun b z => ?_, fun j d' e n => ?_, fun j d' e n => ?_, S.sep, S.sep0⟩
  · by_cases hb : b = a
    · rw [hb, upd_same]; exact ho
    · rw [upd_ne hb]; exact S.dom b z
  · have hj : i ≠ j := fun (z : i = j) => n (by rw [← z]; exact hi)
    rw [List.getElem?_set_ne hj] at e
    obtain ⟨v, h1, h2⟩ := S.val j d' e n
    exact ⟨v, h1, h2.of_same S.dom k⟩
  · by_cases hj : i = j
    · subst hj
      have h1 : i < ρ.length := by have := (List.getElem?_eq_some_iff.mp e).1; simpa using this
      rw [List.getElem?_set_self h1] at e
      cases e
      exact ⟨_, ha, r⟩
    · rw [List.getElem?_set_ne hj] at e
      obtain ⟨v, h1, h2⟩ := S.own j d' e n
      refine ⟨v, h1, h2.mono S.dom k (fun _ z => .inl z) fun b u e1 e2 => ?_⟩
      subst e1
      rw [upd_ne fun (z : b = a) => hj (S.sep i j a hi n ha (by rw [← z]; exact h1))]
      exact e2
/-- a datum of an own slot, of a new object -/
theorem Rep.own (hm : ∀ b, FA P0 O σ b → isMut (H b)) (hd : d.ownable = true) (r : Rep K H d (FA P0 O σ) v) {P' : Pr} (hp : ∀ b, P' b → FA P0 O σ b ∨ v = .ref b) : RepO K H d P' v := by
  cases d with
  | lst ds =>
    unfold Rep at r
    obtain ⟨a, vs, rfl, h0, h1, h2⟩ := r
    exact ⟨a, vs, rfl, h1, h2.less (mutL hm h1) fun b z => (hp b z).imp id fun z => by cases z; rfl⟩
  | dik _ _ => cases hd
  | dit _ _ => cases hd
  | non => unfold Rep at r; exact r
  | bl _ => unfold Rep at r; exact r
  | int _ => unfold Rep at r; exact r
  | str _ => unfold Rep at r; exact r
  | tup _ => cases hd
  | arg _ => cases hd
/-- an own slot gets a new object v. S0: the state ahead of its making -/
theorem Sim.setO (S0 : Sim K P0 O W ρ σ H) (S : Sim K P0 O W ρ' σ H') (k : Keep W σ H H') (c : ∀ (j : Nat) d, ρ'[j]? = some (some d) → (ρ[j]? = some (some d) ∧ j ∉ W) ∨ (j ∈ O ∧ d.shallow = true) ∨ d.nl = true) {i : Nat} (hi : i ∈ O)
    (new : ∀ a, v = .ref a → H a = none ∧ isMut (H' a)) (r : RepO K H' d (fun b => FA P0 O σ b ∨ v = .ref b) v) : Sim K P0 O W (ρ'.set i (some d)) (σ.set i (some v)) H' := by
  have gs : ∀ {j : Nat} {w : V}, (σ.set i (some v))[j]? = some (some w) → (j = i ∧ w = v) ∨ (j ≠ i ∧ σ[j]? = some (some w)) := fun {j w} e => by
    by_cases hj : i = j
    · subst hj
      have h1 : i < σ.length := by have := (List.getElem?_eq_some_iff.mp e).1; simpa using this
      rw [List.getElem?_set_self h1] at e
      cases e
      exact .inl ⟨rfl, rfl⟩
    · rw [List.getElem?_set_ne hj] at e
      exact .inr ⟨fun z => hj z.symm, e⟩
  have oa : ∀ b, OA O (σ.set i (some v)) b → v = .ref b ∨ OA O σ b := fun b ⟨j, hj, e⟩ => by
    rcases gs e with ⟨_, e2⟩ | ⟨_, e2⟩
    · exact .inl e2.symm
    · exact .inr ⟨j, hj, e2⟩
  have fa0 : ∀ b, FA P0 O (σ.set i (some v)) b → FA P0 O σ b ∨ H b = none := fun b z => by
    rcases z with z | z
    · exact .inl (.inl z)
    · rcases oa b z with z | z
      · exact .inr (new b z).1
      · exact .inl (.inr z)
  have kf : ∀ b o, H b = some o → ¬ FA P0 O σ b → H' b = some o := fun b o e n => k.keep b o e fun z => n (.inr (S.oaw z))
  -- the new object is not what an own slot held
  have apart : ∀ a, v = .ref a → ¬ FA P0 O σ a := fun a e z => (S0.dom a z).some (new a e).1
  refine ⟨S.sub, by simpa using S.len, fun b z => ?_, fun j d' e n => ?_, fun j d' e n => ?_, fun x y a hx hy e1 e2 => ?_, fun a z y => ?_⟩
  · rcases z with z | z
    · exact S.dom b (.inl z)
    · rcases oa b z with z | z
      · exact (new b z).2
      · exact S.dom b (.inr z)
  · have hj : i ≠ j := fun (z : i = j) => n (by rw [← z]; exact hi)
    rw [List.getElem?_set_ne hj] at e ⊢
    rcases c j d' e with ⟨e0, _⟩ | ⟨z, _⟩ | nl
    · obtain ⟨w, h1, h2⟩ := S0.val j d' e0 n
      exact ⟨w, h1, h2.mono d' S0.dom kf fa0⟩
    · exact absurd z n
    · obtain ⟨w, h1, h2⟩ := S.val j d' e n
      exact ⟨w, h1, h2.nl nl⟩
  · by_cases hj : i = j
    · subst hj
      have h1 : i < ρ'.length := by have := (List.getElem?_eq_some_iff.mp e).1; simpa using this
      rw [List.getElem?_set_self h1] at e
      cases e
      refine ⟨v, List.getElem?_set_self (Nat.lt_of_lt_of_le h1 S.len), ?_⟩
      have r' := r
      refine r'.mono (P := fun b => FA P0 O σ b ∨ v = .ref b) (fun b z => z.elim (S.dom b) fun z => (new b z).2) (fun _ _ e _ => e) (fun b z => ?_) fun _ _ _ e => e
      rcases z with z | z
      · exact .inl (.inl (.inl z))
      · exact .inl ((oa b z).elim .inr fun z => .inl (.inr z))
    · rw [List.getElem?_set_ne hj] at e ⊢
      rcases c j d' e with ⟨e0, hw⟩ | ⟨_, sh⟩ | nl
      · obtain ⟨w, h1, h2⟩ := S0.own j d' e0 n
        refine ⟨w, h1, h2.mono S0.dom kf fa0 fun a o e1 e2 => ?_⟩
        subst e1
        refine k.keep a o e2 fun ⟨x, hx, ex⟩ => ?_
        have := S0.sep x j a (S0.sub x hx) n ex h1
        exact hw (this ▸ hx)
      · obtain ⟨w, h1, h2⟩ := S.own j d' e n
        exact ⟨w, h1, h2.shallow sh⟩
      · obtain ⟨w, h1, h2⟩ := S.own j d' e n
        refine ⟨w, h1, ?_⟩
        cases d' <;> first | exact h2 | (simp [D.nl] at nl)
  · rcases gs e1 with ⟨f1, g1⟩ | ⟨f1, g1⟩
    · rcases gs e2 with ⟨f2, g2⟩ | ⟨f2, g2⟩
      · rw [f1, f2]
      · exact absurd (.inr ⟨y, hy, g2⟩) (apart a g1.symm)
    · rcases gs e2 with ⟨f2, g2⟩ | ⟨f2, g2⟩
      · exact absurd (.inr ⟨x, hx, g1⟩) (apart a g2.symm)
      · exact S.sep x y a hx hy g1 g2
  · rcases oa a z with z | z
    · exact apart a z (.inl y)
    · exact S.sep0 a z y
end

inductive Fl where
  | nx | bk | ct | rt (h : Hd)
abbrev SM := Env → R (Fl × Env)
def Fin (K : PySem.W.Frag) (P0 : Pr) (O : List Nat) (Hs : Hp) (D : Ends) (σ : St) (H : Hp) : Fl → Prop
  | .nx => D.nx σ H
  | .bk => D.bk σ H
  | .ct => D.ct σ H
  | .rt h => ∀ v, HdR K P0 O Hs σ H h v → D.rt v H
def tSt (K : PySem.W.Frag) (P0 : Pr) (O W U : List Nat) (E : EK) (m : SM) : TS := fun D σ H => ∃ ρ, Sim K P0 O W ρ σ H ∧
  Res E O σ H (m ρ) fun a => ∀ σ' H', Sim K P0 O W a.2 σ' H' → Tr O U σ H σ' H' → σ'.length = σ.length → Fin K P0 O H D σ' H' a.1
section
variable {E : EK} {O W U : List Nat} {σ σ1 : St} {H H1 : Hp} {α β : Type}
theorem Keep.up (hs : ∀ i ∈ W, i ∈ O) (k : Keep W σ H H1) : Keep O σ H H1 := ⟨fun b o e n => k.keep b o e fun ⟨i, hi, z⟩ => n ⟨i, hs i hi, z⟩, k.some⟩
theorem Res.down (hs : ∀ i ∈ W, i ∈ O) {r : R α} {k : α → Prop} (h : Res E O σ H r k) : Res E W σ H r k := by
  cases r with
  | ok a => exact h
  | er c ds => exact fun H' kp => h H' (kp.up hs)
  | stk => exact h
theorem Keep.afterT {H2 : Hp} (t : Tr O U σ H σ1 H1) (k : Keep O σ1 H1 H2) : Keep O σ H H2 where
  keep := fun b o e n => k.keep b o (t.keep b o e n) fun z => by
    rcases t.own b z with z | z
    · exact n z
    · rw [e] at z; cases z
  some := fun b e => k.some b (t.some b e)
theorem Res.keepT {r : R α} {k : α → Prop} (h : Res E O σ H r k) (t : Tr O U σ H σ1 H1) : Res E O σ1 H1 r k := by
  cases r with
  | ok a => exact h
  | er c ds => exact fun H' kp => h H' (kp.afterT t)
  | stk => exact h
end
section
variable {X : Cx} {P0 : Pr} {O W U : List Nat} {E : EK} {a b c e tg : Expr} {es : List Expr} {ma mb mc : EM} {ms : AM} {pos : Pos} {st : Stmt} {sts : List Stmt} {m n : SM}
abbrev CS (X : Cx) (P0 : Pr) (O W U : List Nat) (E : EK) (st : Stmt) (m : SM) : Prop := PS X st (tSt X.K P0 O W U E m)
abbrev CSs (X : Cx) (P0 : Pr) (O W U : List Nat) (E : EK) (sts : List Stmt) (m : SM) : Prop := PSs X sts (tSt X.K P0 O W U E m)
def sSkip : SM := fun ρ => .ok (.nx, ρ)
def sSeq (m n : SM) : SM := fun ρ => do
  let (f, ρ1) ← m ρ
  match f with
  | .nx => n ρ1
  | f => pure (f, ρ1)
theorem cs_nil : CSs X P0 O W U E [] sSkip := PSs.imp pss_nil fun D σ H ⟨ρ, S, h⟩ => h σ H S .refl rfl
theorem cs_one (h : CS X P0 O W U E st m) : CSs X P0 O W U E [st] m := pss_one h
theorem cs_cons (h : CS X P0 O W U E st m) (h2 : CSs X P0 O W U E sts n) : CSs X P0 O W U E (st :: sts) (sSeq m n) := PSs.imp (pss_cons h h2) fun D σ H ⟨ρ, S, h⟩ =>
  ⟨ρ, S, h.of_bind.mono fun ⟨f, ρ1⟩ q σ1 H1 S1 t1 l1 => by
    cases f with
    | nx =>
      refine ⟨ρ1, S1, (Res.keepT (show Res E O σ H (n ρ1) _ from q) t1).mono fun ⟨f2, ρ2⟩ q2 σ2 H2 S2 t2 l2 => ?_⟩
      have q3 := q2 σ2 H2 S2 (t1.trans t2) (l2.trans l1)
      cases f2 with
      | nx => exact q3
      | bk => exact q3
      | ct => exact q3
      | rt hd => exact fun v r => q3 v (r.back t1.some)
    | bk => exact q σ1 H1 S1 t1 l1
    | ct => exact q σ1 H1 S1 t1 l1
    | rt hd => exact q σ1 H1 S1 t1 l1⟩
def sRet (m : EM) : SM := fun ρ => do
  let (h, ρ1) ← m ρ
  pure (.rt h, ρ1)
theorem cs_ret (h : CEx X P0 O W E e ma) : CS X P0 O W U E (.Return (some e) pos) (sRet ma) := PS.imp (ps_ret h) fun D σ H ⟨ρ, S, h⟩ =>
  ⟨ρ, S, (h.of_bind.down S.sub).mono fun ⟨hd, ρ1⟩ q v H1 S1 k1 r1 => q σ H1 S1 (Tr.of S.sub k1) rfl v r1⟩
def sIf (t : BM) (m n : SM) : SM := fun ρ => do
  let (k, ρ1) ← t ρ
  if k = true then m ρ1 else n ρ1
theorem Fin.back {K : PySem.W.Frag} {Hs Hs' : Hp} {D : Ends} {σ : St} {H : Hp} {f : Fl} (k : ∀ b, Hs b ≠ none → Hs' b ≠ none) (h : Fin K P0 O Hs D σ H f) : Fin K P0 O Hs' D σ H f := by
  cases f with
  | rt hd => exact fun v r => h v (r.back k)
  | nx => exact h
  | bk => exact h
  | ct => exact h
theorem cs_if {t : BM} {xs ys : List Stmt} (hc : CT X P0 O W E c t) (h1 : CSs X P0 O W U E xs m) (h2 : CSs X P0 O W U E ys n) : CS X P0 O W U E (.If c xs ys pos) (sIf t m n) := PS.imp (ps_if hc h1 h2) fun D σ H ⟨ρ, S, h⟩ =>
  ⟨ρ, S, (h.of_bind.down S.sub).mono fun ⟨k, ρ1⟩ q H1 S1 k1 => by
    cases k with
    | true =>
      exact (if_pos rfl).mpr ⟨ρ1, S1, (Res.keepT (show Res E O σ H (m ρ1) _ from q) (Tr.of (U := U) S.sub k1)).mono fun ⟨f2, ρ2⟩ q2 σ2 H2 S2 t2 l2 => (q2 σ2 H2 S2 ((Tr.of S.sub k1).trans t2) l2).back fun b e => k1.some b e⟩
    | false =>
      exact (if_neg Bool.false_ne_true).mpr ⟨ρ1, S1, (Res.keepT (show Res E O σ H (n ρ1) _ from q) (Tr.of (U := U) S.sub k1)).mono fun ⟨f2, ρ2⟩ q2 σ2 H2 S2 t2 l2 => (q2 σ2 H2 S2 ((Tr.of S.sub k1).trans t2) l2).back fun b e => k1.some b e⟩⟩
end
end Y

set_option Elab.async false
set_option linter.all false
set_option maxRecDepth 100000
namespace Y
open PySem PySem.Spec PyProof.Rows L2
section
variable {K : PySem.W.Frag} {X : Cx} {P0 : Pr} {O W U : List Nat} {E : EK} {a b c e tg iter : Expr} {es : List Expr} {ma mb mc : EM} {ms : AM} {pos : Pos} {st : Stmt} {sts : List Stmt} {m n : SM}
def sAsg (m : EM) (tm : GM) : SM := fun ρ => do
  let (h, ρ1) ← m ρ
  let d ← h.v.nox
  let ρ2 ← (tm d ρ1).nox
  pure (.nx, ρ2)
theorem Tr.slots {is : List Nat} {σ σ' : St} {H : Hp} (ho : ∀ i ∈ is, i ∉ O) (hu : ∀ i ∈ U, i ∈ O) (h : ∀ j, j ∉ is → σ'[j]? = σ[j]?) : Tr O U σ H σ' H :=
  ⟨fun _ _ e _ => e, fun _ e => e, fun b z => .inl ((OA_of (fun i hi => h i fun y => ho i y hi) b).mp z), fun i hi => h i fun y => ho i y (hu i hi)⟩
theorem tM_asg {tm : GM} {is : List Nat} (ho : ∀ i ∈ is, i ∉ O) (hu : ∀ i ∈ U, i ∈ O) (D : Ends) (σ : St) (H : Hp) (h : tSt K P0 O W U E (sAsg ma tm) D σ H) : tAsg (tM K P0 O W E ma) (tG K P0 O W tm is) D σ H := by
  obtain ⟨ρ, S, h⟩ := h
  refine ⟨ρ, S, (h.of_bind.down S.sub).mono fun ⟨hd, ρ1⟩ q v H1 S1 k1 r1 => ?_⟩
  obtain ⟨d, e1, q⟩ := q.of_nox
  obtain ⟨ρ2, e2, q⟩ := q.of_nox
  exact ⟨ρ1, d, ρ2, S1, r1.v e1, e2, fun σ' S' l h' => q σ' H1 S' ((Tr.of S.sub k1).trans (Tr.slots ho hu h')) l⟩
theorem cs_asg {tm : GM} {is : List Nat} (h : CEx X P0 O W E e ma) (hg : CG X P0 O W tg tm is) (ho : ∀ i ∈ is, i ∉ O := by decide) (hu : ∀ i ∈ U, i ∈ O := by decide) (hs : swapsWithSole [tg] e pos.line X.env = pure false := by rfl) (hw : swappedStores [tg] e X.env = pure none := by rfl) (h1 : (assignEach [tg] X.env).map (·.2) = [assign tg X.env] := by rfl) : CS X P0 O W U E (.Assign [tg] e pos) (sAsg ma tm) :=
  PS.imp (ps_asg h hg hs hw h1) (tM_asg ho hu)
/-- y = [.. for ..] on one line, y not captured -/
theorem cs_asgLc {i : Nat} {y : Str} {py : Pos} {elt : Expr} {ifs : List Expr} {scope : Scope} {own : List (Str × Nat)} {im : IM} {tm : GM} {t : BM} {me : EM} {is : List Nat} {p2 : Pos} (hc : X.calm = true) (hN : X.N.Nodup) (hy : X.N[i]? = some y) (hyl : X.env.scope.names.lookup y = some .local)
    (hsw : swapsWith (.ListComp elt [⟨tg, iter, ifs, 0⟩] scope pos) (some (.Name y py)) p2.line X.env = pure true) (hi : CI X P0 O W E tg iter im) (ok : BlkOk X.N X.env.scope scope own)
    (hg : ∀ (P0 : Pr) (s : Shared) (H : Hp) (C : Addr) (cl : List (Str × Addr)) (fp : List Addr), CG (X.blk s H scope (compEnvC scope cl C X.env) fp) P0 O W tg tm is)
    (ht : ∀ (s : Shared) (H : Hp) (C : Addr) (cl : List (Str × Addr)) (fp : List Addr), CTs (X.blk s H scope (compEnvC scope cl C X.env) fp) O W E00 ifs t)
    (he : ∀ (P0 : Pr) (s : Shared) (H : Hp) (C : Addr) (cl : List (Str × Addr)) (fp : List Addr), CEx (X.blk s H scope (compEnvC scope cl C X.env) fp) P0 O W E00 elt me)
    (hv : ∀ i ∈ is, i ∈ own.map (·.2) := by decide) (ho : ∀ i ∈ own.map (·.2), i ∉ O := by decide) (hi' : i ∉ O := by decide) (hu : ∀ i ∈ U, i ∈ O := by decide) (hs : ∀ x, foldedSetIterable iter X.env x = pure x := by intro _; rfl) :
    CS X P0 O W U E (.Assign [.Name y py] (.ListComp elt [⟨tg, iter, ifs, 0⟩] scope pos) p2) (sAsg (cComp im tm t me (own.map (·.2))) (tmName i)) :=
  PS.imp (ps_setLc (i := i) hc hN hy hyl hsw hi ok (fun s H C cl fp => PG.ex fun P0 => hg P0 s H C cl fp) ht (fun s H C cl fp => PE.ex fun P0 => he P0 s H C cl fp) hs) fun D σ H h => by
    have q := tM_asg (is := [i]) (by simpa using hi') hu D σ H h
    refine comp_core (im := im) (tm := tm) (t := t) (me := me) hv ho σ H _ ?_
    obtain ⟨ρ, S, q⟩ := q
    refine ⟨ρ, S, q.mono fun a q v H1 S1 k1 r1 => ?_⟩
    obtain ⟨ρ1, d, ρ2, S2, r, e, q⟩ := q v H1 S1 k1 r1
    cases e
    exact q _ (S2.set hi' r) (by simp) fun j hj => List.getElem?_set_ne fun z => hj (by simp [z])
noncomputable def sOwn (O W : List Nat) (m : EM) (i : Nat) : SM := fun ρ => do
  let (h, ρ1) ← m ρ
  match h with
  | .fr d => do
    let _ ← (chkO O W ρ ρ1).nox
    if d.ownable = true then pure (.nx, ρ1.set i (some d)) else .stk
  | _ => .stk
theorem tM_own {i : Nat} (hi : i ∈ O) (hu : i ∉ U) (D : Ends) (σ : St) (H : Hp) (h : tSt K P0 O W U E (sOwn O W ma i) D σ H) : tAsg (tM K P0 O W E ma) (gName i) D σ H := by
  obtain ⟨ρ, S, h⟩ := h
  refine ⟨ρ, S, (h.of_bind.down S.sub).mono fun ⟨hd, ρ1⟩ q v H1 S1 k1 r1 => ?_⟩
  cases hd with
  | vl d => exact q.elim
  | ow j => exact q.elim
  | fr d =>
    obtain ⟨_, e1, q⟩ := Res.of_nox (show Res E O σ H ((chkO O W ρ ρ1).nox >>= _) _ from q)
    have c := chkO_ok e1
    by_cases hd : d.ownable = true
    · rw [if_pos hd] at q
      have new : ∀ a, v = .ref a → H a = none ∧ isMut (H1 a) := fun a e => by
        subst e
        have r := r1.1
        have f := r1.2
        cases d with
        | lst ds =>
          unfold Rep at r
          obtain ⟨b, vs, e, h0, h1, h2⟩ := r
          cases e
          exact ⟨f rfl _ rfl, by rw [h1]; trivial⟩
        | non => unfold Rep at r; cases r
        | bl _ => unfold Rep at r; cases r
        | int _ => unfold Rep at r; cases r
        | str _ => unfold Rep at r; cases r
        | tup _ => cases hd
        | arg _ => cases hd
        | dik _ _ => cases hd
        | dit _ _ => cases hd
      have S2 := S.setO S1 k1 c hi new (r1.1.own S1.dom hd fun b z => z)
      have gs : ∀ {b : Addr}, OA O (σ.set i (some v)) b → OA O σ b ∨ H b = none := fun {b} ⟨j, hj, e⟩ => by
        by_cases hij : i = j
        · subst hij
          have h1 : i < σ.length := by have := (List.getElem?_eq_some_iff.mp e).1; simpa using this
          rw [List.getElem?_set_self h1] at e
          cases e
          exact .inr (new b rfl).1
        · rw [List.getElem?_set_ne hij] at e
          exact .inl ⟨j, hj, e⟩
      exact q _ H1 S2 ⟨fun b o e n => k1.keep b o e fun z => n (S.oaw z), k1.some, fun b z => gs z, fun j hj => List.getElem?_set_ne fun (z : i = j) => hu (by rw [z]; exact hj)⟩ (by simp)
    · rw [if_neg hd] at q
      exact q.elim
theorem cs_own {i : Nat} {x : Str} {p : Pos} (hN : X.N.Nodup) (h : CEx X P0 O W E e ma) (hi : i ∈ O := by decide) (hu : i ∉ U := by decide) (hx : X.N[i]? = some x := by rfl) (hl : Loc X.env.scope x := by first | exact Or.inl rfl | exact Or.inr rfl) (hf : X.fn x = true ∨ X.env.scope.names.lookup x = some .local := by first | exact .inl rfl | exact .inr rfl)
    (hs : swapsWithSole [.Name x p] e pos.line X.env = pure false := by rfl) (hw : swappedStores [.Name x p] e X.env = pure none := by rfl) : CS X P0 O W U E (.Assign [.Name x p] e pos) (sOwn O W ma i) :=
  PS.imp (ps_asg h (pg_name hN hx hl hf) hs hw) (tM_own hi hu)
/-- few arguments, no stars -/
abbrev Few (X : Cx) (cp : Pos) (es : List Expr) : Prop := ((backTo cp (starEach es X.env)).all (fun x => !x.1) && (backToKw cp (keywordEach [] X.env)).all (fun x => x.1.isSome)
      && decide (es.length + ([] : List Keyword).length + (if ([] : List Keyword).isEmpty then 0 else 1) < 30)) = true
theorem Tr.ownW {i : Nat} {l : Addr} {o : HO} {σ : L2.St} {H H1 : Hp} (hs : ∀ i ∈ W, i ∈ O) (k : Keep W σ H H1) (hi : i ∈ O) (ha : σ[i]? = Option.some (Option.some (V.ref l))) : Tr O U σ H σ (upd H1 l o) where
  keep := fun b u e n => by
    rw [upd_ne fun (z : b = l) => n ⟨i, hi, by rw [z]; exact ha⟩]
    exact k.keep b u e fun ⟨j, hj, z⟩ => n ⟨j, hs j hj, z⟩
  some := fun b e => by
    by_cases hb : b = l
    · rw [hb, upd_same]; intro z; cases z
    · rw [upd_ne hb]; exact k.some b e
  own := fun _ z => .inl z
  unch := fun _ _ => rfl
/-- the list of an own slot -/
theorem Sim.lst {ρ : Env} {σ : St} {H : Hp} (S : Sim K P0 O W ρ σ H) {i : Nat} {ds : List D} (hi : i ∈ O) (e : ρ[i]? = some (some (.lst ds))) : ∃ l vs, σ[i]? = some (some (.ref l)) ∧ H l = some (.lst vs) ∧ Reps K H ds (FA P0 O σ) vs := by
  obtain ⟨v, h1, l, vs, rfl, h2, h3⟩ := S.own i _ e hi
  exact ⟨l, vs, h1, h2, h3⟩
/-- .. is given other items -/
theorem Sim.lstW {ρ : Env} {σ : St} {H : Hp} (S : Sim K P0 O W ρ σ H) {i : Nat} {l : Addr} {ds' : List D} {vs' vs : List V} (hi : i ∈ O) (ha : σ[i]? = some (some (.ref l))) (hl : H l = some (.lst vs)) (r : Reps K H ds' (FA P0 O σ) vs') : Sim K P0 O W (ρ.set i (some (.lst ds'))) σ (upd H l (.lst vs')) :=
  S.ownW hi ha trivial ⟨l, vs', rfl, upd_same, r.mono ds' S.dom (fun b o e n => by rw [upd_ne fun z => n (.inr ⟨i, hi, by rw [z]; exact ha⟩)]; exact e) fun b z => .inl z⟩
def lstAt (i : Nat) (ρ : Env) : R (List D) := match ρ[i]? with
  | some (some (.lst ds)) => .ok ds
  | _ => .stk
theorem lstAt_ok {i : Nat} {ρ : Env} {ds : List D} (h : lstAt i ρ = .ok ds) : ρ[i]? = some (some (.lst ds)) := by
  unfold lstAt at h
  split at h
  · rename_i e; cases h; exact e
  · cases h
/-- x.append(e) -/
def sAppend (i : Nat) (m : EM) : SM := fun ρ => do
  let _ ← (lstAt i ρ).nox
  let (h, ρ1) ← m ρ
  let d ← h.v.nox
  let ds ← (lstAt i ρ1).nox
  if szOk (ds.length + 1) = true then pure (.nx, ρ1.set i (some (.lst (ds ++ [d])))) else .stk
theorem tM_append {i : Nat} (hi : i ∈ O) (D : Ends) (σ : St) (H : Hp) (h : tSt K P0 O W U E (sAppend i ma) D σ H) : tDrop (tBM K "list" rAppend (tVar i) (tCons (tM K P0 O W E ma) tNil)) D σ H := by
  obtain ⟨ρ, S, h⟩ := h
  obtain ⟨ds0, e0, h⟩ := h.of_nox
  obtain ⟨l, vs0, h1, h2, _⟩ := S.lst hi (lstAt_ok e0)
  refine ⟨.ref l, h1, .inl ⟨rfl, _, SqL.of h2⟩, ρ, S, (h.of_bind.down S.sub).mono fun ⟨hd, ρ1⟩ q v H1 S1 k1 r1 => ?_⟩
  obtain ⟨d, e1, q⟩ := q.of_nox
  obtain ⟨ds, e2, q⟩ := q.of_nox
  obtain ⟨l', vs, h1', h3, h4⟩ := S1.lst hi (lstAt_ok e2)
  rw [h1] at h1'
  cases h1'
  by_cases c : szOk (ds.length + 1) = true
  · rw [if_pos c] at q
    have c := of_decide_eq_true c
    refine ⟨l, vs, v, rfl, rfl, h3, by rw [h4.length]; omega, ?_⟩
    exact q σ _ (S1.lstW hi h1 h3 (h4.append (Reps.cons (r1.v e1) Reps.nil))) (Tr.ownW S.sub k1 hi h1) rfl
  · rw [if_neg c] at q
    exact q.elim
theorem cs_append {i : Nat} {x : Str} {p ap cp : Pos} (h : CEx X P0 O W E e ma) (hi : i ∈ O := by decide) (hx : X.N[i]? = some x := by rfl) (hv : Vis X.env.scope x := by first | exact Or.inl rfl | exact Or.inr (Or.inl rfl) | exact Or.inr (Or.inr rfl)) (hd : (x == ("__debug__" : Str)) = false := by decide) (hcd : (x == ("__classdict__" : Str)) = false := by decide)
    (he : starEach [e] X.env = (false, eval e X.env) :: starEach [] X.env := by rfl) (hpl : (backTo cp (starEach [] X.env)).any (·.1) = false := by rfl) (hbase : attributeBase (.Name x p) "append" X.env (eval (.Name x p) X.env) = eval (.Name x p) X.env := by rfl) (hline : (ap.endLine == cp.line) = true := by rfl)
    (hfew : Few X cp [e] := by rfl) (hsw : swapsWith (.Call (.Attribute (.Name x p) "append" ap) [e] [] cp) none pos.line X.env = pure false := by rfl) :
    CS X P0 O W U E (.Expr (.Call (.Attribute (.Name x p) "append" ap) [e] [] cp) pos) (sAppend i ma) :=
  PS.imp (ps_expr (pe_bm PySem.F.plainAttrs_list PySem.F.slot_list_append PySem.F.type_list_append mt_append (pe_var (i := i) hx hv hd hcd) (pa_cons h pa_nil he) hbase hfew hline he hpl) hsw) (tM_append hi)
end
end Y

set_option Elab.async false
set_option linter.all false
set_option maxRecDepth 100000
namespace Y
open PySem PySem.Spec PyProof.Rows L2
section
variable {K : PySem.W.Frag} {X : Cx} {P0 : Pr} {O W U : List Nat} {E : EK} {a b c e tg iter : Expr} {es : List Expr} {ma mb mc : EM} {ms : AM} {pos : Pos} {st : Stmt} {sts : List Stmt} {m n : SM}
def sSetIx (i : Nat) (mk mv : EM) : SM := fun ρ => do
  let (h, ρ1) ← mv ρ
  let d ← h.v.nox
  let _ ← (lstAt i ρ1).nox
  let (h2, ρ2) ← mk ρ1
  let k ← h2.v.nox
  match k with
  | .int z => do
    let ds ← (lstAt i ρ2).nox
    match ixN ds.length z with
    | some j => pure (.nx, ρ2.set i (some (.lst (ds.set j d))))
    | none => .stk
  | _ => .stk
theorem Reps.set {H : Hp} {P : Pr} {d : D} {v : V} (r : Rep K H d P v) : ∀ {ds : List D} {vs : List V} (j : Nat), Reps K H ds P vs → Reps K H (ds.set j d) P (vs.set j v)
  | [], _, j, h => by rw [h.nil_iff]; exact Reps.nil
  | x :: xs, _, 0, h => by
    obtain ⟨w, ws, rfl, h1, h2⟩ := h.cons_iff
    exact Reps.cons r h2
  | x :: xs, _, j + 1, h => by
    obtain ⟨w, ws, rfl, h1, h2⟩ := h.cons_iff
    exact Reps.cons h1 (Reps.set r j h2)
theorem cs_setix {i : Nat} {x : Str} {p sp : Pos} {k : Expr} {mk : EM} (h : CEx X P0 O W E e ma) (hk : CEx X P0 O W E k mk) (hi : i ∈ O := by decide) (hx : X.N[i]? = some x := by rfl) (hv : Vis X.env.scope x := by first | exact Or.inl rfl | exact Or.inr (Or.inl rfl) | exact Or.inr (Or.inr rfl)) (hd : (x == ("__debug__" : Str)) = false := by decide) (hcd : (x == ("__classdict__" : Str)) = false := by decide)
    (hs : swapsWithSole [.Subscript (.Name x p) k sp] e pos.line X.env = pure false := by rfl) (hw : swappedStores [.Subscript (.Name x p) k sp] e X.env = pure none := by rfl) (h1 : (assignEach [.Subscript (.Name x p) k sp] X.env).map (·.2) = [assign (.Subscript (.Name x p) k sp) X.env] := by rfl)
    (hb : ∀ v, assign (.Subscript (.Name x p) k sp) X.env v = (do
      let ov ← holding [v] (eval (.Name x p) X.env)
      let iv ← holding [v, ov] (eval k X.env)
      standAt sp
      holding [v, ov, iv] (setItem ov iv v)
      release [v, ov, iv] []) := by intro _; rfl) :
    CS X P0 O W U E (.Assign [.Subscript (.Name x p) k sp] e pos) (sSetIx i mk ma) := PS.imp (ps_asg h (pg_sub (pe_var (i := i) hx hv hd hcd) hk set_list hb) hs hw h1) fun D σ H ⟨ρ, S, h⟩ => by
  refine ⟨ρ, S, (h.of_bind.down S.sub).mono fun ⟨hd, ρ1⟩ q v H1 S1 k1 r1 => ?_⟩
  obtain ⟨d, e1, q1⟩ := q.of_nox
  obtain ⟨ds0, e0, q2⟩ := q1.of_nox
  obtain ⟨l, vs0, h1, h2, _⟩ := S1.lst hi (lstAt_ok e0)
  refine ⟨.ref l, h1, ρ1, S1, ((q2.of_bind.down S1.sub).keep k1).mono fun ⟨hd2, ρ2⟩ q3 w H2 S2 k2 r2 => ?_⟩
  obtain ⟨dk, e2, q4⟩ := q3.of_nox
  have rk := r2.v e2
  cases dk <;> first | (exact q4.elim) | skip
  rename_i z
  unfold Rep at rk
  subst rk
  obtain ⟨ds, e3, q5⟩ := Res.of_nox (show Res E O σ H ((lstAt i ρ2).nox >>= _) _ from q4)
  obtain ⟨l', vs, h1', h3, h4⟩ := S2.lst hi (lstAt_ok e3)
  rw [h1] at h1'
  cases h1'
  cases ej : ixN ds.length z with
  | none => rw [ej] at q5; exact q5.elim
  | some j =>
    rw [ej] at q5
    refine ⟨l, vs, z, j, rfl, rfl, h3, by rw [h4.length]; exact ej, ?_⟩
    exact q5 σ _ (S2.lstW hi h1 h3 (Reps.set (S1.rep k2 (r1.v e1)) j h4)) (Tr.ownW S.sub (k1.trans k2) hi h1) rfl
noncomputable def forL (tm : GM) (body : SM) (vs ws : List Nat) : List D → Env → R (Fl × Env)
  | [], ρ => .ok (.nx, ρ)
  | x :: xs, ρ => do
    let ρ1 ← (tm x ρ).nox
    let (f, ρ2) ← body ρ1
    match f with
    | .bk => pure (.nx, ρ2)
    | .rt h => pure (.rt h, ρ2)
    | _ => do
      let _ ← (chk ws ρ (wipeE ρ2 vs)).nox
      forL tm body vs ws xs (wipeE ρ2 vs)
noncomputable def sFor (U : List Nat) (im : IM) (tm : GM) (body : SM) (vs : List Nat) : SM := fun ρ => do
  let ((ds, ws), ρ1) ← im ρ
  if (ws.all fun w => U.contains w) = true then forL tm body vs ws ds ρ1 else .stk
theorem for_core {im : IM} {tm : GM} {is vs U' : List Nat} (ho : ∀ i ∈ is, i ∉ O) (hu : ∀ i ∈ U', i ∈ O) (hu' : ∀ i ∈ U, i ∈ U') (D : Ends) (σ : L2.St) (H : Hp) (h : tSt X.K P0 O W U E (sFor U' im tm m vs) D σ H) : tFor (tMi X.K P0 O W E im) (tG X.K P0 O W tm is) (tSt X.K P0 O W U' E m) D σ H := by
  obtain ⟨ρ, S, h⟩ := h
  refine ⟨ρ, S, (h.of_bind.down S.sub).mono fun ⟨⟨ds, ws⟩, ρ1⟩ q J H1 Ok S1 k1 src ok hz => ?_⟩
  have src : Src X.K O W ds ws J Ok := src
  have q : Res E O σ H (if (ws.all fun w => U'.contains w) = true then forL tm m vs ws ds ρ1 else .stk) _ := q
  by_cases hw : (ws.all fun w => U'.contains w) = true
  · rw [if_pos hw] at q
    have hw : ∀ w ∈ ws, w ∈ U' := fun w hw' => by simpa using List.all_eq_true.mp hw w hw'
    have t1 : Tr O U σ H σ H1 := Tr.of S.sub k1
    let Post : Fl × Env → Prop := fun a => ∀ σ' H', Sim X.K P0 O W a.2 σ' H' → Tr O U σ H σ' H' → σ'.length = σ.length → Fin X.K P0 O H D σ' H' a.1
    let I : Nat → L2.St → Hp → Prop := fun i σx Hx => i ≤ ds.length ∧ ∃ ρx, Sim X.K P0 O W ρx σx Hx ∧ Ok P0 ρx σx Hx ∧ Tr O U σ H σx Hx ∧ σx.length = σ.length ∧ Res E O σx Hx (forL tm m vs ws (ds.drop i) ρx) Post
    refine ⟨fun i k σx Hx => k = ds.length - i ∧ I i σx Hx, ⟨ds.length, by simp, Nat.zero_le _, ρ1, S1, ok, t1, rfl, Res.keepT (show Res E O σ H (forL tm m vs ws ds ρ1) Post from q) t1⟩, ?_⟩
    rintro i k σx Hx ⟨rfl, hil, ρx, Sx, okx, tx, lx, qx⟩
    by_cases hlt : i < ds.length
    · right
      refine ⟨src.go P0 i ρx σx Hx Sx okx hlt, I (i + 1), fun σ' H' p' => ⟨ds.length - (i + 1), by omega, rfl, p'⟩, fun x' H' y => ?_⟩
      obtain ⟨sm, rx⟩ := src.yld P0 i ρx σx Hx x' H' ds[i] Sx okx (List.getElem?_eq_getElem hlt) y
      rw [List.drop_eq_getElem_cons hlt] at qx
      unfold forL at qx
      obtain ⟨ρa, e1, qx⟩ := qx.of_nox
      refine ⟨ρx, ds[i], ρa, Sx.same sm, rx, e1, fun σ2 S2 l2 ag => ?_⟩
      have t2 : Tr O U' σx Hx σ2 H' := Tr.trans (σ1 := σx) (H1 := H') ⟨fun b o e _ => sm b o e, Same.some sm, fun _ z => .inl z, fun _ _ => rfl⟩ (Tr.slots ho hu ag)
      refine ⟨ρa, S2, (Res.keepT qx.of_bind t2).mono fun ⟨f, ρ2⟩ q3 σ3 H3 S3 t3 l3 => ?_⟩
      have t4 : Tr O U' σx Hx σ3 H3 := t2.trans t3
      have t5 : Tr O U σ H σ3 H3 := tx.trans (t4.less hu')
      have l5 : σ3.length = σ.length := l3.trans (l2.trans lx)
      have next : Res E O σx Hx (do let _ ← (chk ws ρx (wipeE ρ2 vs)).nox; forL tm m vs ws (ds.drop (i + 1)) (wipeE ρ2 vs)) Post → I (i + 1) σ3 H3 := fun q4 => by
        obtain ⟨_, e4, q5⟩ := Res.of_nox (show Res E O σx Hx ((chk ws ρx (wipeE ρ2 vs)).nox >>= fun _ => forL tm m vs ws (ds.drop (i + 1)) (wipeE ρ2 vs)) Post from q4)
        refine ⟨hlt, wipeE ρ2 vs, S3.wipe vs, ?_, t5, l5, Res.keepT q5 t4⟩
        refine src.keep P0 ρx σx Hx _ σ3 H3 Sx (fun b o e n => t4.keep b o e fun z => n (.inr z)) (fun b z => ?_) (fun w hw' => ⟨t4.unch w (hw w hw'), chk_ok e4 w hw'⟩) okx
        rcases z with z | z
        · exact .inl (.inl z)
        · exact (t4.own b z).imp .inr id
      cases f with
      | nx => exact next q3
      | ct => exact next q3
      | bk => exact q3 σ3 H3 S3 t5 l5
      | rt hd =>
        intro v r
        exact q3 σ3 H3 S3 t5 l5 v (r.back fun b e => Same.some sm b (tx.some b e))
    · left
      have ei : i = ds.length := by omega
      subst ei
      rw [List.drop_length] at qx
      exact ⟨src.stop P0 ρx σx Hx Sx okx, qx σx Hx Sx tx lx⟩
  · rw [if_neg hw] at q
    exact q.elim
theorem cs_for {im : IM} {tm : GM} {is vs U' : List Nat} {xs : List Stmt} (hp : PassesOwn (model X.prog X.w) X.A X.env X.xe) (hc : X.calm = true) (hi : CI X P0 O W E tg iter im) (hg : CG X P0 O W tg tm is) (hb : CSs X P0 O W U' E xs m) (ho : ∀ i ∈ is, i ∉ O := by decide) (hu : ∀ i ∈ U', i ∈ O := by decide) (hu' : ∀ i ∈ U, i ∈ U' := by decide)
    (hs : ∀ x, foldedSetIterable iter X.env x = pure x := by intro _; rfl) : CS X P0 O W U E (.For tg iter xs [] pos) (sFor U' im tm m vs) := PS.imp (ps_for hp hc hi hg hb hs) (for_core ho hu hu')
end
end Y

set_option Elab.async false
set_option linter.all false
set_option maxRecDepth 100000
namespace Y
open PySem PySem.Spec PyProof.Rows L2

theorem passN {X : Cx} : Passes (L2N.CX X.prog X.w) X E0 := fun _ _ _ _ _ _ _ q => by
  rcases q with ⟨_, _, _, _, _, _, _, _, _, _, _, _, f⟩
  exact False.elim f
theorem okN {P : Program} {w : World} {K : PySem.W.Frag} {mg : Str → Option Value} {base : Heap} {x qual : Str} {st : Stmt} {f : Addr} {fd : FuncData} {N ps : List Str} {k : Nat} {sp : Sp} (F : Fun K x qual st f fd) (S : FnScope N ps (defScope st)) (hlen : ∀ vs H Q E, sp vs H Q E → vs.length = ps.length)
    (hb : ∀ (cdv : Value) (A : Around) (outer : List PySem.Env) (s : Shared) (H : Hp) (vs : List V) (Q : VK) (E : XK), Room k (A.deeper (envOfC qual (defScope st) s.heap.objs.size f cdv)) → sp vs H Q E →
      ∃ t, PSs (cxOf (L2N.CX P w) P w K mg base N qual (defScope st) f cdv A outer s H E) (defBody st) t ∧ t { nx := fun _ H' => Q .non H', rt := Q } (L2.start N vs) H) : FnOk P w K mg base (L2N.CX P w) (k + 1) f fd ps sp := by
  rcases F.ex with ⟨_, _, _, _, _, _, cd, _, _, rfl, look, code⟩
  exact fn_of look code S hlen fun A outer s H vs Q E => hb cd A outer s H vs Q E

/-- an exception of the program's own, made with a text -/
def exE (mg : Str → Option Value) (E : XK) : EK := fun c ds H => ds = [] ∧ ∃ C, mg c = some (.ref C) ∧ E (.ref C) none H
abbrev Fn := List D → R (Hd × Env)
/-- O: the parameters whose lists it may change -/
def spD (K : PySem.W.Frag) (mg : Str → Option Value) (np : Nat) (O : List Nat) (g : Fn) : Sp := fun vs H Q E => vs.length = np ∧ ∃ ds P0, Sim K P0 O [] (ds.map some) (vs.map some) H ∧ ds.length = np ∧
  Res (exE mg E) O (vs.map some) H (g ds) fun a => ∀ v H', Keep O (vs.map some) H H' → Sim K P0 O [] a.2 (vs.map some) H' → HdR K P0 O H (vs.map some) H' a.1 v → Q v H'
structure Glo (P : Program) (w : World) (K : PySem.W.Frag) (mg : Str → Option Value) (base : Heap) (name : Str) (k np : Nat) (O : List Nat) (g : Fn) : Prop where
  ex : ∃ f fd ps, mg name = some (.ref f) ∧ PySem.W.keepIn K (.ref f) = true ∧ Binds K fd ps [] ∧ ps.length = np ∧ FnOk P w K mg base (L2N.CX P w) k f fd ps (spD K mg np O g)
/-- exceptions of callees reach what is wanted here -/
structure Out2 (X : Cx) (E : EK) (XE : XK) : Prop where
  pass : Passes (L2N.CX X.prog X.w) X XE
  ex : ∀ c ds H, E c ds H → exE X.mg XE c ds H
theorem Out2.blk {X : Cx} : Out2 X E00 E0 := ⟨passN, fun _ _ _ h => h.elim⟩
def pureF (g : List D → R Hd) : Fn := fun ds => do
  let h ← g ds
  pure (h, [])
section
variable {K : PySem.W.Frag} {P0 : Pr} {O W : List Nat} {ρ : Env} {σ : St} {H H' : Hp}
theorem FA_nil {τ : St} (b : Addr) : FA P0 [] τ b ↔ P0 b := ⟨fun z => z.elim id (fun ⟨_, h, _⟩ => (nomatch h)), .inl⟩
theorem Keep.nil {τ : St} (k : Keep [] τ H H') : Same H H' := fun b o e => k.keep b o e fun ⟨_, h, _⟩ => nomatch h
/-- the callee's state where no parameter is its own -/
theorem sim_args {ds : List D} {vs : List V} (hm : ∀ b, P0 b → isMut (H b)) (r : Reps K H ds P0 vs) : Sim K P0 [] [] (ds.map some) (vs.map some) H where
  sub := fun _ h => nomatch h
  len := by rw [List.length_map, List.length_map, r.length]; exact Nat.le_refl _
  dom := fun b z => hm b ((FA_nil b).mp z)
  val := fun i d e _ => by
    rw [List.getElem?_map] at e
    cases q : ds[i]? with
    | none => rw [q] at e; cases e
    | some d' =>
      rw [q] at e; cases e
      obtain ⟨v, e1, r1⟩ := r.get q
      exact ⟨v, by rw [List.getElem?_map, e1]; rfl, r1.less hm fun b z => (FA_nil b).mp z⟩
  own := fun i d e h => nomatch h
  sep := fun _ _ _ h => nomatch h
  sep0 := fun a ⟨_, h, _⟩ => nomatch h
end
section
variable {X : Cx} {P0 : Pr} {O W U : List Nat} {E : EK} {XE : XK} {a b c e : Expr} {es : List Expr} {ma mb mc : EM} {ms : AM} {pos : Pos} {k np : Nat} {name : Str}
/-- f(..), no argument's list is changed -/
def cCallF (g : List D → R Hd) (m : AM) : EM := fun ρ => do
  let (hs, ρ1) ← m ρ
  let ds ← (vsOf hs).nox
  let h ← g ds
  match h with
  | .ow _ => .stk
  | h => pure (h, ρ1)
theorem tM_callF {g : List D → R Hd} (hE : ∀ c ds H, E c ds H → exE X.mg XE c ds H) (σ : St) (H : Hp) (Q : VK) (len : ∀ σ H Q, tMs X.K P0 O W E ms σ H Q → True) (h : tM X.K P0 O W E (cCallF g ms) σ H Q) (hl : ∀ ρ hs ρ1, ms ρ = .ok (hs, ρ1) → hs.length = np) :
    tCall (spD X.K X.mg np [] (pureF g)) [] XE (tMs X.K P0 O W E ms) σ H Q := by
  obtain ⟨ρ, S, h⟩ := h
  refine ⟨ρ, S, ?_⟩
  cases em : ms ρ with
  | stk => unfold cCallF at h; rw [em] at h; exact h.elim
  | er c ds => unfold cCallF at h; rw [em] at h; exact h
  | ok p =>
    obtain ⟨hs, ρ1⟩ := p
    unfold cCallF at h
    rw [em] at h
    intro vs H1 S1 k1 r1
    obtain ⟨ds, e1, q⟩ := Res.of_nox (show Res E W σ H ((vsOf hs).nox >>= _) _ from h)
    have rr := HdRs.vs r1 e1
    have lv : vs.length = np := by
      have : ∀ {hs : List Hd} {vs : List V}, HdRs X.K P0 O H σ H1 hs vs → vs.length = hs.length := fun {hs} => by
        induction hs with
        | nil => intro vs r; have r : vs = [] := r; rw [r]; rfl
        | cons h hs ih => intro vs ⟨v, ws, e, _, r2⟩; rw [e, List.length_cons, List.length_cons, ih r2]
      rw [this r1]
      exact hl ρ hs ρ1 em
    rw [List.append_nil]
    refine ⟨lv, ds, FA P0 O σ, sim_args S1.dom rr, by rw [← rr.length]; exact lv, ?_⟩
    have q := q.keep k1
    unfold pureF
    cases eg : g ds with
    | stk => rw [eg] at q; exact q.elim
    | er c xs =>
      rw [eg] at q
      exact fun H' kp => hE c xs H' (q H' (Keep.same kp.nil))
    | ok hd =>
      rw [eg] at q
      intro v H2 k2 _ r2
      have sm := Keep.nil k2
      cases hd with
      | ow j => exact q.elim
      | fr d => exact q v H2 (S1.same sm) (k1.trans (Keep.same sm)) ⟨r2.1.less (fun b z => (S1.same sm).dom b ((FA_nil b).mp z)) fun b z => .inl z, fun m a e => Classical.byContradiction fun z => k1.some a z (r2.2 m a e)⟩
      | vl d => exact q v H2 (S1.same sm) (k1.trans (Keep.same sm)) (Rep.less (fun b z => (S1.same sm).dom b ((FA_nil b).mp z)) r2 fun b z => .inl z)
/-- the number of arguments -/
def ALen (m : AM) (n : Nat) : Prop := ∀ ρ hs ρ1, m ρ = .ok (hs, ρ1) → hs.length = n
theorem alen_nil : ALen cNil 0 := fun ρ hs ρ1 h => by cases h; rfl
theorem alen_cons {n : Nat} (h : ALen ms n) : ALen (cCons ma ms) (n + 1) := fun ρ hs ρ1 e => by
  obtain ⟨⟨h1, ρa⟩, e1, e⟩ := R.ok_of e
  obtain ⟨⟨h2, ρb⟩, e2, e⟩ := R.ok_of e
  cases e
  rw [List.length_cons, h _ _ _ e2]
theorem ce_call {g : List D → R Hd} {p : Pos} (G : Glo X.prog X.w X.K X.mg X.base name k np [] (pureF g)) (o : Out2 X E XE) (hr : Room k X.A) (ha : CA X P0 O W E (e :: es) ms) (hl : ALen ms np) (hg : Gl X name := by rfl) (hdb : (name == ("__debug__" : Str)) = false := by decide)
    (he : starEach (e :: es) X.env = (false, eval e X.env) :: starEach es X.env := by rfl) (hpl : (backTo pos (starEach es X.env)).any (·.1) = false := by rfl) : CEx X P0 O W E (.Call (.Name name p) (e :: es) [] pos) (cCallF g ms) := by
  obtain ⟨f, fd, ps, hm, hk, hb, _, F⟩ := G.ex
  exact PE.imp (pe_call F hr hg hm hk hb .nil o.pass ha hdb he hpl) fun σ H Q h => tM_callF o.ex σ H Q (fun _ _ _ _ => trivial) h hl
end
end Y

set_option Elab.async false
set_option linter.all false
set_option maxRecDepth 100000
namespace Y
open PySem PySem.Spec PyProof.Rows L2

def retH (np : Nat) : Fl → Env → R Hd
  | .nx, _ => .ok (.fr .non)
  | .rt (.ow i), ρ => if np ≤ i then (do
      let d ← (look i ρ).nox
      pure (.fr d)) else .stk
  | .rt h, _ => .ok h
  | _, _ => .stk
def outs (O : List Nat) (np : Nat) (ρ : Env) : Env := (List.range np).map fun i => if O.contains i = true then ρ.getD i none else none
def fnD (np n : Nat) (O : List Nat) (m : SM) : Fn := fun ds => do
  let (f, ρ) ← m (ds.map some ++ List.replicate (n - np) none)
  let h ← (retH np f ρ).nox
  pure (h, outs O np ρ)
section
variable {K : PySem.W.Frag} {mg : Str → Option Value} {P0 : Pr} {O Oc W U : List Nat} {ρ : Env} {σ : St} {H H' : Hp} {d : D} {v : V} {np n : Nat}
theorem RepO.less {P P' : Pr} (hm : ∀ b, P b → isMut (H b)) (h : RepO K H d P v) (hp : ∀ b, P' b → P b) : RepO K H d P' v := h.mono hm (fun _ _ e _ => e) (fun b z => .inl (hp b z)) fun _ _ _ e => e
/-- an own slot's object, told on -/
theorem RepO.rep {P P' : Pr} (hm : ∀ b, P b → isMut (H b)) (h : RepO K H d P v) (hp : ∀ b, P' b → P b) (ha : ∀ a, v = .ref a → ¬ P' a ∧ P a) : Rep K H d P' v := by
  cases d with
  | lst ds =>
    obtain ⟨a, vs, rfl, h1, h2⟩ := h
    unfold Rep
    exact ⟨a, vs, rfl, (ha a rfl).1, h1, h2.less hm fun b z => z.elim (hp b) fun z => by rw [z]; exact (ha a rfl).2⟩
  | dik ks ds =>
    obtain ⟨a, vs, rfl, hl, h1, h2⟩ := h
    unfold Rep
    exact ⟨a, vs, rfl, (ha a rfl).1, hl, .inl h1, h2.less hm fun b z => z.elim (hp b) fun z => by rw [z]; exact (ha a rfl).2⟩
  | dit ks ds =>
    obtain ⟨a, vs, rfl, hl, h1, h2⟩ := h
    unfold Rep
    exact ⟨a, vs, rfl, (ha a rfl).1, hl, .inl h1, h2.less hm fun b z => z.elim (hp b) fun z => by rw [z]; exact (ha a rfl).2⟩
  | non => unfold Rep; exact h
  | bl _ => unfold Rep; exact h
  | int _ => unfold Rep; exact h
  | str _ => unfold Rep; exact h
  | tup _ => exact False.elim h
  | arg _ => exact False.elim h
theorem start_get {N : List Str} {vs : List V} {i : Nat} {v : V} (h : (L2.start N vs)[i]? = some (some v)) : vs[i]? = some v := by
  unfold L2.start at h
  by_cases hi : i < vs.length
  · rw [List.getElem?_append_left (by simpa using hi), List.getElem?_map] at h
    cases e : vs[i]? with
    | none => rw [e] at h; cases h
    | some a => rw [e] at h; cases h; rfl
  · rw [List.getElem?_append_right (by simpa using hi), List.getElem?_replicate] at h
    split at h <;> cases h
theorem start_of {N : List Str} {vs : List V} {i : Nat} {v : V} (h : vs[i]? = some v) : (L2.start N vs)[i]? = some (some v) := by
  unfold L2.start
  have hi : i < vs.length := (List.getElem?_eq_some_iff.mp h).1
  rw [List.getElem?_append_left (by simpa using hi), List.getElem?_map, h]
  rfl
theorem env_get {ds : List D} {k i : Nat} {d : D} (h : (ds.map some ++ List.replicate k none)[i]? = some (some d)) : ds[i]? = some d := by
  by_cases hi : i < ds.length
  · rw [List.getElem?_append_left (by simpa using hi), List.getElem?_map] at h
    cases e : ds[i]? with
    | none => rw [e] at h; cases h
    | some a => rw [e] at h; cases h; rfl
  · rw [List.getElem?_append_right (by simpa using hi), List.getElem?_replicate] at h
    split at h <;> cases h
theorem map_get {α : Type} {ds : List α} {i : Nat} {d : α} : (ds.map some)[i]? = some (some d) ↔ ds[i]? = some d := by
  rw [List.getElem?_map]
  cases ds[i]? <;> simp
theorem OA_start {N : List Str} {vs : List V} (hO : ∀ i, i ∈ O ↔ i ∈ Oc ∧ i < np) (hl : vs.length = np) (b : Addr) : OA Oc (L2.start N vs) b ↔ OA O (vs.map some) b := by
  constructor
  · rintro ⟨i, hi, e⟩
    have e := start_get e
    exact ⟨i, (hO i).mpr ⟨hi, by rw [← hl]; exact (List.getElem?_eq_some_iff.mp e).1⟩, map_get.mpr e⟩
  · rintro ⟨i, hi, e⟩
    exact ⟨i, ((hO i).mp hi).1, start_of (map_get.mp e)⟩
theorem sim_start {N : List Str} {ds : List D} {vs : List V} (S : Sim K P0 O [] (ds.map some) (vs.map some) H) (hO : ∀ i, i ∈ O ↔ i ∈ Oc ∧ i < np) (hW : ∀ i ∈ W, i ∈ Oc) (hl : vs.length = np) (hd : ds.length = np) (hn : N.length = n) : Sim K P0 Oc W (ds.map some ++ List.replicate (n - np) none) (L2.start N vs) H := by
  have fa : ∀ b, FA P0 Oc (L2.start N vs) b → FA P0 O (vs.map some) b := fun b z => z.imp id (OA_start hO hl b).mp
  refine ⟨hW, by unfold L2.start; simp; omega, fun b z => S.dom b (fa b z), fun i d e n => ?_, fun i d e n => ?_, fun i j a hi hj e1 e2 => ?_, fun a z => S.sep0 a ((OA_start hO hl a).mp z)⟩
  · obtain ⟨v, h1, h2⟩ := S.val i d (map_get.mpr (env_get e)) fun z => n ((hO i).mp z).1
    exact ⟨v, start_of (map_get.mp h1), h2.less S.dom fa⟩
  · have e := env_get e
    have hi : i < np := by rw [← hd]; exact (List.getElem?_eq_some_iff.mp e).1
    obtain ⟨v, h1, h2⟩ := S.own i d (map_get.mpr e) ((hO i).mpr ⟨n, hi⟩)
    exact ⟨v, start_of (map_get.mp h1), h2.less S.dom fa⟩
  · have e1 := start_get e1
    have e2 := start_get e2
    have l1 : i < np := by rw [← hl]; exact (List.getElem?_eq_some_iff.mp e1).1
    have l2 : j < np := by rw [← hl]; exact (List.getElem?_eq_some_iff.mp e2).1
    exact S.sep i j a ((hO i).mpr ⟨hi, l1⟩) ((hO j).mpr ⟨hj, l2⟩) (map_get.mpr e1) (map_get.mpr e2)
theorem outs_get {i : Nat} (h : (outs O np ρ)[i]? = some (some d)) : i ∈ O ∧ i < np ∧ ρ[i]? = some (some d) := by
  unfold outs at h
  rw [List.getElem?_map] at h
  cases e : (List.range np)[i]? with
  | none => rw [e] at h; cases h
  | some j =>
    rw [e] at h
    have hi := (List.getElem?_eq_some_iff.mp e).1
    have hj : j = i := by
      obtain ⟨h1, h2⟩ := List.getElem?_eq_some_iff.mp e
      simpa using h2.symm
    subst hj
    simp only [Option.map_some, Option.some.injEq] at h
    split at h
    · rename_i c
      refine ⟨by simpa using c, by simpa using hi, ?_⟩
      rw [List.getD_eq_getElem?_getD] at h
      cases q : ρ[j]? with
      | none => rw [q] at h; cases h
      | some o => rw [q] at h; simp at h; rw [h]
    · cases h
/-- THE RULE for a def -/
theorem fnD_ok {P : Program} {w : World} {base : Heap} {x qual : Str} {st : Stmt} {f : Addr} {fd : FuncData} {N ps : List Str} {k : Nat} {m : SM} (F : Fun K x qual st f fd) (S : FnScope N ps (defScope st)) (hp : ps.length = np) (hn : N.length = n) (hO : ∀ i, i ∈ O ↔ i ∈ Oc ∧ i < np) (hW : ∀ i ∈ W, i ∈ Oc) (hU : ∀ i ∈ O, i ∈ U)
    (hb : ∀ (cdv : Value) (A : Around) (outer : List PySem.Env) (s : Shared) (H : Hp) (E : XK) (P0 : Pr), Room k (A.deeper (envOfC qual (defScope st) s.heap.objs.size f cdv)) → CSs (cxOf (L2N.CX P w) P w K mg base N qual (defScope st) f cdv A outer s H E) P0 Oc W U (exE mg E) (defBody st) m) :
    FnOk P w K mg base (L2N.CX P w) (k + 1) f fd ps (spD K mg np O (fnD np n O m)) := by
  refine okN F S (fun vs H Q E h => by rw [h.1, hp]) fun cdv A outer s H vs Q E hr h => ?_
  obtain ⟨hl, ds, P0, S0, hd, h⟩ := h
  refine ⟨_, hb cdv A outer s H E P0 hr, _, sim_start S0 hO hW hl hd hn, ?_⟩
  have oa := fun b => OA_start (N := N) hO hl b
  have kO : ∀ {H'}, Keep Oc (L2.start N vs) H H' → Keep O (vs.map some) H H' := fun {H'} k => ⟨fun b o e nn => k.keep b o e fun z => nn ((oa b).mp z), k.some⟩
  unfold fnD at h
  cases em : m (ds.map some ++ List.replicate (n - np) none) with
  | stk => rw [em] at h; exact h.elim
  | er c xs => rw [em] at h; exact fun H' kp => h H' (kO kp)
  | ok p =>
    obtain ⟨fl, ρ1⟩ := p
    rw [em] at h
    obtain ⟨hh, e1, h⟩ := Res.of_nox (show Res (exE mg E) O (vs.map some) H ((retH np fl ρ1).nox >>= _) _ from h)
    intro σ' H' S' t' l'
    have h : ∀ v H', Keep O (vs.map some) H H' → Sim K P0 O [] (outs O np ρ1) (vs.map some) H' → HdR K P0 O H (vs.map some) H' hh v → Q v H' := h
    have un : ∀ i ∈ O, σ'[i]? = (L2.start N vs)[i]? := fun i hi => t'.unch i (hU i hi)
    have pre : ∀ {i : Nat} {v : V}, i ∈ O → (σ'[i]? = some (some v) ↔ (vs.map some)[i]? = some (some v)) := fun {i v} hi => by
      rw [un i hi]
      exact ⟨fun e => map_get.mpr (start_get e), fun e => start_of (map_get.mp e)⟩
    have oO : ∀ b, OA O (vs.map some) b → OA Oc σ' b := fun b ⟨i, hi, e⟩ => ⟨i, ((hO i).mp hi).1, (pre hi).mpr e⟩
    have fa : ∀ b, FA P0 O (vs.map some) b → FA P0 Oc σ' b := fun b z => z.imp id (oO b)
    have kk : Keep O (vs.map some) H H' := ⟨fun b o e nn => t'.keep b o e fun z => nn ((oa b).mp z), t'.some⟩
    have so : Sim K P0 O [] (outs O np ρ1) (vs.map some) H' := by
      refine ⟨fun _ z => (nomatch z), by unfold outs; simp [hl], fun b z => S'.dom b (fa b z), fun i d e nn => absurd (outs_get e).1 nn, fun i d e hi => ?_, S0.sep, S0.sep0⟩
      obtain ⟨_, _, e2⟩ := outs_get e
      obtain ⟨v, h1, h2⟩ := S'.own i d e2 ((hO i).mp hi).1
      exact ⟨v, (pre hi).mp h1, h2.less S'.dom fa⟩
    cases fl with
    | bk => cases e1
    | ct => cases e1
    | nx => cases e1; exact h .non H' kk so ⟨by unfold Rep; rfl, fun z => by cases z⟩
    | rt hd' =>
      intro v r
      cases hd' with
      | fr d => cases e1; exact h v H' kk so ⟨r.1.less S'.dom fa, r.2⟩
      | vl d => cases e1; exact h v H' kk so (Rep.less S'.dom r fa)
      | ow i =>
        have e1 : (if np ≤ i then (do
          let d ← (look i ρ1).nox
          pure (Hd.fr d)) else .stk) = R.ok hh := e1
        by_cases hi : np ≤ i
        · rw [if_pos hi] at e1
          obtain ⟨d, e2, e1⟩ := R.ok_of e1
          cases e1
          have e2 := look_some (R.nox_of e2)
          obtain ⟨v', h1, h2⟩ := S'.own i d e2 r.1
          have q : σ'[i]? = some (some v) := r.2
          rw [q] at h1
          cases h1
          have no : ∀ a, v = .ref a → ¬ OA O (vs.map some) a := fun a e z => by
            obtain ⟨j, hj, ej⟩ := z
            have := S'.sep i j a r.1 ((hO j).mp hj).1 (by rw [q, e]) ((pre hj).mpr ej)
            have := ((hO j).mp hj).2
            omega
          refine h v H' kk so ⟨h2.rep S'.dom fa fun a e => ⟨fun z => ?_, .inr ⟨i, r.1, by rw [q, e]⟩⟩, fun _ a e => ?_⟩
          · rcases z with z | z
            · exact S'.sep0 a ⟨i, r.1, by rw [q, e]⟩ z
            · exact no a e z
          · rcases t'.own a ⟨i, r.1, by rw [q, e]⟩ with z | z
            · exact absurd ((oa a).mp z) (no a e)
            · exact z
        · rw [if_neg hi] at e1
          cases e1
end
end Y

set_option Elab.async false
set_option linter.all false
set_option maxRecDepth 100000
namespace Y
open PySem PySem.Spec PyProof.Rows L2

def placed (pr : List (Nat × Nat)) : Nat → List Hd → Bool
  | _, [] => true
  | j, .ow i :: hs => pr.contains (j, i) && placed pr (j + 1) hs
  | j, _ :: hs => (!pr.any fun p => p.1 == j) && placed pr (j + 1) hs
def putOuts (os : Env) : List (Nat × Nat) → Env → Env
  | [], ρ => ρ
  | (j, i) :: pr, ρ => (putOuts os pr ρ).set i (os.getD j none)
def cCallIO (pr : List (Nat × Nat)) (g : Fn) (m : AM) : EM := fun ρ => do
  let (hs, ρ1) ← m ρ
  if placed pr 0 hs = true then do
    let ds ← (dsOf hs ρ1).nox
    let (h, os) ← g ds
    match h with
    | .ow _ => .stk
    | h => pure (h, putOuts os pr ρ1)
  else .stk
section
variable {K : PySem.W.Frag} {P0 : Pr} {O Oc W : List Nat} {ρ : Env} {σ : St} {Hs H H' : Hp} {pr : List (Nat × Nat)} {os : Env}
theorem putOuts_len : ∀ pr : List (Nat × Nat), (putOuts os pr ρ).length = ρ.length
  | [] => rfl
  | (j, i) :: pr => by unfold putOuts; rw [List.length_set, putOuts_len pr]
theorem putOuts_ne {x : Nat} : ∀ {pr : List (Nat × Nat)}, x ∉ pr.map (·.2) → (putOuts os pr ρ)[x]? = ρ[x]?
  | [], _ => rfl
  | (j, i) :: pr, h => by
    simp only [List.map_cons, List.mem_cons, not_or] at h
    unfold putOuts
    rw [List.getElem?_set_ne fun z => h.1 z.symm, putOuts_ne h.2]
theorem putOuts_at {j i : Nat} {d : D} : ∀ {pr : List (Nat × Nat)}, (pr.map (·.2)).Nodup → (j, i) ∈ pr → (putOuts os pr ρ)[i]? = some (some d) → os[j]? = some (some d)
  | [], _, h, _ => nomatch h
  | (j', i') :: pr, nd, h, e => by
    simp only [List.map_cons, List.nodup_cons] at nd
    unfold putOuts at e
    rcases List.mem_cons.mp h with z | z
    · cases z
      have hl : i < (putOuts os pr ρ).length := by
        have := (List.getElem?_eq_some_iff.mp e).1
        simpa using this
      rw [List.getElem?_set_self hl, List.getD_eq_getElem?_getD] at e
      cases q : os[j]? with
      | none => rw [q] at e; cases e
      | some o => rw [q] at e; simp at e; rw [e]
    · have hi : i' ≠ i := fun y => nd.1 (by rw [y]; exact List.mem_map.mpr ⟨_, z, rfl⟩)
      rw [List.getElem?_set_ne hi] at e
      exact putOuts_at nd.2 z e
theorem HdRs.at : ∀ {hs : List Hd} {vs : List V} {j : Nat} {v : V}, HdRs K P0 O Hs σ H hs vs → vs[j]? = some v → ∃ h, hs[j]? = some h ∧ HdR K P0 O Hs σ H h v
  | [], _, _, _, r, e => by have r : _ = [] := r; rw [r] at e; simp at e
  | h :: hs, _, 0, v, ⟨w, ws, e0, r1, _⟩, e => by subst e0; simp at e; subst e; exact ⟨h, rfl, r1⟩
  | h :: hs, _, j + 1, v, ⟨w, ws, e0, _, r2⟩, e => by subst e0; simpa using HdRs.at r2 (by simpa using e)
theorem HdRs.len : ∀ {hs : List Hd} {vs : List V}, HdRs K P0 O Hs σ H hs vs → vs.length = hs.length
  | [], _, r => by have r : _ = [] := r; rw [r]; rfl
  | h :: hs, _, ⟨w, ws, e0, _, r2⟩ => by subst e0; rw [List.length_cons, List.length_cons, HdRs.len r2]
theorem dsOf_at : ∀ {hs : List Hd} {ds : List D}, dsOf hs ρ = .ok ds → ds.length = hs.length ∧ ∀ (j : Nat) h d, hs[j]? = some h → ds[j]? = some d → h.d ρ = .ok d
  | [], _, e => by cases e; exact ⟨rfl, fun j h d e => by simp at e⟩
  | h :: hs, _, e => by
    obtain ⟨d, e1, e⟩ := R.ok_of e
    obtain ⟨ds, e2, e⟩ := R.ok_of e
    cases e
    obtain ⟨l, g⟩ := dsOf_at e2
    refine ⟨by rw [List.length_cons, List.length_cons, l], fun j h' d' a b => ?_⟩
    cases j with
    | zero => simp at a b; subst a b; exact R.nox_of e1
    | succ j => exact g j h' d' (by simpa using a) (by simpa using b)
theorem placed_at : ∀ {hs : List Hd} {k : Nat}, placed pr k hs = true → ∀ (j : Nat) h, hs[j]? = some h → (∃ i, h = .ow i ∧ (k + j, i) ∈ pr) ∨ ((∀ i, h ≠ .ow i) ∧ (k + j) ∉ pr.map (·.1))
  | [], _, _, j, h, e => by simp at e
  | h0 :: hs, k, p, j, h, e => by
    cases j with
    | zero =>
      simp at e; subst e
      cases h0 with
      | ow i =>
        unfold placed at p
        rw [Bool.and_eq_true] at p
        exact .inl ⟨i, rfl, by simpa using p.1⟩
      | fr d =>
        unfold placed at p
        rw [Bool.and_eq_true] at p
        refine .inr ⟨fun i z => (by cases z), fun z => ?_⟩
        obtain ⟨q, hq, e⟩ := List.mem_map.mp z
        have := p.1
        simp only [Bool.not_eq_true', List.any_eq_false] at this
        exact this q hq (by simpa using e)
      | vl d =>
        unfold placed at p
        rw [Bool.and_eq_true] at p
        refine .inr ⟨fun i z => (by cases z), fun z => ?_⟩
        obtain ⟨q, hq, e⟩ := List.mem_map.mp z
        have := p.1
        simp only [Bool.not_eq_true', List.any_eq_false] at this
        exact this q hq (by simpa using e)
    | succ j =>
      have p2 : placed pr (k + 1) hs = true := by
        cases h0 <;> (unfold placed at p; rw [Bool.and_eq_true] at p; exact p.2)
      have := placed_at p2 j h (by simpa using e)
      rwa [show k + 1 + j = k + (j + 1) by omega] at this
end
theorem nodup_inj {pr : List (Nat × Nat)} (hn : (pr.map (·.2)).Nodup) {j j' i : Nat} (a : (j, i) ∈ pr) (b : (j', i) ∈ pr) : j = j' := by
  induction pr with
  | nil => cases a
  | cons p pr ih =>
    simp only [List.map_cons, List.nodup_cons] at hn
    rcases List.mem_cons.mp a with a | a <;> rcases List.mem_cons.mp b with b | b
    · rw [← a] at b; cases b; rfl
    · exact absurd (List.mem_map.mpr ⟨_, b, by rw [← a]⟩) hn.1
    · exact absurd (List.mem_map.mpr ⟨_, a, by rw [← b]⟩) hn.1
    · exact ih hn.2 a b
theorem nodup_inj1 {pr : List (Nat × Nat)} (hn : (pr.map (·.1)).Nodup) {j i i' : Nat} (a : (j, i) ∈ pr) (b : (j, i') ∈ pr) : i = i' := by
  induction pr with
  | nil => cases a
  | cons p pr ih =>
    simp only [List.map_cons, List.nodup_cons] at hn
    rcases List.mem_cons.mp a with a | a <;> rcases List.mem_cons.mp b with b | b
    · rw [← a] at b; cases b; rfl
    · exact absurd (List.mem_map.mpr ⟨_, b, by rw [← a]⟩) hn.1
    · exact absurd (List.mem_map.mpr ⟨_, a, by rw [← b]⟩) hn.1
    · exact ih hn.2 a b
section
variable {X : Cx} {P0 : Pr} {O Oc W U : List Nat} {E : EK} {XE : XK} {a b c e : Expr} {es : List Expr} {ma mb mc : EM} {ms : AM} {pos : Pos} {k np : Nat} {name : Str} {pr : List (Nat × Nat)}
theorem tM_callIO {g : Fn} (hE : ∀ c ds H, E c ds H → exE X.mg XE c ds H) (hO : O = pr.map (·.1)) (hn : (pr.map (·.2)).Nodup) (hn1 : (pr.map (·.1)).Nodup) (hw : ∀ p ∈ pr, p.2 ∈ W) (hl : ALen ms np) (σ : St) (H : Hp) (Q : VK) (h : tM X.K P0 Oc W E (cCallIO pr g ms) σ H Q) :
    tCall (spD X.K X.mg np O g) [] XE (tMs X.K P0 Oc W E ms) σ H Q := by
  obtain ⟨ρ, S, h⟩ := h
  refine ⟨ρ, S, ?_⟩
  cases em : ms ρ with
  | stk => unfold cCallIO at h; rw [em] at h; exact h.elim
  | er c ds => unfold cCallIO at h; rw [em] at h; exact h
  | ok p =>
    obtain ⟨hs, ρ1⟩ := p
    unfold cCallIO at h
    rw [em] at h
    intro vs H1 S1 k1 r1
    have q : Res E W σ H (if placed pr 0 hs = true then (do
      let ds ← (dsOf hs ρ1).nox
      let (h, os) ← g ds
      match h with
      | .ow _ => .stk
      | h => pure (h, putOuts os pr ρ1)) else .stk) _ := h
    have hp : placed pr 0 hs = true := by
      cases hp : placed pr 0 hs with
      | true => rfl
      | false => rw [hp] at q; exact q.elim
    rw [if_pos hp] at q
    obtain ⟨ds, e1, q⟩ := q.of_nox
    have pl := placed_at hp
    simp only [Nat.zero_add] at pl
    obtain ⟨dl, dg⟩ := dsOf_at e1
    have lv : vs.length = np := by rw [HdRs.len r1]; exact hl ρ hs ρ1 em
    have ld : ds.length = np := by rw [dl]; exact hl ρ hs ρ1 em
    rw [List.append_nil]
    -- the callee's own objects are own here
    have own : ∀ {j : Nat} {v : V}, j ∈ O → (vs.map some)[j]? = some (some v) → ∃ i, (j, i) ∈ pr ∧ i ∈ Oc ∧ i ∈ W ∧ σ[i]? = some (some v) ∧ hs[j]? = some (.ow i) := fun {j v} hj e => by
      obtain ⟨h, e2, r⟩ := HdRs.at r1 (map_get.mp e)
      rcases pl j h e2 with ⟨i, rfl, hi⟩ | ⟨_, hn'⟩
      · exact ⟨i, hi, r.1, hw _ hi, r.2, e2⟩
      · rw [hO] at hj; exact absurd hj hn'
    have oa : ∀ b, OA O (vs.map some) b → OA W σ b := fun b ⟨j, hj, e⟩ => let ⟨i, _, _, h2, h3, _⟩ := own hj e; ⟨i, h2, h3⟩
    have oaO : ∀ b, OA O (vs.map some) b → OA Oc σ b := fun b z => S1.oaw (oa b z)
    generalize hP1 : (fun b => FA P0 Oc σ b ∧ ¬ OA O (vs.map some) b : Pr) = P1
    have fa1 : ∀ b, FA P1 O (vs.map some) b → FA P0 Oc σ b := fun b z => by
      subst hP1
      rcases z with z | z
      · exact z.1
      · exact .inr (oaO b z)
    have fa2 : ∀ b, FA P0 Oc σ b → FA P1 O (vs.map some) b := fun b z => by
      subst hP1
      by_cases y : OA O (vs.map some) b
      · exact .inr y
      · exact .inl ⟨z, y⟩
    have S2 : Sim X.K P1 O [] (ds.map some) (vs.map some) H1 := by
      refine ⟨fun _ z => (nomatch z), by simp [lv, ld], fun b z => S1.dom b (fa1 b z), fun j d e nj => ?_, fun j d e hj => ?_, fun x y a hx hy e1 e2 => ?_, fun a z y => by subst hP1; exact y.2 z⟩
      · have e := map_get.mp e
        have hj : j < vs.length := by rw [lv, ← ld]; exact (List.getElem?_eq_some_iff.mp e).1
        have ev : vs[j]? = some vs[j] := List.getElem?_eq_getElem hj
        obtain ⟨h, e2, r⟩ := HdRs.at r1 ev
        refine ⟨vs[j], map_get.mpr ev, ?_⟩
        have hd := dg j h d e2 e
        rcases pl j h e2 with ⟨i, rfl, hi⟩ | ⟨hne, _⟩
        · exact absurd (by rw [hO]; exact List.mem_map.mpr ⟨_, hi, rfl⟩) nj
        · cases h with
          | fr d' => cases hd; exact r.1.less S1.dom fa1
          | vl d' => cases hd; exact Rep.less S1.dom r fa1
          | ow i => exact absurd rfl (hne i)
      · have e := map_get.mp e
        have hj' : j < vs.length := by rw [lv, ← ld]; exact (List.getElem?_eq_some_iff.mp e).1
        have ev : (vs.map some)[j]? = some (some vs[j]) := map_get.mpr (List.getElem?_eq_getElem hj')
        obtain ⟨i, h1, h2, h3, h4, h5⟩ := own hj ev
        have hd := look_some (dg j _ d h5 e)
        obtain ⟨w, h6, h7⟩ := S1.own i d hd h2
        rw [h4] at h6; cases h6
        exact ⟨_, ev, h7.less S1.dom fa1⟩
      · obtain ⟨i1, a1, b1, c1, d1, f1⟩ := own hx e1
        obtain ⟨i2, a2, b2, c2, d2, f2⟩ := own hy e2
        have ei := S1.sep i1 i2 a b1 b2 d1 d2
        subst ei
        have := nodup_inj hn a1 a2
        exact this
    refine ⟨lv, ds, P1, S2, ld, ?_⟩
    have q := q.keep k1
    cases eg : g ds with
    | stk => rw [eg] at q; exact q.elim
    | er c xs =>
      rw [eg] at q
      exact fun H' kp => hE c xs H' (q H' ⟨fun b o e n => kp.keep b o e fun z => n (oa b z), kp.some⟩)
    | ok p =>
      obtain ⟨hd, os⟩ := p
      rw [eg] at q
      intro v H2 k2 S3 r2
      have S3 : Sim X.K P1 O [] os (vs.map some) H2 := S3
      have k3 : Keep W σ H1 H2 := ⟨fun b o e n => k2.keep b o e fun z => n (oa b z), k2.some⟩
      have slot : ∀ {j i : Nat}, (j, i) ∈ pr → i ∈ Oc := fun {j i} z => S1.sub i (hw _ z)
      have S4 : Sim X.K P0 Oc W (putOuts os pr ρ1) σ H2 := by
        refine ⟨S1.sub, by rw [putOuts_len]; exact S1.len, fun b z => S3.dom b (fa2 b z), fun i d e n => ?_, fun i d e n => ?_, S1.sep, S1.sep0⟩
        · have ni : i ∉ pr.map (·.2) := fun z => by
            obtain ⟨⟨j, i'⟩, hq, z⟩ := List.mem_map.mp z
            cases z
            exact n (slot hq)
          rw [putOuts_ne ni] at e
          obtain ⟨v, h1, h2⟩ := S1.val i d e n
          exact ⟨v, h1, h2.of_same S1.dom fun b o e n => k2.keep b o e fun z => n (.inr (oaO b z))⟩
        · by_cases ni : i ∈ pr.map (·.2)
          · obtain ⟨⟨j, i'⟩, hq, z⟩ := List.mem_map.mp ni
            cases z
            have eo := putOuts_at hn hq e
            have hj : j ∈ O := by rw [hO]; exact List.mem_map.mpr ⟨_, hq, rfl⟩
            obtain ⟨w, h1, h2⟩ := S3.own j d eo hj
            obtain ⟨i2, a2, b2, c2, d2, f2⟩ := own hj h1
            have : i2 = i' := by
              have := nodup_inj1 hn1 a2 hq
              exact this
            subst this
            exact ⟨w, d2, h2.less S3.dom fa2⟩
          · rw [putOuts_ne ni] at e
            obtain ⟨w, h1, h2⟩ := S1.own i d e n
            refine ⟨w, h1, h2.mono S1.dom (fun b o e n => k2.keep b o e fun z => n (.inr (oaO b z))) (fun _ z => .inl z) fun a o e1 e2 => k2.keep a o e2 fun ⟨j, hj, ej⟩ => ?_⟩
            subst e1
            obtain ⟨i2, a2, b2, c2, d2, f2⟩ := own hj ej
            have := S1.sep i i2 a n b2 h1 d2
            subst this
            exact ni (List.mem_map.mpr ⟨_, a2, rfl⟩)
      cases hd with
      | ow j => exact q.elim
      | fr d => exact q v H2 S4 (k1.trans k3) ⟨r2.1.less S3.dom fa2, fun m a e => Classical.byContradiction fun z => k1.some a z (r2.2 m a e)⟩
      | vl d => exact q v H2 S4 (k1.trans k3) (Rep.less S3.dom r2 fa2)
theorem ce_callIO {g : Fn} {p : Pos} (G : Glo X.prog X.w X.K X.mg X.base name k np O g) (pr : List (Nat × Nat)) (o : Out2 X E XE) (hr : Room k X.A) (ha : CA X P0 Oc W E (e :: es) ms) (hl : ALen ms np) (hO : O = pr.map (·.1) := by rfl) (hn : (pr.map (·.2)).Nodup := by decide) (hn1 : (pr.map (·.1)).Nodup := by decide) (hw : ∀ p ∈ pr, p.2 ∈ W := by decide) (hg : Gl X name := by rfl) (hdb : (name == ("__debug__" : Str)) = false := by decide)
    (he : starEach (e :: es) X.env = (false, eval e X.env) :: starEach es X.env := by rfl) (hpl : (backTo pos (starEach es X.env)).any (·.1) = false := by rfl) : CEx X P0 Oc W E (.Call (.Name name p) (e :: es) [] pos) (cCallIO pr g ms) := by
  obtain ⟨f, fd, ps, hm, hk, hb, _, F⟩ := G.ex
  exact PE.imp (pe_call F hr hg hm hk hb .nil o.pass ha hdb he hpl) fun σ H Q h => tM_callIO o.ex hO hn hn1 hw hl σ H Q h
end
end Y

set_option Elab.async false
set_option linter.all false
set_option maxRecDepth 100000
namespace Y
open PySem PySem.Spec PyProof.Rows L2

def fnP (np n : Nat) (m : SM) : List D → R Hd := fun ds => do
  let (f, ρ) ← m (ds.map some ++ List.replicate (n - np) none)
  (retH np f ρ).nox
section
variable {P : Program} {w : World} {K : PySem.W.Frag} {mg : Str → Option Value} {base : Heap} {name : Str} {k np n : Nat} {O : List Nat}
theorem Glo.imp {g g' : Fn} (G : Glo P w K mg base name k np O g) (h : ∀ vs H Q E, spD K mg np O g' vs H Q E → spD K mg np O g vs H Q E) : Glo P w K mg base name k np O g' :=
  let ⟨f, fd, ps, h1, h2, h3, h4, F⟩ := G.ex
  ⟨f, fd, ps, h1, h2, h3, h4, F.imp h⟩
theorem Glo.mono {g : Fn} {k' : Nat} (G : Glo P w K mg base name k np O g) (h : k ≤ k' := by decide) : Glo P w K mg base name k' np O g :=
  let ⟨f, fd, ps, h1, h2, h3, h4, F⟩ := G.ex
  ⟨f, fd, ps, h1, h2, h3, h4, F.mono h⟩
theorem spD_pure {m : SM} {vs : List V} {H : Hp} {Q : VK} {E : XK} : spD K mg np [] (pureF (fnP np n m)) vs H Q E → spD K mg np [] (fnD np n [] m) vs H Q E := fun ⟨hl, ds, P0, S, hd, h⟩ => ⟨hl, ds, P0, S, hd, by
  unfold pureF fnP at h
  unfold fnD
  cases em : m (ds.map some ++ List.replicate (n - np) none) with
  | stk => rw [em] at h; exact h
  | er c xs => rw [em] at h; exact h
  | ok p =>
    obtain ⟨fl, ρ⟩ := p
    rw [em] at h
    cases er : (retH np fl ρ).nox with
    | stk => exact (show Res (exE mg E) [] (vs.map some) H ((retH np fl ρ).nox >>= fun h => Y.R.ok (h, outs [] np ρ)) _ by
        rw [er]
        have h : Res (exE mg E) [] (vs.map some) H ((retH np fl ρ).nox >>= fun h => Y.R.ok (h, [])) _ := h
        rw [er] at h
        exact h)
    | er c xs => cases e2 : retH np fl ρ <;> rw [e2] at er <;> cases er
    | ok hd' =>
      refine (show Res (exE mg E) [] (vs.map some) H ((retH np fl ρ).nox >>= fun h => Y.R.ok (h, outs [] np ρ)) _ from ?_)
      have h : Res (exE mg E) [] (vs.map some) H ((retH np fl ρ).nox >>= fun h => Y.R.ok (h, [])) _ := h
      rw [er] at h ⊢
      exact fun v H' kp S' r => h v H' kp (S'.move (Nat.zero_le _) (fun _ _ => rfl) (fun _ z => nomatch z) fun i d e => by simp at e) r⟩
theorem Glo.pure {m : SM} (G : Glo P w K mg base name k np [] (fnD np n [] m)) : Glo P w K mg base name k np [] (pureF (fnP np n m)) := G.imp fun vs H Q E h => spD_pure h
/-- a def of the text -/
structure Def (K : PySem.W.Frag) (mg : Str → Option Value) (x : Str) (st : Stmt) : Prop where
  ex : ∃ f fd, mg x = some (.ref f) ∧ Fun K x x st f fd
theorem glo_mk {x : Str} {st : Stmt} {N ps : List Str} {Oc W U : List Nat} {m : SM} (F : Def K mg x st) (S : FnScope N ps (defScope st))
    (hb : ∀ (f : Addr) (cdv : Value) (A : Around) (outer : List PySem.Env) (s : Shared) (H : Hp) (E : XK) (P0 : Pr), Room k (A.deeper (envOfC x (defScope st) s.heap.objs.size f cdv)) → CSs (cxOf (L2N.CX P w) P w K mg base N x (defScope st) f cdv A outer s H E) P0 Oc W U (exE mg E) (defBody st) m)
    (bi : ∀ (kV doc pm : Value) (an : Option Addr) (cdv ct : Value) (us : List Value), us.length = ps.length → bindArgs (PySem.W.fnOf x x (defArgs st) (defBody st) (defScope st) .none kV doc pm an cdv ct) ⟨us, []⟩ = Pure.pure (ps.zip us))
    (hp : ps.length = np := by rfl) (hn : N.length = n := by rfl) (hO : O = Oc.filter (fun i => decide (i < np)) := by rfl) (hW : ∀ i ∈ W, i ∈ Oc := by decide) (hU : ∀ i ∈ O, i ∈ U := by decide) : Glo P w K mg base x (k + 1) np O (fnD np n O m) := by
  obtain ⟨f, fd, hm, F⟩ := F.ex
  exact ⟨f, fd, ps, hm, F.kp, F.binds bi, hp, fnD_ok F S hp hn (fun i => by rw [hO, List.mem_filter, decide_eq_true_eq]) hW hU fun cdv A outer s H E P0 hr => hb f cdv A outer s H E P0 hr⟩
theorem law_fn {st : Stmt} {f : Addr} {fd : FuncData} {N : List Str} {Oc W : List Nat} {m : SM} (F : Fun K "law" "law" st f fd) (S : FnScope N ["script"] (defScope st))
    (hb : ∀ (f : Addr) (cdv : Value) (A : Around) (outer : List PySem.Env) (s : Shared) (H : Hp) (E : XK) (P0 : Pr), Room k (A.deeper (envOfC "law" (defScope st) s.heap.objs.size f cdv)) → CSs (cxOf (L2N.CX P w) P w K mg base N "law" (defScope st) f cdv A outer s H E) P0 Oc W [] (exE mg E) (defBody st) m)
    (hn : N.length = n := by rfl) (hO : [] = Oc.filter (fun i => decide (i < 1)) := by rfl) (hW : ∀ i ∈ W, i ∈ Oc := by decide) : FnOk P w K mg base (L2N.CX P w) (k + 1) f fd ["script"] (spD K mg 1 [] (pureF (fnP 1 n m))) :=
  (fnD_ok (O := []) F S rfl hn (fun i => by rw [hO, List.mem_filter, decide_eq_true_eq]; exact Iff.rfl) hW (fun _ h => by simp at h) fun cdv A outer s H E P0 hr => hb f cdv A outer s H E P0 hr).imp fun vs H Q E h => spD_pure h
theorem out2_body {N : List Str} {x : Str} {sc : Scope} {f : Addr} {cdv : Value} {A : Around} {outer : List PySem.Env} {s : Shared} {H : Hp} {E : XK} : Out2 (cxOf (L2N.CX P w) P w K mg base N x sc f cdv A outer s H E) (exE mg E) E :=
  ⟨L2N.passes_call (L2N.takes_of rfl rfl rfl rfl) (fun _ _ _ _ h => h), fun c ds H h => h⟩
theorem cx_none {H : Hp} {s : Shared} {e : Value} {s' : Shared} (h : L2N.CX P w [] H s (fun _ _ _ => False) e s') : False := by
  obtain ⟨_, _, _, _, _, _, _, _, _, _, _, _, z⟩ := h
  exact z.elim
end
end Y

set_option Elab.async false
set_option linter.all false
set_option maxRecDepth 100000
namespace Y
open PySem PySem.Spec PyProof.Rows L2
def tyN : D → String
  | .non => "NoneType" | .bl _ => "bool" | .int _ => "int" | .str _ => "str" | .tup _ => "tuple" | .lst _ => "list" | .arg _ => "list" | .dik _ _ => "dict" | .dit _ _ => "dict"
def isInt : D → Bool
  | .int _ => true | .bl _ => true | _ => false
def isBl : D → Bool
  | .bl _ => true | _ => false
def isTup : D → Bool
  | .tup _ => true | _ => false
abbrev IsK (T : String) (f : D → Bool) : Prop := ∀ d, kitB (tyN d) T = some (f d)
theorem isk_int : IsK "int" isInt := fun d => by cases d <;> simp only [tyN, isInt] <;> decide +kernel
theorem isk_bool : IsK "bool" isBl := fun d => by cases d <;> simp only [tyN, isBl] <;> decide +kernel
theorem isk_tuple : IsK "tuple" isTup := fun d => by cases d <;> simp only [tyN, isTup] <;> decide +kernel
def noDit : D → Bool
  | .dit _ _ => false | _ => true
theorem tyX_of {K : PySem.W.Frag} {H : Hp} {P : Pr} {d : D} {v : V} (hd : noDit d = true) (h : RepW K H d P v) : TyX K H v (.type (tyN d)) := by
  cases d with
  | non => have h : Rep K H .non P v := h; unfold Rep at h; subst h; exact .base .non
  | bl b => have h : Rep K H (.bl b) P v := h; unfold Rep at h; subst h; exact .base (.bl b)
  | int i => have h : Rep K H (.int i) P v := h; unfold Rep at h; subst h; exact .base (.int i)
  | str x => have h : Rep K H (.str x) P v := h; unfold Rep at h; subst h; exact .base (.str x)
  | tup ds =>
    have h : Rep K H (.tup ds) P v := h
    unfold Rep at h
    obtain ⟨a, vs, rfl, h1, _⟩ := h
    exact .base (.tup h1)
  | lst ds =>
    obtain ⟨a, vs, rfl, h1, _⟩ := h
    exact .base (.lst h1)
  | arg ns =>
    obtain ⟨a, rfl, h1⟩ := h
    rcases h1 with (h1 | ⟨o, h1⟩) | ⟨ob, its, n, h1, h2, _⟩
    · exact .base (.lst h1)
    · exact .base (.frz h1)
    · exact .kList h1 h2
  | dik ks ds =>
    obtain ⟨a, vs, rfl, _, h1, _⟩ := h
    rcases h1 with h1 | ⟨o, h1⟩
    · exact .base (.dK h1)
    · exact .fDict h1
  | dit ks ds => cases hd
def cIsi (f : D → Bool) (m : EM) : EM := fun ρ => do
  let (h, ρ1) ← m ρ
  let d ← (h.d ρ1).nox
  if noDit d = true then pure (.fr (.bl (f d)), ρ1) else .stk
section
variable {X : Cx} {P0 : Pr} {O W : List Nat} {E : EK} {a : Expr} {ma : EM} {pos : Pos}
theorem ce_isi {T : String} {x : Str} {f : D → Bool} {p q : Pos} (hk : IsK T f) (hm : X.mg "isinstance" = none) (hm2 : X.mg x = none) (h : CEx X P0 O W E a ma) (hv : bootBuiltins "isinstance" = some (.builtin "isinstance")) (hv2 : bootBuiltins x = some (.type T))
    (hg : Gl X "isinstance" := by rfl) (hg2 : Gl X x := by rfl) (hn : x ≠ "__name__" := by decide) (hdb : (x == ("__debug__" : Str)) = false := by decide)
    (he : starEach [a, .Name x q] X.env = (false, eval a X.env) :: starEach [.Name x q] X.env := by rfl) (hpl : (backTo pos (starEach [.Name x q] X.env)).any (·.1) = false := by rfl) (he2 : starEach [.Name x q] X.env = (false, eval (.Name x q) X.env) :: starEach [] X.env := by rfl) : CEx X P0 O W E (.Call (.Name "isinstance" p) [a, .Name x q] [] pos) (cIsi f ma) :=
  PE.imp (pe_callB call_isi hg hm hv (pa_cons h (pa_cons (pe_bltn hg2 hm2 hv2 (v := .ty T) rfl hn hdb) pa_nil he2) he) (by decide) (by decide) he hpl) fun σ H Q ⟨ρ, S, h⟩ => by
    refine ⟨ρ, S, h.of_bind.mono fun ⟨hd, ρ1⟩ q v H1 S1 k1 r1 => ?_⟩
    obtain ⟨d, e1, q⟩ := q.of_nox
    by_cases c : noDit d = true
    · rw [if_pos c] at q
      exact ⟨v, .ty T, _, _, f d, rfl, .ty T, tyX_of c (HdR.d S1 r1 e1), kit_ty (hk d), (out_of (K := X.K) S1 k1 q).bl⟩
    · rw [if_neg c] at q
      exact q.elim
end
end Y

set_option Elab.async false
set_option linter.all false
set_option maxRecDepth 100000
namespace Y
open PySem PySem.Spec PyProof.Rows L2
def sExpr (m : EM) : SM := fun ρ => do
  let (_, ρ1) ← m ρ
  pure (.nx, ρ1)
section
variable {K : PySem.W.Frag} {X : Cx} {P0 : Pr} {O W U : List Nat} {E : EK} {e : Expr} {ma : EM} {pos : Pos}
theorem cs_expr (h : CEx X P0 O W E e ma) (hs : swapsWith e none pos.line X.env = pure false := by rfl) : CS X P0 O W U E (.Expr e pos) (sExpr ma) := PS.imp (ps_expr h hs) fun D σ H ⟨ρ, S, h⟩ =>
  ⟨ρ, S, (h.of_bind.down S.sub).mono fun ⟨hd, ρ1⟩ q v H1 S1 k1 r1 => q σ H1 S1 (Tr.of S.sub k1) rfl⟩
/-- what the top binds -/
theorem def_mk {h : Heap} {mg : Str → Option Value} {x : Str} {st : Stmt} {f : Addr} {od an : Option Addr} {sl : Array (Option Value)} {oc kV dc pm cd ct : Value} (Z : K.In h) (G : h.Ns mainGlobals mg)
    (a : PySem.W.nsIn K mainGlobals x = some (some (.ref f))) (l : K.lookup f = some ⟨oc, od, .func (PySem.W.fnOf x x (defArgs st) (defBody st) (defScope st) .none kV dc pm an cd ct), sl⟩) (c : PySem.W.codeIn K cd x = true) (k : PySem.W.keepIn K (.ref f) = true) : Def K mg x st :=
  ⟨⟨f, _, PySem.W.mg_of Z G a, fun_mk l c k⟩⟩
end
theorem bo_len : bootBuiltins "len" = some (.builtin "len") := by decide +kernel
theorem bo_max : bootBuiltins "max" = some (.builtin "max") := by decide +kernel
theorem bo_min : bootBuiltins "min" = some (.builtin "min") := by decide +kernel
theorem bo_all : bootBuiltins "all" = some (.builtin "all") := by decide +kernel
theorem bo_any : bootBuiltins "any" = some (.builtin "any") := by decide +kernel
theorem bo_isinstance : bootBuiltins "isinstance" = some (.builtin "isinstance") := by decide +kernel
theorem bo_sorted : bootBuiltins "sorted" = some (.builtin "sorted") := by decide +kernel
theorem bo_tuple : bootBuiltins "tuple" = some (.type "tuple") := by decide +kernel
theorem bo_list : bootBuiltins "list" = some (.type "list") := by decide +kernel
theorem bo_bool : bootBuiltins "bool" = some (.type "bool") := by decide +kernel
theorem bo_int : bootBuiltins "int" = some (.type "int") := by decide +kernel
theorem bo_set : bootBuiltins "set" = some (.type "set") := by decide +kernel
theorem _root_.L2.Room.units65 {k : Nat} {A : Around} (r : Room k A) : A.units + 65 < cLine := by have := r.un; omega
end Y

set_option Elab.async false
set_option linter.all false
set_option maxRecDepth 100000
namespace Y
open PySem PySem.Spec PyProof.Rows L2
abbrev Good (g : List D → R Hd) (n : Nat) : Prop := ∀ ns : List Int, ns.length ≤ n → (∀ z ∈ ns, Builtin.Int.intBits z ≤ 1048576) → ∃ b, g [.arg ns] = .ok b ∧ (b = .fr (.bl true) ∨ b = .vl (.bl true))
def spL (K : PySem.W.Frag) (n : Nat) : Sp := fun vs H Q E => ∃ (a : Addr) (ns : List Int), vs = [.ref a] ∧ SqL K H a (ns.map V.int) ∧ ns.length ≤ n ∧ (∀ z ∈ ns, Builtin.Int.intBits z ≤ 1048576) ∧ ∀ H', Q (.bl true) H'
theorem spL_to {K : PySem.W.Frag} {mg : Str → Option Value} {g : List D → R Hd} {n : Nat} (hg : Good g n) {vs : List V} {H : Hp} {Q : VK} {E : XK} : spL K n vs H Q E → spD K mg 1 [] (pureF g) vs H Q E := fun ⟨a, ns, e, hS, h1, h2, q⟩ => by
  subst e
  obtain ⟨b, e, hb⟩ := hg ns h1 h2
  refine ⟨rfl, [.arg ns], fun _ => False, sim_args (fun b z => z.elim) (Reps.cons ?_ Reps.nil), rfl, ?_⟩
  · unfold Rep
    refine ⟨a, rfl, ?_⟩
    rcases hS with hS | hS
    · exact .inl ⟨fun z => z, hS⟩
    · exact .inr (.inr hS)
  · unfold pureF
    rw [e]
    intro v H' _ _ r
    have : v = .bl true := by
      rcases hb with rfl | rfl
      · have r := r.1; unfold Rep at r; exact r
      · have r : Rep K H' (.bl true) (FA (fun _ => False) [] ([V.ref a].map some)) v := r; unfold Rep at r; exact r
    rw [this]
    exact q H'
/-- the law as the head wants it -/
theorem law_all {P : Program} {w : World} {K : PySem.W.Frag} {mg : Str → Option Value} {h : Heap} {fa f2 : Addr} {st : Stmt} {k n : Nat} {g : List D → R Hd} (Z : K.In h) (G : h.Ns mainGlobals mg) (hfa : mg "law" = some (.ref fa)) (hg : Good g n)
    {od an : Option Addr} {sl : Array (Option Value)} {oc kV dc pm cd ct : Value}
    (ok : ∀ (base : Heap) {f : Addr} {fd : FuncData}, Fun K "law" "law" st f fd → FnOk P w K mg base (L2N.CX P w) k f fd ["script"] (spD K mg 1 [] (pureF g)))
    (hb : ∀ (kV dc pm : Value) (an : Option Addr) (cd ct : Value) (s : Shared) (u : Value), BindsTo s (PySem.W.fnOf "law" "law" (defArgs st) (defBody st) (defScope st) .none kV dc pm an cd ct) ⟨[u], []⟩ [("script", u)])
    (a : PySem.W.nsIn K mainGlobals "law" = some (some (.ref f2))) (l : K.lookup f2 = some ⟨oc, od, .func (PySem.W.fnOf "law" "law" (defArgs st) (defBody st) (defScope st) .none kV dc pm an cd ct), sl⟩) (c : PySem.W.codeIn K cd "law" = true) (kp : PySem.W.keepIn K (.ref f2) = true) :
    ∃ fd : FuncData, (∀ (s : Shared) (u : Value), BindsTo s fd ⟨[u], []⟩ [("script", u)]) ∧ ∀ base : Heap, K.In base → base.Ns mainGlobals mg → FnOk P w K mg base (L2N.CX P w) k fa fd ["script"] (spL K n) := by
  have e := hfa.symm.trans (PySem.W.mg_of Z G a)
  cases e
  exact ⟨_, fun s u => hb kV dc pm an cd ct s u, fun base _ _ => (ok base (fun_mk l c kp)).imp fun vs H Q E h => spL_to hg h⟩
end Y

set_option Elab.async false
set_option linter.all false
set_option maxRecDepth 100000
namespace Y
open PySem PySem.Spec PyProof.Rows L2
variable {ρ : Env}
@[simp] theorem e_look {i : Nat} : look i ρ = (match ρ[i]? with | some (some d) => .ok d | _ => .stk) := id rfl
@[simp] theorem e_var {i : Nat} : cVar i ρ = ((look i ρ).nox >>= fun d => R.ok (.vl d, ρ)) := id rfl
@[simp] theorem e_own {i : Nat} : cOwn i ρ = ((look i ρ).nox >>= fun _ => R.ok (.ow i, ρ)) := id rfl
@[simp] theorem e_c {d : D} : cC d ρ = .ok (.fr d, ρ) := id rfl
@[simp] theorem e_hfr {d : D} : Hd.d (.fr d) ρ = .ok d := id rfl
@[simp] theorem e_hvl {d : D} : Hd.d (.vl d) ρ = .ok d := id rfl
@[simp] theorem e_how {i : Nat} : Hd.d (.ow i) ρ = look i ρ := id rfl
@[simp] theorem e_vfr {d : D} : Hd.v (.fr d) = .ok d := id rfl
@[simp] theorem e_vvl {d : D} : Hd.v (.vl d) = .ok d := id rfl
@[simp] theorem e_vow {i : Nat} : Hd.v (.ow i) = .stk := id rfl
@[simp] theorem e_op {f : D → D → R D} {a b : EM} : cOp f a b ρ = (a ρ >>= fun p => b p.2 >>= fun q => (p.1.d q.2).nox >>= fun x => (q.1.d q.2).nox >>= fun y => (f x y).nox >>= fun z => R.ok (.fr z, q.2)) := id rfl
@[simp] theorem e_tru {m : EM} : cTru m ρ = (m ρ >>= fun p => (p.1.d p.2).nox >>= fun d => (truD d).nox >>= fun b => R.ok (b, p.2)) := id rfl
@[simp] theorem e_bl {m : EM} : cBl m ρ = (m ρ >>= fun p => p.1.v.nox >>= fun d => match d with | .bl b => R.ok (b, p.2) | _ => .stk) := id rfl
@[simp] theorem e_notT {m : BM} : cNotT m ρ = (m ρ >>= fun p => R.ok (!p.1, p.2)) := id rfl
@[simp] theorem e_andT {a b : BM} : cAndT a b ρ = (a ρ >>= fun p => if p.1 = true then b p.2 else R.ok (false, p.2)) := id rfl
@[simp] theorem e_orT {a b : BM} : cOrT a b ρ = (a ρ >>= fun p => if p.1 = true then R.ok (true, p.2) else b p.2) := id rfl
@[simp] theorem e_nil : cNil ρ = .ok ([], ρ) := id rfl
@[simp] theorem e_cons {a : EM} {as : AM} : cCons a as ρ = (a ρ >>= fun p => as p.2 >>= fun q => R.ok (p.1 :: q.1, q.2)) := id rfl
@[simp] theorem e_vs0 : vsOf [] = .ok [] := id rfl
@[simp] theorem e_vs1 {h : Hd} {hs : List Hd} : vsOf (h :: hs) = (h.v.nox >>= fun d => vsOf hs >>= fun ds => R.ok (d :: ds)) := id rfl
@[simp] theorem e_ds0 : dsOf [] ρ = .ok [] := id rfl
@[simp] theorem e_ds1 {h : Hd} {hs : List Hd} : dsOf (h :: hs) ρ = ((h.d ρ).nox >>= fun d => dsOf hs ρ >>= fun ds => R.ok (d :: ds)) := id rfl
@[simp] theorem e_and {a b : EM} : cAnd a b ρ = (a ρ >>= fun p => (p.1.d p.2).nox >>= fun d => (truD d).nox >>= fun k => if k = true then b p.2 else R.ok (p.1, p.2)) := id rfl
@[simp] theorem e_not {m : EM} : cNot m ρ = (m ρ >>= fun p => (p.1.d p.2).nox >>= fun d => (truD d).nox >>= fun k => R.ok (.fr (.bl (!k)), p.2)) := id rfl
@[simp] theorem e_chain {f g : D → D → R D} {a b c : EM} : cChain f g a b c ρ = (a ρ >>= fun p => b p.2 >>= fun q => (p.1.d q.2).nox >>= fun x => (q.1.d q.2).nox >>= fun y => (f x y).nox >>= fun z => match z with | .bl k => if k = true then (c q.2 >>= fun r => (q.1.d r.2).nox >>= fun y => (r.1.d r.2).nox >>= fun w => (g y w).nox >>= fun z => R.ok (.fr z, r.2)) else .ok (.fr (.bl false), q.2) | _ => .stk) := id rfl
@[simp] theorem e_neg {m : EM} : cNeg m ρ = (m ρ >>= fun p => p.1.v.nox >>= fun d => match d with | .int i => R.ok (.fr (.int (-i)), p.2) | _ => .stk) := id rfl
@[simp] theorem e_tup {m : AM} : cTup m ρ = (m ρ >>= fun p => (vsOf p.1).nox >>= fun ds => if szOk ds.length = true then R.ok (.fr (.tup ds), p.2) else .stk) := id rfl
@[simp] theorem e_lst {m : AM} : cLst m ρ = (m ρ >>= fun p => (vsOf p.1).nox >>= fun ds => if szOk ds.length = true then R.ok (.fr (.lst ds), p.2) else .stk) := id rfl
@[simp] theorem e_call {f : List D → R D} {m : AM} : cCall f m ρ = (m ρ >>= fun p => (dsOf p.1 p.2).nox >>= fun ds => (f ds).nox >>= fun z => R.ok (.fr z, p.2)) := id rfl
@[simp] theorem e_ix {a b : EM} : cIx a b ρ = (a ρ >>= fun p => b p.2 >>= fun q => (p.1.d q.2).nox >>= fun x => (q.1.d q.2).nox >>= fun y => (ixD x y).nox >>= fun z => R.ok (.vl z, q.2)) := id rfl
@[simp] theorem e_nopart : cNoPart ρ = .ok (none, ρ) := id rfl
@[simp] theorem e_part {m : EM} : cPart m ρ = (m ρ >>= fun p => p.1.v.nox >>= fun d => match d with | .int i => R.ok (some i, p.2) | _ => .stk) := id rfl
@[simp] theorem e_slice {a : EM} {lo hi : OM} : cSlice a lo hi ρ = (a ρ >>= fun p => lo p.2 >>= fun q => hi q.2 >>= fun r => (p.1.d r.2).nox >>= fun d => (sliceD d q.1 r.1).nox >>= fun z => R.ok (.fr z, r.2)) := id rfl
@[simp] theorem e_iter {m : EM} : cIter m ρ = (m ρ >>= fun p => (p.1.d p.2).nox >>= fun d => (itD d).nox >>= fun ds => if szOk ds.length = true then R.ok ((ds, p.1.ws), p.2) else .stk) := id rfl
@[simp] theorem e_range {f : List D → R (List D)} {m : AM} : cRange f m ρ = (m ρ >>= fun p => (vsOf p.1).nox >>= fun ds => (f ds).nox >>= fun xs => if szOk xs.length = true then R.ok ((xs, []), p.2) else .stk) := id rfl
@[simp] theorem e_yes : cYes ρ = .ok (true, ρ) := id rfl
@[simp] theorem e_isi {f : D → Bool} {m : EM} : cIsi f m ρ = (m ρ >>= fun p => (p.1.d p.2).nox >>= fun d => if noDit d = true then R.ok (.fr (.bl (f d)), p.2) else .stk) := id rfl
@[simp] theorem e_callF {g : List D → R Hd} {m : AM} : cCallF g m ρ = (m ρ >>= fun p => (vsOf p.1).nox >>= fun ds => g ds >>= fun h => match h with | .ow _ => .stk | h => R.ok (h, p.2)) := id rfl
@[simp] theorem e_callIO {pr : List (Nat × Nat)} {g : Fn} {m : AM} : cCallIO pr g m ρ = (m ρ >>= fun p => if placed pr 0 p.1 = true then ((dsOf p.1 p.2).nox >>= fun ds => g ds >>= fun r => match r.1 with | .ow _ => .stk | h => R.ok (h, putOuts r.2 pr p.2)) else .stk) := id rfl
@[simp] theorem e_tmN {i : Nat} {d : D} : tmName i d ρ = .ok (ρ.set i (some d)) := id rfl
@[simp] theorem e_tmT {is : List Nat} {ds : List D} : tmTup is (.tup ds) ρ = if ds.length = is.length then .ok (setAll ρ is ds) else .stk := id rfl
@[simp] theorem e_sa0 {ds : List D} : setAll ρ [] ds = ρ := by unfold setAll; rfl
@[simp] theorem e_sa1 {i : Nat} {is : List Nat} {d : D} {ds : List D} : setAll ρ (i :: is) (d :: ds) = setAll (ρ.set i (some d)) is ds := id rfl
@[simp] theorem e_comp {im : IM} {tm : GM} {t : BM} {e : EM} {vs : List Nat} : cComp im tm t e vs ρ = (im ρ >>= fun p => (cCompL tm t e vs p.1.2 p.1.1 (wipeE p.2 vs)).nox >>= fun q => R.ok (.fr (.lst q.1), q.2)) := id rfl
@[simp] theorem e_skip : sSkip ρ = .ok (.nx, ρ) := id rfl
@[simp] theorem e_seq {m n : SM} : sSeq m n ρ = (m ρ >>= fun p => match p.1 with | .nx => n p.2 | f => R.ok (f, p.2)) := by
  unfold sSeq; congr
@[simp] theorem e_ret {m : EM} : sRet m ρ = (m ρ >>= fun p => R.ok (.rt p.1, p.2)) := id rfl
@[simp] theorem e_sif {t : BM} {m n : SM} : sIf t m n ρ = (t ρ >>= fun p => if p.1 = true then m p.2 else n p.2) := id rfl
@[simp] theorem e_asg {m : EM} {tm : GM} : sAsg m tm ρ = (m ρ >>= fun p => p.1.v.nox >>= fun d => (tm d p.2).nox >>= fun r => R.ok (.nx, r)) := id rfl
@[simp] theorem e_sown {O W : List Nat} {m : EM} {i : Nat} : sOwn O W m i ρ = (m ρ >>= fun p => match p.1 with | .fr d => ((chkO O W ρ p.2).nox >>= fun _ => if d.ownable = true then R.ok (.nx, p.2.set i (some d)) else .stk) | _ => .stk) := by
  unfold sOwn; congr
@[simp] theorem e_app {i : Nat} {m : EM} : sAppend i m ρ = ((lstAt i ρ).nox >>= fun _ => m ρ >>= fun p => p.1.v.nox >>= fun d => (lstAt i p.2).nox >>= fun ds => if szOk (ds.length + 1) = true then R.ok (.nx, p.2.set i (some (.lst (ds ++ [d])))) else .stk) := id rfl
@[simp] theorem e_lat {i : Nat} : lstAt i ρ = (match ρ[i]? with | some (some (.lst ds)) => .ok ds | _ => .stk) := id rfl
@[simp] theorem e_six {i : Nat} {mk mv : EM} : sSetIx i mk mv ρ = (mv ρ >>= fun p => p.1.v.nox >>= fun d => (lstAt i p.2).nox >>= fun _ => mk p.2 >>= fun q => q.1.v.nox >>= fun k => match k with | .int z => ((lstAt i q.2).nox >>= fun ds => match ixN ds.length z with | some j => R.ok (.nx, q.2.set i (some (.lst (ds.set j d)))) | none => .stk) | _ => .stk) := by
  unfold sSetIx; congr
@[simp] theorem e_expr {m : EM} : sExpr m ρ = (m ρ >>= fun p => R.ok (.nx, p.2)) := id rfl
@[simp] theorem e_for {U : List Nat} {im : IM} {tm : GM} {body : SM} {vs : List Nat} : sFor U im tm body vs ρ = (im ρ >>= fun p => if (p.1.2.all fun w => U.contains w) = true then forL tm body vs p.1.2 p.1.1 p.2 else .stk) := id rfl
@[simp] theorem e_w0 : wipeE ρ [] = ρ := id rfl
@[simp] theorem e_w1 {i : Nat} {is : List Nat} : wipeE ρ (i :: is) = (wipeE ρ is).set i none := id rfl
@[simp] theorem e_po0 {os : Env} : putOuts os [] ρ = ρ := id rfl
@[simp] theorem e_po1 {os : Env} {j i : Nat} {pr : List (Nat × Nat)} : putOuts os ((j, i) :: pr) ρ = (putOuts os pr ρ).set i (os.getD j none) := id rfl
@[simp] theorem e_pl0 {pr : List (Nat × Nat)} {j : Nat} : placed pr j [] = true := id rfl
@[simp] theorem e_pl1 {pr : List (Nat × Nat)} {j i : Nat} {hs : List Hd} : placed pr j (.ow i :: hs) = (pr.contains (j, i) && placed pr (j + 1) hs) := id rfl
@[simp] theorem e_pl2 {pr : List (Nat × Nat)} {j : Nat} {d : D} {hs : List Hd} : placed pr j (.vl d :: hs) = ((!pr.any fun p => p.1 == j) && placed pr (j + 1) hs) := id rfl
@[simp] theorem e_pl3 {pr : List (Nat × Nat)} {j : Nat} {d : D} {hs : List Hd} : placed pr j (.fr d :: hs) = ((!pr.any fun p => p.1 == j) && placed pr (j + 1) hs) := id rfl
@[simp] theorem e_rt0 {np : Nat} : retH np .nx ρ = .ok (.fr .non) := id rfl
@[simp] theorem e_rt1 {np : Nat} {d : D} : retH np (.rt (.fr d)) ρ = .ok (.fr d) := id rfl
@[simp] theorem e_rt2 {np : Nat} {d : D} : retH np (.rt (.vl d)) ρ = .ok (.vl d) := id rfl
@[simp] theorem e_rt3 {np i : Nat} : retH np (.rt (.ow i)) ρ = if np ≤ i then ((look i ρ).nox >>= fun d => R.ok (.fr d)) else .stk := id rfl
theorem e_fnP {np n : Nat} {m : SM} {ds : List D} : fnP np n m ds = (m (ds.map some ++ List.replicate (n - np) none) >>= fun p => (retH np p.1 p.2).nox) := rfl
theorem e_fnD {np n : Nat} {O : List Nat} {m : SM} {ds : List D} : fnD np n O m ds = (m (ds.map some ++ List.replicate (n - np) none) >>= fun p => (retH np p.1 p.2).nox >>= fun h => R.ok (h, outs O np p.2)) := rfl
@[simp] theorem e_outs1 {O : List Nat} : outs O 1 ρ = [if O.contains 0 = true then ρ.getD 0 none else none] := id rfl
@[simp] theorem e_outs2 {O : List Nat} : outs O 2 ρ = [if O.contains 0 = true then ρ.getD 0 none else none, if O.contains 1 = true then ρ.getD 1 none else none] := id rfl
@[simp] theorem e_outs3 {O : List Nat} : outs O 3 ρ = [if O.contains 0 = true then ρ.getD 0 none else none, if O.contains 1 = true then ρ.getD 1 none else none, if O.contains 2 = true then ρ.getD 2 none else none] := id rfl
@[simp] theorem e_outs4 {O : List Nat} : outs O 4 ρ = [if O.contains 0 = true then ρ.getD 0 none else none, if O.contains 1 = true then ρ.getD 1 none else none, if O.contains 2 = true then ρ.getD 2 none else none, if O.contains 3 = true then ρ.getD 3 none else none] := id rfl
@[simp] theorem e_outs5 {O : List Nat} : outs O 5 ρ = [if O.contains 0 = true then ρ.getD 0 none else none, if O.contains 1 = true then ρ.getD 1 none else none, if O.contains 2 = true then ρ.getD 2 none else none, if O.contains 3 = true then ρ.getD 3 none else none, if O.contains 4 = true then ρ.getD 4 none else none] := id rfl
end Y

set_option Elab.async false
set_option linter.all false
set_option maxRecDepth 100000
namespace Y
open PySem PySem.Spec PyProof.Rows L2
@[simp] theorem d_add {i j : Int} : addD (.int i) (.int j) = .ok (.int (i + j)) := id rfl
@[simp] theorem d_addT {x y : List D} : addD (.tup x) (.tup y) = if szOk (x.length + y.length) = true then .ok (.tup (x ++ y)) else .stk := id rfl
@[simp] theorem d_addL {x y : List D} : addD (.lst x) (.lst y) = if szOk (x.length + y.length) = true then .ok (.lst (x ++ y)) else .stk := id rfl
@[simp] theorem d_addS {x y : Str} : addD (.str x) (.str y) = if szOk (x.length + y.length) = true then .ok (.str (x ++ y)) else .stk := id rfl
@[simp] theorem d_sub {i j : Int} : subD (.int i) (.int j) = .ok (.int (i - j)) := id rfl
@[simp] theorem d_mul {i j : Int} : mulD (.int i) (.int j) = if mulOk i j = true then .ok (.int (i * j)) else .stk := id rfl
@[simp] theorem d_fdiv {i j : Int} : fdivD (.int i) (.int j) = if smallPos j = true then .ok (.int (i / j)) else .stk := id rfl
@[simp] theorem d_mod {i j : Int} : modD (.int i) (.int j) = if 0 < j then .ok (.int (i % j)) else .stk := id rfl
@[simp] theorem d_lt {i j : Int} : ltD (.int i) (.int j) = .ok (.bl (decide (i < j))) := id rfl
@[simp] theorem d_le {i j : Int} : leD (.int i) (.int j) = .ok (.bl (decide (i ≤ j))) := id rfl
@[simp] theorem d_gt {i j : Int} : gtD (.int i) (.int j) = .ok (.bl (decide (j < i))) := id rfl
@[simp] theorem d_ge {i j : Int} : geD (.int i) (.int j) = .ok (.bl (decide (j ≤ i))) := id rfl
@[simp] theorem d_isN {x : D} : isD x .non = .ok (.bl (isNon x)) := by cases x <;> rfl
@[simp] theorem d_isB {a b : Bool} : isD (.bl a) (.bl b) = .ok (.bl (decide (a = b))) := id rfl
@[simp] theorem d_isnN {x : D} : isNotD x .non = .ok (.bl (!isNon x)) := by cases x <;> rfl
@[simp] theorem d_isnB {a b : Bool} : isNotD (.bl a) (.bl b) = .ok (.bl (!decide (a = b))) := id rfl
@[simp] theorem d_lenT {x : List D} : lenD [.tup x] = .ok (.int x.length) := id rfl
@[simp] theorem d_lenL {x : List D} : lenD [.lst x] = .ok (.int x.length) := id rfl
@[simp] theorem d_lenA {x : List Int} : lenD [.arg x] = .ok (.int x.length) := id rfl
@[simp] theorem d_lenS {x : Str} : lenD [.str x] = if szOk x.length = true then .ok (.int x.length) else .stk := id rfl
@[simp] theorem d_max {i j : Int} : max2D [.int i, .int j] = .ok (.int (max i j)) := id rfl
@[simp] theorem d_min {i j : Int} : min2D [.int i, .int j] = .ok (.int (min i j)) := id rfl
@[simp] theorem d_tupL {x : List D} : tupleD [.lst x] = .ok (.tup x) := id rfl
@[simp] theorem d_tupT {x : List D} : tupleD [.tup x] = .ok (.tup x) := id rfl
@[simp] theorem d_lstL {x : List D} : listD [.lst x] = .ok (.lst x) := id rfl
@[simp] theorem d_lstT {x : List D} : listD [.tup x] = .ok (.lst x) := id rfl
@[simp] theorem d_intI {i : Int} : intOfD [.int i] = .ok (.int i) := id rfl
@[simp] theorem d_intB {k : Bool} : intOfD [.bl k] = .ok (.int (if k then 1 else 0)) := id rfl
@[simp] theorem d_ixT {x : List D} {i : Int} : ixD (.tup x) (.int i) = match atI x i with | some d => .ok d | none => .stk := id rfl
@[simp] theorem d_ixL {x : List D} {i : Int} : ixD (.lst x) (.int i) = match atI x i with | some d => .ok d | none => .stk := id rfl
@[simp] theorem d_ixA {x : List Int} {i : Int} : ixD (.arg x) (.int i) = match atI x i with | some n => .ok (.int n) | none => .stk := id rfl
@[simp] theorem d_slT {x : List D} {a b : Option Int} : sliceD (.tup x) a b = .ok (.tup (cutD x a b)) := id rfl
@[simp] theorem d_slL {x : List D} {a b : Option Int} : sliceD (.lst x) a b = .ok (.lst (cutD x a b)) := id rfl
@[simp] theorem d_itL {x : List D} : itD (.lst x) = .ok x := id rfl
@[simp] theorem d_itT {x : List D} : itD (.tup x) = .ok x := id rfl
@[simp] theorem d_itA {x : List Int} : itD (.arg x) = .ok (x.map D.int) := id rfl
@[simp] theorem d_rng1 {j : Int} : rng1D [.int j] = if rngOk j = true then .ok ((List.range j.toNat).map fun i => D.int (i : Nat)) else .stk := by
  show (if rngOk j = true then R.ok ((List.range j.toNat).map fun i => D.int (0 + (i : Nat))) else .stk) = _
  simp
@[simp] theorem d_rng2 {i j : Int} : rng2D [.int i, .int j] = if (rngOk i && rngOk j) = true then .ok ((List.range (j - i).toNat).map fun k => D.int (i + (k : Nat))) else .stk := id rfl
@[simp] theorem d_truB {b : Bool} : truD (.bl b) = .ok b := id rfl
@[simp] theorem d_truN : truD .non = .ok false := id rfl
@[simp] theorem d_truI {i : Int} : truD (.int i) = .ok (i != 0) := id rfl
@[simp] theorem d_truL {x : List D} : truD (.lst x) = .ok (!x.isEmpty) := id rfl
@[simp] theorem d_truT {x : List D} : truD (.tup x) = .ok (!x.isEmpty) := id rfl
theorem ints_map : ∀ xs : List Int, intsOf (xs.map .int) = some xs
  | [] => rfl
  | x :: xs => by simp [intsOf, ints_map xs]
theorem bls_map : ∀ xs : List Bool, blsOf (xs.map .bl) = some xs
  | [] => rfl
  | x :: xs => by simp [blsOf, bls_map xs]
@[simp] theorem d_all {xs : List Bool} : allD [.lst (xs.map .bl)] = .ok (.bl (xs.all id)) := by
  show (match blsOf (xs.map .bl) with | some ns => R.ok (D.bl (ns.all id)) | none => .stk) = _
  rw [bls_map]
@[simp] theorem d_any {xs : List Bool} : anyD [.lst (xs.map .bl)] = .ok (.bl (xs.any id)) := by
  show (match blsOf (xs.map .bl) with | some ns => R.ok (D.bl (ns.any id)) | none => .stk) = _
  rw [bls_map]
@[simp] theorem d_isNon {x : D} : isNon .non = true := id rfl
theorem szOk_of {n : Nat} (h : n ≤ 16777216) : szOk n = true := decide_eq_true (show n ≤ sizeLine from by unfold sizeLine; omega)
theorem smallPos_of {j : Int} (h : 0 < j) (h2 : j < 1073741824) : smallPos j = true := decide_eq_true ⟨h, h2⟩
theorem rngOk_of {j : Int} (h : -4611686018427387904 ≤ j) (h2 : j < 4611686018427387904) : rngOk j = true := decide_eq_true ⟨by omega, by omega⟩
theorem mulOk_l {i j : Int} (h : i.natAbs < 2 ^ 64) : mulOk i j = true := by
  unfold mulOk
  rw [decide_eq_true h]
  rfl
theorem mulOk_r {i j : Int} (h : j.natAbs < 2 ^ 64) : mulOk i j = true := by
  unfold mulOk
  rw [decide_eq_true h]
  simp
@[simp] theorem sz0 : szOk 0 = true := by decide
@[simp] theorem sz1 : szOk 1 = true := by decide
@[simp] theorem sz2 : szOk 2 = true := by decide
@[simp] theorem sz3 : szOk 3 = true := by decide
theorem atI_of {α : Type} {xs : List α} {i : Int} {j : Nat} {x : α} (hi : i = j) (h : xs[j]? = some x) : atI xs i = some x := by
  have hj : j < xs.length := (List.getElem?_eq_some_iff.mp h).1
  unfold atI ixN
  subst hi
  rw [if_pos (by omega), if_pos (by omega)]
  show xs[(j : Int).toNat]? = some x
  rw [Int.toNat_natCast, h]
theorem atI_lt {α : Type} {xs : List α} {i : Int} (h0 : 0 ≤ i) (h : i < xs.length) : atI xs i = some (xs[i.toNat]'(by omega)) :=
  atI_of (j := i.toNat) (by omega) (List.getElem?_eq_getElem (by omega))
def eqPs : List D → List D → Bool
  | [], [] => true
  | x :: xs, y :: ys => eqP x y && eqPs xs ys
  | _, _ => false
theorem eqPs_py : ∀ xs ys : List D, PyData.eqvAll (toPys xs) (toPys ys) = eqPs xs ys
  | [], [] => by simp [toPys, PyData.eqvAll, eqPs]
  | [], _ :: _ => by simp [toPys, PyData.eqvAll, eqPs]
  | _ :: _, [] => by simp [toPys, PyData.eqvAll, eqPs]
  | x :: xs, y :: ys => by simp [toPys, PyData.eqvAll, eqPs, eqP, eqPs_py xs ys]
@[simp] theorem eqP_int {i j : Int} : eqP (.int i) (.int j) = (i == j) := by simp [eqP, toPy, PyData.eqv]
@[simp] theorem eqP_bl {i j : Bool} : eqP (.bl i) (.bl j) = (i == j) := by simp [eqP, toPy, PyData.eqv]
@[simp] theorem eqP_str {i j : Str} : eqP (.str i) (.str j) = (i == j) := by simp [eqP, toPy, PyData.eqv]
@[simp] theorem eqP_tup {xs ys : List D} : eqP (.tup xs) (.tup ys) = eqPs xs ys := by simp [eqP, toPy, PyData.eqv, eqPs_py]
@[simp] theorem eqP_lst {xs ys : List D} : eqP (.lst xs) (.lst ys) = eqPs xs ys := by simp [eqP, toPy, PyData.eqv, eqPs_py]
@[simp] theorem eqPs_ints : ∀ {xs ys : List Int}, eqPs (xs.map .int) (ys.map .int) = decide (xs = ys)
  | [], [] => by simp [eqPs]
  | [], _ :: _ => by simp [eqPs]
  | _ :: _, [] => by simp [eqPs]
  | x :: xs, y :: ys => by
    have ih := eqPs_ints (xs := xs) (ys := ys)
    simp only [List.map_cons, eqPs, eqP_int, ih, List.cons.injEq]
    by_cases h : x = y <;> simp [h]
/-- a depth that the machine bears; no dict; texts that it bears -/
def Fit : Nat → D → Prop
  | _, .non => True
  | _, .bl _ => True
  | _, .int _ => True
  | _, .str x => PyData.strOk x = true
  | n + 1, .tup ds => ∀ d ∈ ds, Fit n d
  | n + 1, .lst ds => ∀ d ∈ ds, Fit n d
  | _, _ => False
theorem fits_py {n : Nat} : ∀ {ds : List D}, (∀ d ∈ ds, (toPy d).canLay0 = true ∧ (toPy d).depth ≤ n) → PyData.canLayAll0 (toPys ds) = true ∧ PyData.depthAll (toPys ds) ≤ n
  | [], _ => by simp [toPys, PyData.canLayAll0, PyData.depthAll]
  | d :: ds, h => by
    have h1 := h d (by simp)
    have h2 := fits_py (ds := ds) fun e he => h e (by simp [he])
    simp only [toPys, PyData.canLayAll0, PyData.depthAll, h1.1, h2.1, Bool.and_self, true_and]
    omega
theorem fit_py : ∀ {n : Nat} {d : D}, Fit n d → (toPy d).canLay0 = true ∧ (toPy d).depth ≤ n
  | n, .non, _ => by simp [toPy, PyData.canLay0, PyData.depth]
  | n, .bl _, _ => by simp [toPy, PyData.canLay0, PyData.depth]
  | n, .int _, _ => by simp [toPy, PyData.canLay0, PyData.depth]
  | n, .str x, h => by
    have h : PyData.strOk x = true := by cases n <;> exact h
    simp [toPy, PyData.canLay0, PyData.depth, h]
  | 0, .tup ds, h => h.elim
  | 0, .lst ds, h => h.elim
  | n + 1, .tup ds, h => by
    have h : ∀ d ∈ ds, Fit n d := h
    have := fits_py fun d hd => fit_py (h d hd)
    simp only [toPy, PyData.canLay0, PyData.depth, this.1, true_and]
    omega
  | n + 1, .lst ds, h => by
    have h : ∀ d ∈ ds, Fit n d := h
    have := fits_py fun d hd => fit_py (h d hd)
    simp only [toPy, PyData.canLay0, PyData.depth, this.1, true_and]
    omega
  | n, .arg _, h => by cases n <;> exact h.elim
  | n, .dik _ _, h => by cases n <;> exact h.elim
  | n, .dit _ _, h => by cases n <;> exact h.elim
theorem dOk_fit {n : Nat} {d : D} (h : Fit n d) (hn : n ≤ 64 := by decide) : dOk d = true := by
  have := fit_py h
  unfold dOk SeqAt.shaped
  rw [this.1, decide_eq_true (by omega)]
  rfl
theorem fit_ints {n : Nat} {xs : List Int} : ∀ d ∈ xs.map D.int, Fit n d := fun d h => by
  obtain ⟨x, _, rfl⟩ := List.mem_map.mp h
  cases n <;> trivial
theorem fit_int {n : Nat} {i : Int} : Fit n (.int i) := by cases n <;> trivial
theorem fit_bl {n : Nat} {i : Bool} : Fit n (.bl i) := by cases n <;> trivial
theorem fit_tupI {n : Nat} {xs : List Int} : Fit (n + 1) (.tup (xs.map D.int)) := fit_ints
theorem fit_lstI {n : Nat} {xs : List Int} : Fit (n + 1) (.lst (xs.map D.int)) := fit_ints
theorem eqD_of {n : Nat} {x y : D} (hx : Fit n x) (hy : Fit n y) (hn : n ≤ 64 := by decide) : eqD x y = .ok (.bl (eqP x y)) := by
  unfold eqD
  rw [dOk_fit hx hn, dOk_fit hy hn]
  rfl
theorem neD_of {n : Nat} {x y : D} (hx : Fit n x) (hy : Fit n y) (hn : n ≤ 64 := by decide) : neD x y = .ok (.bl (!eqP x y)) := by
  unfold neD
  rw [dOk_fit hx hn, dOk_fit hy hn]
  rfl
@[simp] theorem eqD_int {i j : Int} : eqD (.int i) (.int j) = .ok (.bl (decide (i = j))) := by
  rw [eqD_of (n := 0) (by unfold Fit; trivial) (by unfold Fit; trivial), eqP_int]
  by_cases h : i = j <;> simp [h]
@[simp] theorem neD_int {i j : Int} : neD (.int i) (.int j) = .ok (.bl (!decide (i = j))) := by
  rw [neD_of (n := 0) (by unfold Fit; trivial) (by unfold Fit; trivial), eqP_int]
  by_cases h : i = j <;> simp [h]
theorem eqPs_refl : ∀ {ds : List D}, (∀ d ∈ ds, eqP d d = true) → eqPs ds ds = true
  | [], _ => rfl
  | d :: ds, h => by simp [eqPs, h d (by simp), eqPs_refl (ds := ds) fun e he => h e (by simp [he])]
theorem eqP_refl : ∀ {n : Nat} {d : D}, Fit n d → eqP d d = true
  | n, .non, _ => by simp [eqP, toPy, PyData.eqv]
  | n, .bl _, _ => by simp
  | n, .int _, _ => by simp
  | n, .str x, h => by simp
  | 0, .tup ds, h => h.elim
  | 0, .lst ds, h => h.elim
  | n + 1, .tup ds, h => by
    have h : ∀ d ∈ ds, Fit n d := h
    rw [eqP_tup]
    exact eqPs_refl fun d hd => eqP_refl (h d hd)
  | n + 1, .lst ds, h => by
    have h : ∀ d ∈ ds, Fit n d := h
    rw [eqP_lst]
    exact eqPs_refl fun d hd => eqP_refl (h d hd)
  | n, .arg _, h => by cases n <;> exact h.elim
  | n, .dik _ _, h => by cases n <;> exact h.elim
  | n, .dit _ _, h => by cases n <;> exact h.elim
theorem eqD_refl {n : Nat} {x : D} (hx : Fit n x) (hn : n ≤ 64 := by decide) : eqD x x = .ok (.bl true) := by rw [eqD_of hx hx hn, eqP_refl hx]
theorem neD_refl {n : Nat} {x : D} (hx : Fit n x) (hn : n ≤ 64 := by decide) : neD x x = .ok (.bl false) := by rw [neD_of hx hx hn, eqP_refl hx]; rfl
def ChkL (O W : List Nat) : Nat → Env → Env → Prop
  | _, _, [] => True
  | j, x :: xs, y :: ys => (y = none ∨ (y = x ∧ j ∉ W) ∨ (∃ d, y = some d ∧ ((j ∈ O ∧ d.shallow = true) ∨ d.nl = true))) ∧ ChkL O W (j + 1) xs ys
  | _, [], _ :: _ => False
theorem ChkL.at {O W : List Nat} : ∀ {ρ ρ' : Env} {k j : Nat} {d : D}, ChkL O W k ρ ρ' → ρ'[j]? = some (some d) → (ρ[j]? = some (some d) ∧ k + j ∉ W) ∨ (k + j ∈ O ∧ d.shallow = true) ∨ d.nl = true
  | _, [], _, _, _, _, e => by simp at e
  | [], _ :: _, _, _, _, h, _ => h.elim
  | x :: xs, y :: ys, k, 0, d, h, e => by
    simp at e
    subst e
    rcases h.1 with h | ⟨h, w⟩ | ⟨d', h, w⟩
    · cases h
    · exact .inl ⟨by simp [h], w⟩
    · cases h; exact .inr w
  | x :: xs, y :: ys, k, j + 1, d, h, e => by
    have := ChkL.at (j := j) h.2 (by simpa using e)
    rw [show k + (j + 1) = k + 1 + j by omega]
    simpa using this
@[simp] theorem e_wsf {d : D} : Hd.ws (.fr d) = [] := id rfl
@[simp] theorem e_wsv {d : D} : Hd.ws (.vl d) = [] := id rfl
@[simp] theorem e_wso {i : Nat} : Hd.ws (.ow i) = [i] := id rfl
def shAt (i : Nat) (ρ : Y.Env) : Bool := match ρ[i]? with | some (some d) => d.shallow | _ => true
@[simp] theorem chkO_w1 {O : List Nat} {i : Nat} {ρ : Y.Env} (hi : i ∈ O) (h : shAt i ρ = true) : chkO O [i] ρ ρ = .ok () := by
  unfold chkO
  rw [if_pos]
  intro j d e
  by_cases c : j = i
  · subst c
    unfold shAt at h
    rw [e] at h
    exact .inr (.inl ⟨hi, h⟩)
  · exact .inl ⟨e, by simpa using c⟩
@[simp] theorem shL {ds : List D} : D.shallow (.lst ds) = nls ds := id rfl
@[simp] theorem nls0 : nls [] = true := by simp [nls]
@[simp] theorem nls1 {d : D} {ds : List D} : nls (d :: ds) = (d.nl && nls ds) := by simp [nls]
@[simp] theorem nlI {i : Int} : D.nl (.int i) = true := by simp [D.nl]
@[simp] theorem nlB {i : Bool} : D.nl (.bl i) = true := by simp [D.nl]
@[simp] theorem nlS {i : Str} : D.nl (.str i) = true := by simp [D.nl]
@[simp] theorem nlN : D.nl .non = true := by simp [D.nl]
@[simp] theorem nlT {ds : List D} : D.nl (.tup ds) = nls ds := by simp [D.nl]
@[simp] theorem owL {ds : List D} : D.ownable (.lst ds) = true := id rfl
theorem nls_all : ∀ {ds : List D}, (∀ d ∈ ds, d.nl = true) → nls ds = true
  | [], _ => by simp
  | d :: ds, h => by simp [h d (by simp), nls_all fun e he => h e (List.mem_cons_of_mem _ he)]
@[simp] theorem nls_ints {xs : List Int} : nls (xs.map D.int) = true := nls_all fun d h => by
  obtain ⟨x, _, rfl⟩ := List.mem_map.mp h
  simp
/-- one turn of a comprehension; of a for -/
def turnC (tm : GM) (t : BM) (e : EM) (vs : List Nat) (x : D) (ρ : Env) : R (Option D × Env) :=
  tm x ρ >>= fun ρ1 => t ρ1 >>= fun p => if p.1 = true then (e p.2 >>= fun q => q.1.v >>= fun d => R.ok (some d, wipeE q.2 vs)) else R.ok (none, wipeE p.2 vs)
def turnF (tm : GM) (body : SM) (vs : List Nat) (x : D) (ρ : Env) : R (Fl × Env) :=
  (tm x ρ).nox >>= fun ρ1 => body ρ1 >>= fun p => match p.1 with | .nx => R.ok (.nx, wipeE p.2 vs) | .ct => R.ok (.nx, wipeE p.2 vs) | f => R.ok (f, p.2)
theorem comp_cons {tm : GM} {t : BM} {e : EM} {vs ws : List Nat} {x : D} {xs ys : List D} {ρ ρ' ρf : Env} {o : Option D} (h : turnC tm t e vs x ρ = .ok (o, ρ')) (hw : ∀ w ∈ ws, ρ'[w]? = ρ[w]?) (h2 : cCompL tm t e vs ws xs ρ' = .ok (ys, ρf)) : cCompL tm t e vs ws (x :: xs) ρ = .ok (o.toList ++ ys, ρf) := by
  have ck : chk ws ρ ρ' = .ok () := by unfold chk; rw [if_pos hw]
  unfold turnC at h
  obtain ⟨ρ1, e1, h⟩ := R.ok_of h
  obtain ⟨⟨k, ρ2⟩, e3, h⟩ := R.ok_of h
  unfold cCompL
  rw [e1]
  simp only [R.bind_ok]
  rw [e3]
  cases k with
  | false =>
    have h : R.ok (none, wipeE ρ2 vs) = R.ok (o, ρ') := h
    cases h
    simp only [R.bind_ok, Bool.false_eq_true, if_false]
    rw [ck]
    exact h2
  | true =>
    have h : (e ρ2 >>= fun q => q.1.v >>= fun d => R.ok (some d, wipeE q.2 vs)) = R.ok (o, ρ') := h
    obtain ⟨⟨hd, ρ3⟩, e4, h⟩ := R.ok_of h
    obtain ⟨d, e5, h⟩ := R.ok_of h
    cases h
    simp only [R.bind_ok, if_true]
    rw [e4]
    simp only [R.bind_ok]
    rw [show hd.v = _ from e5]
    simp only [R.bind_ok]
    rw [ck]
    simp only [R.bind_ok]
    rw [h2]
    rfl
theorem for_cons {tm : GM} {body : SM} {vs ws : List Nat} {x : D} {xs : List D} {ρ ρ' : Env} {r : R (Fl × Env)} (h : turnF tm body vs x ρ = .ok (.nx, ρ')) (hw : ∀ w ∈ ws, ρ'[w]? = ρ[w]?) (h2 : forL tm body vs ws xs ρ' = r) : forL tm body vs ws (x :: xs) ρ = r := by
  have ck : chk ws ρ ρ' = .ok () := by unfold chk; rw [if_pos hw]
  unfold turnF at h
  obtain ⟨ρ1, e1, h⟩ := R.ok_of h
  obtain ⟨⟨f, ρ2⟩, e3, h⟩ := R.ok_of h
  unfold forL
  rw [e1]
  simp only [R.bind_ok]
  rw [e3]
  cases f with
  | nx =>
    have h : R.ok (Fl.nx, wipeE ρ2 vs) = R.ok (Fl.nx, ρ') := h
    cases h
    simp only [R.bind_ok]
    rw [ck]
    exact h2
  | ct =>
    have h : R.ok (Fl.nx, wipeE ρ2 vs) = R.ok (Fl.nx, ρ') := h
    cases h
    simp only [R.bind_ok]
    rw [ck]
    exact h2
  | bk => cases h
  | rt _ => cases h
/-- the loop ends in this turn -/
theorem for_rt {tm : GM} {body : SM} {vs ws : List Nat} {x : D} {xs : List D} {ρ ρ' : Env} {hd : Hd} (h : turnF tm body vs x ρ = .ok (.rt hd, ρ')) : forL tm body vs ws (x :: xs) ρ = .ok (.rt hd, ρ') := by
  unfold turnF at h
  obtain ⟨ρ1, e1, h⟩ := R.ok_of h
  obtain ⟨⟨f, ρ2⟩, e3, h⟩ := R.ok_of h
  unfold forL
  rw [e1]
  simp only [R.bind_ok]
  rw [e3]
  cases f with
  | nx => cases h
  | ct => cases h
  | bk => cases h
  | rt _ => cases h; rfl
section
variable {α : Type}
/-- the yields of a comprehension and the state behind it -/
def yields {S : Type} (next : S → α → S) (out : S → α → Option D) : List α → S → List D × S
  | [], s => ([], s)
  | x :: xs, s => ((out s x).toList ++ (yields next out xs (next s x)).1, (yields next out xs (next s x)).2)
/-- a comprehension that changes nothing: f is what it yields -/
theorem comp_map {tm : GM} {t : BM} {e : EM} {vs ws : List Nat} {ρ : Env} (F f : α → D) : ∀ (xs : List α),
    (∀ x ∈ xs, turnC tm t e vs (F x) ρ = .ok (some (f x), ρ)) → cCompL tm t e vs ws (xs.map F) ρ = .ok (xs.map f, ρ)
  | [], _ => rfl
  | x :: xs, h => comp_cons (h x (by simp)) (fun _ _ => rfl) (comp_map F f xs fun y hy => h y (by simp [hy]))
/-- .. with a test p, yields f -/
theorem comp_filter {tm : GM} {t : BM} {e : EM} {vs ws : List Nat} {ρ : Env} (F : α → D) (p : α → Bool) (f : α → D) : ∀ (xs : List α),
    (∀ x ∈ xs, turnC tm t e vs (F x) ρ = .ok (if p x = true then some (f x) else none, ρ)) → cCompL tm t e vs ws (xs.map F) ρ = .ok ((xs.filter p).map f, ρ)
  | [], _ => rfl
  | x :: xs, h => by
    have := comp_cons (ws := ws) (h x (by simp)) (fun _ _ => rfl) (comp_filter F p f xs fun y hy => h y (by simp [hy]))
    rw [List.map_cons, this]
    cases hp : p x with
    | false => rw [List.filter_cons_of_neg (by simp [hp])]; rfl
    | true => rw [List.filter_cons_of_pos hp]; rfl
/-- for: states -/
theorem for_run {S : Type} {tm : GM} {body : SM} {vs ws : List Nat} (F : α → D) (rho : S → Env) (next : S → α → S) (I : S → Prop) : ∀ (xs : List α) (s : S), I s →
    (∀ s x, I s → x ∈ xs → I (next s x) ∧ (∀ w ∈ ws, (rho (next s x))[w]? = (rho s)[w]?) ∧ turnF tm body vs (F x) (rho s) = .ok (.nx, rho (next s x))) →
    forL tm body vs ws (xs.map F) (rho s) = .ok (.nx, rho (xs.foldl next s)) ∧ I (xs.foldl next s)
  | [], s, hs, _ => ⟨rfl, hs⟩
  | x :: xs, s, hs, h => by
    obtain ⟨h1, hw, h2⟩ := h s x hs (by simp)
    have ih := for_run F rho next I xs (next s x) h1 fun s y hs hy => h s y hs (by simp [hy])
    exact ⟨for_cons h2 hw ih.1, ih.2⟩
/-- for: something that holds of what stands -/
theorem for_inv {tm : GM} {body : SM} {vs ws : List Nat} (F : α → D) (I : Env → Prop) : ∀ (xs : List α) (ρ : Env), I ρ →
    (∀ ρ x, I ρ → x ∈ xs → ∃ ρ', turnF tm body vs (F x) ρ = .ok (.nx, ρ') ∧ I ρ' ∧ (∀ w ∈ ws, ρ'[w]? = ρ[w]?)) →
    ∃ ρ', forL tm body vs ws (xs.map F) ρ = .ok (.nx, ρ') ∧ I ρ'
  | [], ρ, hs, _ => ⟨ρ, rfl, hs⟩
  | x :: xs, ρ, hs, h => by
    obtain ⟨ρ1, e1, e3, hw⟩ := h ρ x hs (by simp)
    obtain ⟨ρ', e4, h4⟩ := for_inv (body := body) (tm := tm) (ws := ws) F I xs ρ1 e3 fun s y hs hy => h s y hs (by simp [hy])
    exact ⟨ρ', for_cons e1 hw e4, h4⟩
/-- for: by the turn's number -/
theorem for_idx {tm : GM} {body : SM} {vs ws : List Nat} (F : α → D) : ∀ (xs : List α) (rho : Nat → Env),
    (∀ i (h : i < xs.length), (∀ w ∈ ws, (rho (i + 1))[w]? = (rho i)[w]?) ∧ turnF tm body vs (F xs[i]) (rho i) = .ok (.nx, rho (i + 1))) → forL tm body vs ws (xs.map F) (rho 0) = .ok (.nx, rho xs.length)
  | [], rho, _ => rfl
  | x :: xs, rho, h => by
    have h0 := h 0 (by simp)
    have ih := for_idx F xs (fun i => rho (i + 1)) fun i hi => h (i + 1) (by simp; omega)
    exact for_cons h0.2 h0.1 ih
theorem for_rng {tm : GM} {body : SM} {vs ws : List Nat} {n : Nat} (F : Nat → D) (rho : Nat → Env) (h : ∀ i, i < n → (∀ w ∈ ws, (rho (i + 1))[w]? = (rho i)[w]?) ∧ turnF tm body vs (F i) (rho i) = .ok (.nx, rho (i + 1))) : forL tm body vs ws ((List.range n).map F) (rho 0) = .ok (.nx, rho n) := by
  have := for_idx (tm := tm) (body := body) (vs := vs) (ws := ws) F (List.range n) rho fun i hi => by
    rw [List.getElem_range]
    exact h i (by simpa using hi)
  rwa [List.length_range] at this
/-- a comprehension whose turns change what stands: something of each yield -/
theorem comp_ex {S β : Type} {tm : GM} {t : BM} {e : EM} {vs ws : List Nat} (F : α → D) (G : β → D) (rho : S → Env) (P : β → Prop) : ∀ (xs : List α) (s : S),
    (∀ s x, x ∈ xs → ∃ y s', turnC tm t e vs (F x) (rho s) = .ok (some (G y), rho s') ∧ P y ∧ (∀ w ∈ ws, (rho s')[w]? = (rho s)[w]?)) →
    ∃ (ys : List β) (s' : S), cCompL tm t e vs ws (xs.map F) (rho s) = .ok (ys.map G, rho s') ∧ ys.length = xs.length ∧ ∀ y ∈ ys, P y
  | [], s, _ => ⟨[], s, rfl, rfl, by simp⟩
  | x :: xs, s, h => by
    obtain ⟨y, s1, e1, p1, w1⟩ := h s x (by simp)
    obtain ⟨ys, s2, e2, l2, p2⟩ := comp_ex F G rho P xs s1 fun s y hy => h s y (by simp [hy])
    exact ⟨y :: ys, s2, comp_cons e1 w1 e2, by simp [l2], by simpa using ⟨p1, p2⟩⟩
end
end Y

set_option Elab.async false
set_option linter.all false
set_option maxRecDepth 100000
namespace Y
open PySem PySem.Spec PyProof.Rows L2
def rgD (a b : Int) : List D := (List.range (b - a).toNat).map fun i => D.int (a + (i : Nat))
def rgB (a b : Int) : Bool := rngOk a && rngOk b && decide ((b - a).toNat ≤ 16777216)
def cRg1 (l : Bool) (m : EM) : EM := fun ρ => do
  let (h, ρ1) ← m ρ
  let d ← h.v.nox
  match d with
  | .int n => if rgB 0 n = true then pure (.fr (if l then .lst (rgD 0 n) else .tup (rgD 0 n)), ρ1) else .stk
  | _ => .stk
section
variable {K : PySem.W.Frag} {X : Cx} {P0 : Pr} {O W U : List Nat} {E : EK} {a b e : Expr} {es : List Expr} {ma mb : EM} {ms : AM} {pos : Pos}
theorem rgB_ok {a b : Int} (h : rgB a b = true) : RgOk a b := by
  unfold rgB rngOk at h
  simp only [Bool.and_eq_true, decide_eq_true_eq] at h
  obtain ⟨⟨h1, h2⟩, h3⟩ := h
  exact ⟨by omega, by omega, by omega, by omega, by have e : (2 : Nat) ^ 24 = 16777216 := by decide
                                                    omega⟩
theorem reps_rg {H : Hp} {P : Pr} {a b : Int} : Reps K H (rgD a b) P (rgV a b) := by
  unfold rgD rgV
  induction (List.range (b - a).toNat) with
  | nil => exact Reps.nil
  | cons x xs ih => exact Reps.cons (by unfold Rep; rfl) ih
theorem out_lst {P : Pr} {H : Hp} {ds : List D} {vs : List V} {Q : VK} (hm : ∀ b, P b → isMut (H b)) (o : Out K P H (.lst ds) Q) (r : ∀ H' P', Reps K H' ds P' vs) : ∀ q, H q = none → Q (.ref q) (upd H q (.lst vs)) := fun q hq => o _ _ (fun b u eb => by rw [upd_ne (ne_of_none eb hq)]; exact eb) (by
    unfold Rep
    exact ⟨q, vs, rfl, fun z => (hm q z).some hq, upd_same, r _ _⟩) fun _ a e => by cases e; exact hq
theorem out_tup {P : Pr} {H : Hp} {ds : List D} {vs : List V} {Q : VK} (o : Out K P H (.tup ds) Q) (r : ∀ H' P', Reps K H' ds P' vs) : ∀ q, H q = none → Q (.ref q) (upd H q (.tup vs)) := fun q hq => o _ _ (fun b u eb => by rw [upd_ne (ne_of_none eb hq)]; exact eb) (by
    unfold Rep
    exact ⟨q, vs, rfl, upd_same, r _ _⟩) fun m => by cases m
theorem tM_rg1 {l : Bool} (σ : St) (H : Hp) (Q : VK) (h : tM X.K P0 O W E (cRg1 l ma) σ H Q) : tRg1 (tM X.K P0 O W E ma) σ H fun a b H1 => RgOk a b ∧ ∀ q, H1 q = none → Q (.ref q) (upd H1 q (if l then .lst (rgV a b) else .tup (rgV a b))) := by
  obtain ⟨ρ, S, h⟩ := h
  refine ⟨ρ, S, h.of_bind.mono fun ⟨hd, ρ1⟩ q v H1 S1 k1 r1 => ?_⟩
  obtain ⟨d, e1, q⟩ := q.of_nox
  have rd := r1.v e1
  cases d <;> first | (exact q.elim) | skip
  rename_i n
  unfold Rep at rd
  subst rd
  refine ⟨n, rfl, ?_⟩
  by_cases c : rgB 0 n = true
  · have q : Res E W σ H (if rgB 0 n = true then R.ok (Hd.fr (if l then .lst (rgD 0 n) else .tup (rgD 0 n)), ρ1) else .stk) _ := q
    rw [if_pos c] at q
    refine ⟨rgB_ok c, ?_⟩
    have o := out_of S1 k1 q
    cases l with
    | true => exact out_lst S1.dom o fun _ _ => reps_rg
    | false => exact out_tup o fun _ _ => reps_rg
  · have q : Res E W σ H (if rgB 0 n = true then R.ok (Hd.fr (if l then .lst (rgD 0 n) else .tup (rgD 0 n)), ρ1) else .stk) _ := q
    rw [if_neg c] at q
    exact q.elim
theorem ce_lrg1 {p p2 pos : Pos} (hc : X.calm = true) (hm : X.mg "list" = none) (hm2 : X.mg "range" = none) (ha : CEx X P0 O W E a ma) (hg : Gl X "list" := by rfl) (hg2 : Gl X "range" := by rfl) (na : starEach [a] X.env = (false, eval a X.env) :: starEach [] X.env := by rfl)
    (na2 : starEach [.Call (.Name "range" p) [a] [] p2] X.env = (false, eval (.Call (.Name "range" p) [a] [] p2) X.env) :: starEach [] X.env := by rfl) {q : Pos} : CEx X P0 O W E (.Call (.Name "list" q) [.Call (.Name "range" p) [a] [] p2] [] pos) (cRg1 true ma) :=
  PE.imp (pe_listRg hc hg hm (prg_1 hg2 hm2 ha na) na2) fun σ H Q h => tM_rg1 σ H Q h
def sortI (ns : List Int) : List Int := ns.mergeSort (fun a b => decide (a ≤ b))
theorem sortI_perm (ns : List Int) : (sortI ns).Perm ns := List.mergeSort_perm _ _
theorem sortI_pw (ns : List Int) : (sortI ns).Pairwise (· ≤ ·) := by
  have := List.pairwise_mergeSort (le := fun a b : Int => decide (a ≤ b)) (fun a b c h1 h2 => by simp at *; omega) (fun a b => by simp; omega) ns
  exact this.imp fun h => by simpa using h
theorem sortI_of {ns ms : List Int} (p : ms.Perm ns) (h : ms.Pairwise (· ≤ ·)) : ms = sortI ns :=
  List.Perm.eq_of_pairwise (le := fun a b : Int => a ≤ b) (fun a b _ _ h1 h2 => by omega) h (sortI_pw ns) (p.trans (sortI_perm ns).symm)
def sortedD : List D → R D
  | [.lst ds] => match intsOf ds with | some ns => .ok (.lst ((sortI ns).map D.int)) | none => .stk
  | _ => .stk
theorem cd_sortedI : CallR X (.builtin "sorted") (rDs X.K sortedD) := by
  intro pins s σ H xs us Q I r ⟨P, ds, dz, hm, rs, e, out⟩
  unfold sortedD at e
  split at e
  · split at e
    · rename_i ns ei
      cases e
      obtain ⟨v, rfl, r1⟩ := rs.get1
      obtain ⟨a, vs, rfl, h1, h2⟩ := r1.lst
      rw [ints_rep ei h2] at h1
      exact cr_sortedI pins s σ H _ us Q I r ⟨a, ns, rfl, SqL.of h1, fun ns' p pp pw hp => by
        rw [sortI_of pp pw]
        exact out_lst hm out (fun _ _ => reps_ints _) p hp⟩
    · cases e
  · cases e
@[simp] theorem d_sortI {xs : List Int} : sortedD [.lst (xs.map D.int)] = .ok (.lst ((sortI xs).map D.int)) := by
  show (match intsOf (xs.map .int) with | some ns => R.ok (D.lst ((sortI ns).map D.int)) | none => .stk) = _
  rw [ints_map]
def popRes (i : Nat) (ds : List D) (z : Int) (ρ1 : Y.Env) : R (Hd × Y.Env) := if szOk ds.length = true then (match ixN ds.length z with
    | some k => (match ds[k]? with
      | some d => .ok (.vl d, ρ1.set i (some (.lst (ds.eraseIdx k))))
      | none => .stk)
    | none => .stk) else .stk
def cPopAt (i : Nat) (m : EM) : EM := fun ρ => do
  let _ ← (lstAt i ρ).nox
  let (h, ρ1) ← m ρ
  let d ← h.v.nox
  match d with
  | .int z => do
    let ds ← (lstAt i ρ1).nox
    popRes i ds z ρ1
  | _ => .stk
theorem Keep.ownW {i : Nat} {l : Addr} {o : HO} {σ : St} {H H1 : Hp} (k : Keep W σ H H1) (hi : i ∈ W) (ha : σ[i]? = Option.some (Option.some (V.ref l))) : Keep W σ H (upd H1 l o) where
  keep := fun b u e n => by
    rw [upd_ne fun (z : b = l) => n ⟨i, hi, by rw [z]; exact ha⟩]
    exact k.keep b u e n
  some := fun b e => by
    by_cases hb : b = l
    · rw [hb, upd_same]; intro z; cases z
    · rw [upd_ne hb]; exact k.some b e
theorem Reps.erase {H : Hp} {P : Pr} : ∀ {ds : List D} {vs : List V} (k : Nat), Reps K H ds P vs → Reps K H (ds.eraseIdx k) P (vs.eraseIdx k)
  | [], _, k, h => by rw [h.nil_iff]; simp; exact Reps.nil
  | d :: ds, _, 0, h => by
    obtain ⟨v, ws, rfl, h1, h2⟩ := h.cons_iff
    exact h2
  | d :: ds, _, k + 1, h => by
    obtain ⟨v, ws, rfl, h1, h2⟩ := h.cons_iff
    exact Reps.cons h1 (Reps.erase k h2)
theorem tM_popAt {i : Nat} (hi : i ∈ O) (hw : i ∈ W) (σ : St) (H : Hp) (Q : VK) (h : tM K P0 O W E (cPopAt i ma) σ H Q) : tBM K "list" rPopAt (tVar i) (tCons (tM K P0 O W E ma) tNil) σ H Q := by
  obtain ⟨ρ, S, h⟩ := h
  obtain ⟨ds0, e0, h⟩ := h.of_nox
  obtain ⟨l, vs0, h1, h2, _⟩ := S.lst hi (lstAt_ok e0)
  refine ⟨.ref l, h1, .inl ⟨rfl, _, SqL.of h2⟩, ρ, S, h.of_bind.mono fun ⟨hd, ρ1⟩ q v H1 S1 k1 r1 => ?_⟩
  obtain ⟨d, e1, q⟩ := q.of_nox
  have rd := r1.v e1
  cases d <;> first | (exact q.elim) | skip
  rename_i z
  unfold Rep at rd
  subst rd
  obtain ⟨ds, e2, q⟩ := Res.of_nox (show Res E W σ H ((lstAt i ρ1).nox >>= _) _ from q)
  obtain ⟨l', vs, h1', h3, h4⟩ := S1.lst hi (lstAt_ok e2)
  rw [h1] at h1'
  cases h1'
  have q : Res E W σ H (popRes i ds z ρ1) _ := q
  unfold popRes at q
  by_cases c : szOk ds.length = true
  · rw [if_pos c] at q
    have c := of_decide_eq_true c
    cases ej : ixN ds.length z with
    | none => rw [ej] at q; exact q.elim
    | some k =>
      rw [ej] at q
      cases ed : ds[k]? with
      | none => simp only [ed] at q; exact q.elim
      | some d =>
        simp only [ed] at q
        obtain ⟨y, ey, ry⟩ := h4.get ed
        obtain ⟨a1, a2, a3, a4⟩ := ixN_seq ej
        have e24 : sizeLine = 16777216 := by decide
        have hv : FA P0 O σ = FA P0 O σ := rfl
        refine ⟨l, vs, z, k, y, rfl, rfl, h3, by omega, by omega, by rw [h4.length]; exact a1, ey, ?_⟩
        have S2 := S1.lstW hi h1 h3 (Reps.erase k h4)
        refine q y _ S2 (k1.ownW hw h1) ?_
        exact ry.mono d S1.dom (fun b o e n => by rw [upd_ne fun z => n (.inr ⟨i, hi, by rw [z]; exact h1⟩)]; exact e) fun b z => .inl z
  · rw [if_neg c] at q
    exact q.elim
theorem ce_popAt {i : Nat} {x : Str} {p ap cp : Pos} (h : CEx X P0 O W E e ma) (hi : i ∈ O := by decide) (hw : i ∈ W := by decide) (hx : X.N[i]? = some x := by rfl) (hv : Vis X.env.scope x := by first | exact Or.inl rfl | exact Or.inr (Or.inl rfl) | exact Or.inr (Or.inr rfl)) (hd : (x == ("__debug__" : Str)) = false := by decide) (hcd : (x == ("__classdict__" : Str)) = false := by decide)
    (he : starEach [e] X.env = (false, eval e X.env) :: starEach [] X.env := by rfl) (hpl : (backTo cp (starEach [] X.env)).any (·.1) = false := by rfl) (hbase : attributeBase (.Name x p) "pop" X.env (eval (.Name x p) X.env) = eval (.Name x p) X.env := by rfl) (hline : (ap.endLine == cp.line) = true := by rfl)
    (hfew : Few X cp [e] := by rfl) : CEx X P0 O W E (.Call (.Attribute (.Name x p) "pop" ap) [e] [] cp) (cPopAt i ma) :=
  PE.imp (pe_bm PySem.F.plainAttrs_list PySem.F.slot_list_pop PySem.F.type_list_pop mt_popAt (pe_var (i := i) hx hv hd hcd) (pa_cons h pa_nil he) hbase hfew hline he hpl) (tM_popAt hi hw)
end
end Y

set_option Elab.async false
set_option linter.all false
set_option maxRecDepth 100000
set_option maxHeartbeats 4000000
namespace Y
open PySem PySem.Spec PyProof.Rows L2
def ltL : List Int → List Int → Bool
  | [], [] => false
  | [], _ :: _ => true
  | _ :: _, [] => false
  | x :: xs, y :: ys => if x = y then ltL xs ys else decide (x < y)
theorem ltL_asym : ∀ {a b : List Int}, ltL a b = true → ltL b a = false
  | [], [], h => by simp [ltL] at h
  | [], _ :: _, _ => rfl
  | _ :: _, [], h => by simp [ltL] at h
  | x :: xs, y :: ys, h => by
    unfold ltL at h ⊢
    by_cases e : x = y
    · rw [if_pos e] at h
      rw [if_pos e.symm]
      exact ltL_asym h
    · rw [if_neg e, decide_eq_true_eq] at h
      rw [if_neg fun z => e z.symm, decide_eq_false_iff_not]
      omega
theorem ltL_tr : ∀ {a b c : List Int}, ltL b a = false → ltL c b = false → ltL c a = false
  | a, b, [], h1, h2 => by
    cases b with
    | nil => exact h1
    | cons => simp [ltL] at h2
  | [], b, z :: zs, _, _ => rfl
  | x :: xs, [], z :: zs, h1, _ => by simp [ltL] at h1
  | x :: xs, y :: ys, z :: zs, h1, h2 => by
    unfold ltL at h1 h2 ⊢
    by_cases e1 : y = x
    · rw [if_pos e1] at h1
      by_cases e2 : z = y
      · rw [if_pos e2] at h2
        rw [if_pos (e2.trans e1)]
        exact ltL_tr h1 h2
      · rw [if_neg e2, decide_eq_false_iff_not] at h2
        rw [if_neg (by omega), decide_eq_false_iff_not]
        omega
    · rw [if_neg e1, decide_eq_false_iff_not] at h1
      by_cases e2 : z = y
      · rw [if_neg (by omega), decide_eq_false_iff_not]
        omega
      · rw [if_neg e2, decide_eq_false_iff_not] at h2
        rw [if_neg (by omega), decide_eq_false_iff_not]
        omega
theorem ltL_eq : ∀ {a b : List Int}, ltL a b = false → ltL b a = false → a = b
  | [], [], _, _ => rfl
  | [], _ :: _, h, _ => by simp [ltL] at h
  | _ :: _, [], _, h => by simp [ltL] at h
  | x :: xs, y :: ys, h1, h2 => by
    unfold ltL at h1 h2
    by_cases e : x = y
    · rw [if_pos e] at h1
      rw [if_pos e.symm] at h2
      rw [e, ltL_eq h1 h2]
    · rw [if_neg e, decide_eq_false_iff_not] at h1
      rw [if_neg fun z => e z.symm, decide_eq_false_iff_not] at h2
      omega
theorem ltL_swo {β : Type} (k : β → List Int) : SrtO.Swo fun v u => ltL (k v) (k u) := ⟨fun _ _ h => ltL_asym h, fun _ _ _ h1 h2 => ltL_tr h1 h2⟩
def sortL (xs : List (List Int)) : List (List Int) := xs.mergeSort fun a b => !ltL b a
theorem sortL_perm (xs : List (List Int)) : (sortL xs).Perm xs := List.mergeSort_perm _ _
theorem sortL_pw (xs : List (List Int)) : (sortL xs).Pairwise fun a b => ltL b a = false := by
  have := List.pairwise_mergeSort (le := fun a b : List Int => !ltL b a) (fun a b c h1 h2 => by
    simp only [Bool.not_eq_true'] at *
    exact ltL_tr h1 h2) (fun a b => by
    cases e : ltL b a with
    | false => rfl
    | true => simp [ltL_asym e]) xs
  exact this.imp fun h => by simpa using h
theorem sortL_of {xs ys : List (List Int)} (p : ys.Perm xs) (h : ys.Pairwise fun a b => ltL b a = false) : ys = sortL xs :=
  List.Perm.eq_of_pairwise (le := fun a b : List Int => ltL b a = false) (fun a b _ _ h1 h2 => ltL_eq h2 h1) h (sortL_pw xs) (p.trans (sortL_perm xs).symm)
def TupV (h : Heap) (v : Value) (ns : List Int) : Prop := ∃ a o its n, v = .ref a ∧ h.get? a = some o ∧ o.cls = .type "tuple" ∧ o.data = .seq its n ∧ IntsAre its.toList ns
theorem TupV.at {h g : Heap} {v : Value} {ns : List Int} (p : TupV h v ns) (k : ∀ b o, h.get? b = some o → o.cls = .type "tuple" → g.get? b = some o) : TupV g v ns :=
  let ⟨a, o, its, n, e, ho, c, d, i⟩ := p
  ⟨a, o, its, n, e, k _ _ ho c, c, d, i⟩
section
variable {prog : Program} {w : World} {A : Around} {E : Value → Shared → Prop} {s : Shared}
/-- two tuples' items in turn -/
theorem lexI {b fin : Bool} {Q : Bool → Shared → Prop} : ∀ {xs ys : List Value} {ns ms : List Int} (i : Nat), IntsAre xs ns → IntsAre ys ms → ((ns.length < ms.length ↔ fin = true) → True) →
    (∀ r, (∀ k, ns.take k = ms.take k → k = min ns.length ms.length → r = fin) → (¬ (ns.take (min ns.length ms.length) = ms.take (min ns.length ms.length)) → r = ltL ns ms) → Q r s) → PySem.W.KatLex prog w A b fin Q (xs.zip ys) i s
  | _, _, _, _, i, .nil, _, _, q => PySem.W.kat_nil (q fin (fun _ _ _ => rfl) fun z => by simp at z)
  | _, _, _, _, i, .cons n t r, .nil, _, q => PySem.W.kat_nil (q fin (fun _ _ _ => rfl) fun z => by simp at z)
  | _, _, _, _, i, .cons n t r1, .cons m u r2, _, q => by
    rw [List.zip_cons_cons]
    refine PySem.W.kat_cons (SeqAt.EqAt.int_int n t m u prog w _ _ ?_)
    refine PySem.W.kat_go (fun e1 => ?_) (fun e1 => ?_)
    · obtain rfl : n = m := by simpa using e1
      refine PySem.W.kat_yes (lexI (i + 1) r1 r2 (fun _ => trivial) fun r h1 h2 => q r (fun k hk hm => ?_) fun hn => ?_)
      · rw [List.length_cons, List.length_cons, Nat.succ_min_succ] at hm
        subst hm
        exact h1 _ (by simpa using hk) rfl
      · rw [h2 fun z => hn (by rw [List.length_cons, List.length_cons, Nat.succ_min_succ, List.take_succ_cons, List.take_succ_cons, z])]
        simp [ltL]
    · have ne : ¬ n = m := by simpa using e1
      have fin' : Q (decide (n < m)) s := q _ (fun k hk hm => by
        rw [List.length_cons, List.length_cons, Nat.succ_min_succ] at hm
        subst hm
        simp only [List.take_succ_cons, List.cons.injEq] at hk
        exact absurd hk.1 ne) fun _ => by simp [ltL, ne]
      refine PySem.W.kat_no ?_
      cases hb : (b && i == 0) with
      | true => exact oneLt_int fin'
      | false => exact PySem.W.kat_one _ _ (PyProof.Rows.lt_int fin')
theorem ltL_fin : ∀ {ns ms : List Int}, ns.take (min ns.length ms.length) = ms.take (min ns.length ms.length) → ltL ns ms = decide (ns.length < ms.length)
  | [], [], _ => rfl
  | [], _ :: _, _ => by simp [ltL]
  | _ :: _, [], _ => by simp [ltL]
  | x :: xs, y :: ys, h => by
    rw [List.length_cons, List.length_cons, Nat.succ_min_succ, List.take_succ_cons, List.take_succ_cons, List.cons.injEq] at h
    unfold ltL
    rw [if_pos h.1, ltL_fin h.2, List.length_cons, List.length_cons]
    simp
theorem tup_cmp {vs : List Value} {k : Value → List Int} {c : Bool} (hp : ∀ v ∈ vs, TupV s.heap v (k v)) : SrtO.Cmp prog w A s (tuples' c) (fun p => p.1 ∈ vs) (SrtO.lt2 fun v u => ltL (k v) (k u)) := by
  intro p q mp mq
  have g1 := hp _ mp
  have g2 := hp _ mq
  show wpAny (model prog w) A (keyLt' (tuples' c) p.1 q.1) (fun r s' => s' = s ∧ r = ltL (k p.1) (k q.1)) (fun _ _ => False) s
  generalize k p.1 = ns at g1 ⊢
  generalize k q.1 = ms at g2 ⊢
  obtain ⟨a, o, xs, n, e, ho, hc, hd, hi⟩ := g1
  obtain ⟨a', o', ys, n', e', ho', hc', hd', hi'⟩ := g2
  rw [e, e']
  refine PySem.W.kat_lt ho hd ho' hd' (lexI 0 hi hi' (fun _ => trivial) fun r h1 h2 => ⟨rfl, ?_⟩)
  by_cases z : ns.take (min ns.length ms.length) = ms.take (min ns.length ms.length)
  · rw [h1 _ z rfl, ltL_fin z, ← hi.length, ← hi'.length, Array.length_toList, Array.length_toList]
  · exact h2 z
theorem tup_firsts {h : Heap} {k : Value → List Int} : ∀ {vs : List Value}, (∀ v ∈ vs, TupV h v (k v) ∧ k v ≠ []) → ∃ fs : List Value, PySem.W.KatTups h vs fs ∧ fs.length = vs.length ∧ ∀ f ∈ fs, ∃ x t, f = Value.int x t
  | [], _ => ⟨[], trivial, rfl, fun _ z => nomatch z⟩
  | v :: vs, hp => by
    obtain ⟨fs, t1, t2, t3⟩ := tup_firsts (vs := vs) fun u hu => hp u (by simp [hu])
    obtain ⟨⟨a, o, xs, n, e, ho, hc, hd, hi⟩, ne⟩ := hp v (by simp)
    generalize k v = ns at hi ne
    obtain ⟨m, t, us, ms, e1⟩ : ∃ m t us ms, xs.toList = Value.int m t :: us ∧ ns = m :: ms := by
      generalize xs.toList = l at hi
      cases hi with
      | nil => exact absurd rfl ne
      | cons m t r => exact ⟨m, t, _, _, rfl, rfl⟩
    refine ⟨.int m t :: fs, ⟨⟨a, o, xs, n, e, ho, hc, hd, ?_⟩, t1⟩, by simp [t2], fun f hf => ?_⟩
    · rw [← Array.getElem?_toList, e1.1]
      rfl
    · rcases List.mem_cons.mp hf with rfl | hf
      · exact ⟨m, t, rfl⟩
      · exact t3 f hf
theorem tup_sortable {a : Addr} {vs : List Value} {k : Value → List Int} (h0 : 0 < vs.length) (hp : ∀ v ∈ vs, TupV s.heap v (k v) ∧ k v ≠ []) (ha : ∀ o, s.heap.get? a = some o → o.cls ≠ .type "tuple") : SrtO.SortableO prog w A s a vs fun v u => ltL (k v) (k u) := by
  intro g kp
  have hq : ∀ v ∈ vs, TupV g v (k v) ∧ k v ≠ [] := fun v hv => ⟨(hp v hv).1.at fun b o e c => kp b o (fun z => by subst z; exact ha o e c) e, (hp v hv).2⟩
  obtain ⟨fs, t1, t2, t3⟩ := tup_firsts hq
  refine ⟨tuples' true, fun Q E done => ?_, tup_cmp fun v hv => (hq v hv).1⟩
  refine PySem.W.kat_kind (T := .type "int") t1 (by omega) (fun f hf => ?_) (by rfl) ?_
  · obtain ⟨x, t, rfl⟩ := t3 f hf
    exact PySem.W.Looks.now
  · rw [show (Value.type "int" != Value.type "tuple") = true by decide +kernel]
    exact done
end
/-- sorted(xs), xs a list of tuples of whole numbers (none empty where there are two) -/
def rSortTs (K : PySem.W.Frag) : List V → Hp → VK → Prop := fun vs H Q => ∃ (a : Addr) (xs : List V) (k : V → List Int), vs = [V.ref a] ∧ SqL K H a xs ∧ (∀ x ∈ xs, ∃ t, x = V.ref t ∧ H t = some (.tup ((k x).map V.int)) ∧ (2 ≤ xs.length → k x ≠ [])) ∧
  ∀ ys p, ys.Pairwise (fun x y => ltL (k y) (k x) = false) → ys.Perm xs → H p = none → Q (.ref p) (upd H p (.lst ys))
theorem ints_vals : ∀ {ns : List Int} {us : List Value}, Vals (ns.map V.int) us → IntsAre us ns
  | [], _, .nil => .nil
  | n :: ns, _, .cons r t => by
    obtain ⟨u, rfl⟩ := r
    exact .cons n u (ints_vals t)
section
variable {X : Cx}
theorem cr_sortTs : CallR X (.builtin "sorted") (rSortTs X.K) := by
  intro pins s σ H vs us Q I r ⟨a, xs, k, e0, hs, hx, q⟩
  subst e0
  obtain ⟨its, rv, hl, hz⟩ := I.list hs
  obtain ⟨u, e3, ru⟩ := vals1 r
  subst e3
  obtain rfl : u = Value.ref a := ru
  obtain ⟨e1, e2⟩ := refs_back rv fun x m => (hx x m).imp fun t h => h.1
  have tv : ∀ v ∈ its, TupV s.heap v (k (backV v)) ∧ (2 ≤ xs.length → k (backV v) ≠ []) := fun v hv => by
    obtain ⟨t, rfl⟩ := e2 v hv
    have hm : V.ref t ∈ xs := by rw [e1]; exact List.mem_map.mpr ⟨_, hv, rfl⟩
    obtain ⟨t', e, ht, ne⟩ := hx _ hm
    cases e
    obtain ⟨_, its2, r2, o, ho, hc, n, hd⟩ := I.hok _ _ ht
    exact ⟨⟨t, o, _, n, rfl, ho, hc, hd, by rw [List.toList_toArray]; exact ints_vals r2⟩, ne⟩
  have zl : its.length = xs.length := by rw [rv.length]
  refine SrtO.sorted_ord (ltL_swo fun v => k (backV v)) hl.isList (by rw [zl]; exact hz) (fun h2 g b hb kk => ?_) fun out hs1 hs2 => ?_
  · refine tup_sortable (s := { s with heap := g }) (by omega) (fun v hv => ⟨(tv v hv).1.at fun c o e _ => (kk c o e).2, (tv v hv).2 (by omega)⟩) fun o e => ?_
    have e' : some o = some (seqObj "list" its.toArray 0) := e.symm.trans hb
    cases e'
    exact fun c => absurd (Value.type.inj c) (by decide)
  · obtain ⟨n, hn⟩ := PyProof.Rows.sortedAll_at s.heap its out.toArray
    have h3 : ∀ u ∈ out, ∃ b, u = Value.ref b := fun u hu => e2 u (hs2.perm.mem_iff.mp hu)
    have pm : (out.map backV).Perm xs := by rw [e1]; exact hs2.perm.map backV
    refine ⟨.ref (s.heap.objs.size + 1), upd H (s.heap.objs.size + 1) (.lst (out.map backV)), I.laid (t' := s.toks) (fun _ _ e => PyProof.Rows.sortedAll_old e) (Nat.le_succ _) ⟨by rw [pm.length_eq]; exact hz, out, n, vals_back h3, hn⟩, rfl, q _ _ ?_ pm (I.hok.fresh (Nat.le_succ _))⟩
    exact List.pairwise_map.mpr hs1
end
end Y

set_option Elab.async false
set_option linter.all false
set_option maxRecDepth 100000
namespace Y
open PySem PySem.Spec PyProof.Rows L2
theorem ltC_cons {x y : Nat} {xs ys : List Nat} : ltCps (x :: xs) (y :: ys) = true ↔ x < y ∨ (x = y ∧ ltCps xs ys = true) := by simp [ltCps]
theorem ltC_asym : ∀ {a b : List Nat}, ltCps a b = true → ltCps b a = false
  | [], [], h => by simp [ltCps] at h
  | [], _ :: _, _ => by simp [ltCps]
  | _ :: _, [], h => by simp [ltCps] at h
  | x :: xs, y :: ys, h => by
    rw [← Bool.not_eq_true, ltC_cons]
    rcases ltC_cons.mp h with h2 | ⟨rfl, h2⟩
    · rintro (z | ⟨z, _⟩) <;> omega
    · have := ltC_asym h2
      rintro (z | ⟨_, z⟩)
      · omega
      · rw [this] at z; cases z
theorem ltC_tr : ∀ {a b c : List Nat}, ltCps a b = true → ltCps b c = true → ltCps a c = true
  | [], _ :: _, _ :: _, _, _ => by simp [ltCps]
  | [], [], _, h, _ => by simp [ltCps] at h
  | _ :: _, [], _, h, _ => by simp [ltCps] at h
  | _, _ :: _, [], _, h => by simp [ltCps] at h
  | x :: xs, y :: ys, z :: zs, h1, h2 => by
    rw [ltC_cons] at *
    rcases h1 with h1 | ⟨rfl, h1⟩
    · rcases h2 with h2 | ⟨rfl, h2⟩
      · exact .inl (by omega)
      · exact .inl h1
    · rcases h2 with h2 | ⟨rfl, h2⟩
      · exact .inl h2
      · exact .inr ⟨rfl, ltC_tr h1 h2⟩
theorem ltC_tot : ∀ {a b : List Nat}, ltCps a b = false → ltCps b a = false → a = b
  | [], [], _, _ => rfl
  | [], _ :: _, h, _ => by simp [ltCps] at h
  | _ :: _, [], _, h => by simp [ltCps] at h
  | x :: xs, y :: ys, h1, h2 => by
    rw [← Bool.not_eq_true, ltC_cons] at h1 h2
    have e : x = y := by omega
    subst e
    rw [ltC_tot (a := xs) (b := ys) (Bool.not_eq_true _ ▸ fun z => h1 (.inr ⟨rfl, z⟩)) (Bool.not_eq_true _ ▸ fun z => h2 (.inr ⟨rfl, z⟩))]
theorem ltC_ntr {a b c : List Nat} (h1 : ltCps b a = false) (h2 : ltCps c b = false) : ltCps c a = false := by
  cases e : ltCps c a with
  | false => rfl
  | true =>
    cases e2 : ltCps a b with
    | true => rw [ltC_tr e e2] at h2; cases h2
    | false => rw [ltC_tot e2 h1] at e; rw [e] at h2; cases h2
def ltStr (x y : Str) : Bool := ltCps x.cps.toList y.cps.toList
theorem ltStr_tot {x y : Str} (h1 : ltStr x y = false) (h2 : ltStr y x = false) : x = y := by
  have e := ltC_tot h1 h2
  cases x; cases y
  simp at e
  rw [e]
def sortS (xs : List Str) : List Str := xs.mergeSort fun a b => !ltStr b a
theorem sortS_perm (xs : List Str) : (sortS xs).Perm xs := List.mergeSort_perm _ _
theorem sortS_pw (xs : List Str) : (sortS xs).Pairwise fun a b => ltStr b a = false := by
  have := List.pairwise_mergeSort (le := fun a b : Str => !ltStr b a) (fun a b c h1 h2 => by
    simp only [Bool.not_eq_true'] at *
    exact ltC_ntr h1 h2) (fun a b => by
    cases e : ltStr b a with
    | false => rfl
    | true =>
      have := ltC_asym e
      simp [ltStr, this]) xs
  exact this.imp fun h => by simpa using h
theorem sortS_of {xs ys : List Str} (p : ys.Perm xs) (h : ys.Pairwise fun a b => ltStr b a = false) : ys = sortS xs :=
  List.Perm.eq_of_pairwise (le := fun a b : Str => ltStr b a = false) (fun a b _ _ h1 h2 => ltStr_tot h2 h1) h (sortS_pw xs) (p.trans (sortS_perm xs).symm)
theorem rising_pw : ∀ {ys : List Str}, sortedS ys = true → ys.Pairwise fun a b => ltStr b a = false
  | [], _ => List.Pairwise.nil
  | [x], _ => List.pairwise_singleton _ _
  | x :: y :: r, h => by
    simp only [sortedS, risingS, Bool.and_eq_true, Bool.not_eq_true'] at h
    have ih := rising_pw (ys := y :: r) h.2
    refine List.pairwise_cons.mpr ⟨fun z hz => ?_, ih⟩
    rcases List.mem_cons.mp hz with rfl | hz
    · exact h.1
    · exact ltC_ntr h.1 ((List.pairwise_cons.mp ih).1 z hz)
def rSortSt (K : PySem.W.Frag) : List V → Hp → VK → Prop := fun vs H Q => ∃ (a : Addr) (xs : List Str), vs = [V.ref a] ∧ SqL K H a (xs.map V.str) ∧ ∀ p, H p = none → Q (.ref p) (upd H p (.lst ((sortS xs).map V.str)))
theorem cr_sortSt {X : Cx} : CallR X (.builtin "sorted") (rSortSt X.K) := by
  intro pins s σ H vs us Q I r ⟨a, xs, e0, hs, q⟩
  subst e0
  obtain ⟨its, rv, hl, hz⟩ := I.list hs
  rw [Vals.ref1 r]
  refine sorted_strsAny hl.isList rv.strs (by rw [← rv.length]; exact hz) fun out ys h1 h2 h3 => ?_
  obtain ⟨n, hn⟩ := PyProof.Rows.sortedAll_at s.heap its out
  have ey := sortS_of h2 (rising_pw h3)
  subst ey
  have zl : ((sortS xs).map V.str).length ≤ sizeLine := by rw [List.length_map, h2.length_eq]; rw [List.length_map] at hz; exact hz
  exact ⟨.ref _, upd H (s.heap.objs.size + 1) (.lst ((sortS xs).map V.str)), I.laid (t' := s.toks) (fun _ _ => PyProof.Rows.sortedAll_old) (Nat.le_succ _) ⟨zl, out.toList, n, vals_of_strs h1, hn⟩, rfl, q _ (I.hok.fresh (Nat.le_succ _))⟩
def intTup : D → Option (List Int)
  | .tup ds => intsOf ds
  | _ => none
def tupsOf : List D → Option (List (List Int))
  | [] => some []
  | d :: ds => match intTup d, tupsOf ds with
    | some n, some ns => some (n :: ns)
    | _, _ => none
def sortOk (xs : List (List Int)) : Bool := decide (xs.length < 2) || xs.all fun x => !x.isEmpty
def sortD : List D → R D
  | [.lst ds] => match intsOf ds with
    | some ns => .ok (.lst ((sortI ns).map D.int))
    | none => match strsOf ds with
    | some ss => .ok (.lst ((sortS ss).map D.str))
    | none => match tupsOf ds with
      | some xs => if sortOk xs = true then .ok (.lst ((sortL xs).map fun x => D.tup (x.map D.int))) else .stk
      | none => .stk
  | _ => .stk
def intV : V → Int
  | .int i => i
  | _ => 0
def keyV (H : Hp) : V → List Int
  | .ref t => match H t with
    | some (.tup ws) => ws.map intV
    | _ => []
  | _ => []
theorem ints_back (ns : List Int) : (ns.map V.int).map intV = ns := by
  rw [List.map_map]
  induction ns with
  | nil => rfl
  | cons x xs ih => simp [intV] at ih ⊢; exact ih
theorem reps_strs {K : PySem.W.Frag} {H : Hp} {P : Pr} : ∀ ns : List Str, Reps K H (ns.map D.str) P (ns.map V.str)
  | [] => Reps.nil
  | n :: ns => Reps.cons (by unfold Rep; rfl) (reps_strs ns)
section
variable {K : PySem.W.Frag} {X : Cx}
theorem tups_rep {H : Hp} {P : Pr} : ∀ {ds : List D} {xs : List (List Int)} {vs : List V}, tupsOf ds = some xs → Reps K H ds P vs → vs.map (keyV H) = xs ∧ ∀ v ∈ vs, ∃ t, v = V.ref t ∧ H t = some (.tup ((keyV H v).map V.int))
  | [], xs, vs, e, h => by simp [tupsOf] at e; subst e; rw [h.nil_iff]; simp
  | d :: ds, xs, vs, e, h => by
    obtain ⟨v, ws, rfl, h1, h2⟩ := h.cons_iff
    unfold tupsOf at e
    cases e1 : intTup d with
    | none => rw [e1] at e; simp at e
    | some n =>
      cases e2 : tupsOf ds with
      | none => rw [e1, e2] at e; simp at e
      | some ns =>
        rw [e1, e2] at e
        simp at e
        subst e
        obtain ⟨i1, i2⟩ := tups_rep e2 h2
        cases d <;> simp [intTup] at e1
        rename_i ds'
        unfold Rep at h1
        obtain ⟨t, us, rfl, ht, hr⟩ := h1
        rw [ints_rep e1 hr] at ht
        have kt : keyV H (.ref t) = n := by
          show (match H t with | some (.tup ws) => ws.map intV | _ => []) = n
          rw [ht]
          exact ints_back n
        refine ⟨by rw [List.map_cons, kt, i1], fun v hv => ?_⟩
        rcases List.mem_cons.mp hv with rfl | hv
        · exact ⟨t, rfl, by rw [kt]; exact ht⟩
        · exact i2 v hv
theorem cd_sort : CallR X (.builtin "sorted") (rDs X.K sortD) := by
  intro pins s σ H xs us Q I r ⟨P, ds, dz, hm, rs, e, out⟩
  unfold sortD at e
  split at e
  · split at e
    · rename_i ds0 _ ns ei
      refine cd_sortedI pins s σ H xs us Q I r ⟨P, _, dz, hm, rs, ?_, out⟩
      show (match intsOf ds0 with | some ns => R.ok (D.lst ((sortI ns).map D.int)) | none => .stk) = _
      rw [ei]
      exact e
    · split at e
      · rename_i ss es
        cases e
        obtain ⟨v, rfl, r1⟩ := rs.get1
        obtain ⟨a, vs, rfl, h1, h2⟩ := r1.lst
        rw [strs_rep es h2] at h1
        exact cr_sortSt pins s σ H _ us Q I r ⟨a, ss, rfl, SqL.of h1, fun p hp => out_lst hm out (fun _ _ => reps_strs _) p hp⟩
      split at e
      · rename_i nss et
        split at e
        · rename_i ok
          cases e
          obtain ⟨v, rfl, r1⟩ := rs.get1
          obtain ⟨a, vs, rfl, h1, h2⟩ := r1.lst
          obtain ⟨k1, k2⟩ := tups_rep et h2
          have lv : vs.length = nss.length := by rw [← k1, List.length_map]
          refine cr_sortTs pins s σ H _ us Q I r ⟨a, vs, keyV H, rfl, SqL.of h1, fun x hx => ?_, fun ys p pw pm hp => ?_⟩
          · obtain ⟨t, e1, e2⟩ := k2 x hx
            refine ⟨t, e1, e2, fun h2' => ?_⟩
            unfold sortOk at ok
            rw [decide_eq_false (by omega), Bool.false_or, List.all_eq_true] at ok
            have := ok (keyV H x) (by rw [← k1]; exact List.mem_map.mpr ⟨x, hx, rfl⟩)
            intro z
            rw [z] at this
            simp at this
          · have sm : Same H (upd H p (.lst ys)) := fun b o eb => by rw [upd_ne (ne_of_none eb hp)]; exact eb
            have es : ys.map (keyV H) = sortL nss := sortL_of (by rw [← k1]; exact pm.map _) (List.pairwise_map.mpr pw)
            refine out _ _ sm ?_ fun _ b eb => by cases eb; exact hp
            unfold Rep
            refine ⟨p, ys, rfl, fun z => (hm p z).some hp, upd_same, ?_⟩
            rw [← es, List.map_map]
            have : ∀ (zs : List V) (P' : Pr), (∀ z ∈ zs, z ∈ vs) → Reps X.K (upd H p (.lst ys)) (zs.map ((fun x => D.tup (x.map D.int)) ∘ keyV H)) P' zs := fun zs P' => by
              induction zs with
              | nil => intro _; exact Reps.nil
              | cons z zs ih =>
                intro hz
                obtain ⟨t, e1, e2⟩ := k2 z (hz z (by simp))
                refine Reps.cons ?_ (ih fun y hy => hz y (by simp [hy]))
                show Rep X.K _ (D.tup ((keyV H z).map D.int)) P' z
                unfold Rep
                exact ⟨t, _, e1, sm _ _ e2, reps_ints _⟩
            exact this ys _ fun z hz => pm.mem_iff.mp hz
        · cases e
      · cases e
  · cases e
end
theorem tups_map : ∀ xs : List (List Int), tupsOf (xs.map fun x => D.tup (x.map D.int)) = some xs
  | [] => rfl
  | x :: xs => by
    simp only [List.map_cons, tupsOf, intTup, ints_map, tups_map xs]
@[simp] theorem d_sortN {xs : List Int} : sortD [.lst (xs.map D.int)] = .ok (.lst ((sortI xs).map D.int)) := by
  show (match intsOf (xs.map .int) with | some ns => R.ok (D.lst ((sortI ns).map D.int)) | none => _) = _
  rw [ints_map]
theorem sortD_tups {x : List Int} {xs : List (List Int)} (h : sortOk (x :: xs) = true) : sortD [.lst ((x :: xs).map fun x => D.tup (x.map D.int))] = .ok (.lst ((sortL (x :: xs)).map fun x => D.tup (x.map D.int))) := by
  have e : intsOf ((x :: xs).map fun x => D.tup (x.map D.int)) = none := rfl
  have e2 : strsOf ((x :: xs).map fun x => D.tup (x.map D.int)) = none := rfl
  unfold sortD
  simp only [e, e2, tups_map, h, if_true]
end Y

set_option Elab.async false
set_option linter.all false
set_option maxRecDepth 100000
namespace Y
open PySem PySem.Spec PyProof.Rows L2
def whileN (t : BM) (body : SM) (vs : List Nat) : Nat → Y.Env → R (Fl × Y.Env)
  | 0, _ => .stk
  | n + 1, ρ => do
    let (k, ρ1) ← t ρ
    if k = true then do
      let (f, ρ2) ← body ρ1
      match f with
      | .bk => pure (.nx, ρ2)
      | .rt h => pure (.rt h, ρ2)
      | _ => whileN t body vs n (wipeE ρ2 vs)
    else pure (.nx, ρ1)
open Classical in
noncomputable def sWhile (t : BM) (body : SM) (vs : List Nat) : SM := fun ρ => if h : ∃ n, whileN t body vs n ρ ≠ .stk then whileN t body vs h.choose ρ else .stk
theorem whileN_up {t : BM} {body : SM} {vs : List Nat} : ∀ {n : Nat} {ρ : Y.Env}, whileN t body vs n ρ ≠ .stk → whileN t body vs (n + 1) ρ = whileN t body vs n ρ
  | 0, ρ, h => absurd rfl h
  | n + 1, ρ, h => by
    unfold whileN at h
    conv => lhs; unfold whileN
    conv => rhs; unfold whileN
    cases e : t ρ with
    | stk => rfl
    | er c ds => rfl
    | ok p =>
      obtain ⟨k, ρ1⟩ := p
      rw [e] at h
      simp only [R.bind_ok] at h ⊢
      cases k with
      | false => rfl
      | true =>
        simp only [if_true] at h ⊢
        cases e2 : body ρ1 with
        | stk => rfl
        | er c ds => rfl
        | ok q =>
          obtain ⟨f, ρ2⟩ := q
          rw [e2] at h
          simp only [R.bind_ok] at h ⊢
          cases f with
          | bk => rfl
          | rt _ => rfl
          | nx => exact whileN_up h
          | ct => exact whileN_up h
theorem whileN_le {t : BM} {body : SM} {vs : List Nat} {n : Nat} {ρ : Y.Env} (h : whileN t body vs n ρ ≠ .stk) : ∀ m, whileN t body vs (n + m) ρ = whileN t body vs n ρ
  | 0 => rfl
  | m + 1 => by
    have ih := whileN_le h m
    rw [← Nat.add_assoc, whileN_up (by rw [ih]; exact h), ih]
/-- a run of so many turns tells what the loop yields -/
theorem sWhile_of {t : BM} {body : SM} {vs : List Nat} {n : Nat} {ρ : Y.Env} {a : Fl × Y.Env} (h : whileN t body vs n ρ = .ok a) : sWhile t body vs ρ = .ok a := by
  have hx : ∃ n, whileN t body vs n ρ ≠ .stk := ⟨n, by rw [h]; intro z; cases z⟩
  unfold sWhile
  rw [dif_pos hx]
  have h2 := hx.choose_spec
  rcases Nat.le_total n hx.choose with l | l
  · obtain ⟨m, e⟩ := Nat.exists_eq_add_of_le l
    rw [e, whileN_le (by rw [h]; intro z; cases z), h]
  · obtain ⟨m, e⟩ := Nat.exists_eq_add_of_le l
    rw [← whileN_le h2 m, ← e, h]
section
variable {X : Cx} {P0 : Pr} {O W U : List Nat} {E : EK} {c : Expr} {pos : Pos} {m : SM}
theorem cs_while {t : BM} {vs : List Nat} {xs : List Stmt} (hp : PassesOwn (model X.prog X.w) X.A X.env X.xe) (hc : CT X P0 O W E c t) (hb : CSs X P0 O W U E xs m) : CS X P0 O W U E (.While c xs [] pos) (sWhile t m vs) := PS.imp (ps_while hp hc hb) fun D σ H ⟨ρ, S, h⟩ => by
  let Post : Fl × Y.Env → Prop := fun a => ∀ σ' H', Sim X.K P0 O W a.2 σ' H' → Tr O U σ H σ' H' → σ'.length = σ.length → Fin X.K P0 O H D σ' H' a.1
  have h : Res E O σ H (sWhile t m vs ρ) Post := h
  unfold sWhile at h
  by_cases hx : ∃ n, whileN t m vs n ρ ≠ .stk
  · rw [dif_pos hx] at h
    refine ⟨fun k σx Hx => ∃ ρx, Sim X.K P0 O W ρx σx Hx ∧ Tr O U σ H σx Hx ∧ σx.length = σ.length ∧ Res E O σx Hx (whileN t m vs k ρx) Post, ⟨_, ρ, S, .refl, rfl, h⟩, ?_⟩
    rintro k σx Hx ⟨ρx, Sx, tx, lx, qx⟩
    cases k with
    | zero => exact qx.elim
    | succ k =>
      unfold whileN at qx
      refine ⟨ρx, Sx, (qx.of_bind.down Sx.sub).mono fun ⟨b, ρ1⟩ q1 H1 S1 k1 => ?_⟩
      have t1 : Tr O U σx Hx σx H1 := Tr.of Sx.sub k1
      cases b with
      | false =>
        refine (if_neg Bool.false_ne_true).mpr ?_
        exact q1 σx H1 S1 (tx.trans t1) lx
      | true =>
        refine (if_pos rfl).mpr ⟨fun σ' H' => ∃ ρ', Sim X.K P0 O W ρ' σ' H' ∧ Tr O U σ H σ' H' ∧ σ'.length = σ.length ∧ Res E O σ' H' (whileN t m vs k ρ') Post, fun σ' H' n => ⟨k, Nat.lt_succ_self k, n⟩, ρ1, S1, ?_⟩
        have q1 : Res E O σx Hx (m ρ1 >>= fun p => match p.1 with | .bk => pure (.nx, p.2) | .rt h => pure (.rt h, p.2) | _ => whileN t m vs k (wipeE p.2 vs)) Post := q1
        refine (Res.keepT q1.of_bind t1).mono fun ⟨f, ρ2⟩ q2 σ3 H3 S3 t3 l3 => ?_
        have t4 : Tr O U σx Hx σ3 H3 := t1.trans t3
        have t5 : Tr O U σ H σ3 H3 := tx.trans t4
        have l5 : σ3.length = σ.length := l3.trans lx
        cases f with
        | nx => exact ⟨wipeE ρ2 vs, S3.wipe vs, t5, l5, Res.keepT q2 t4⟩
        | ct => exact ⟨wipeE ρ2 vs, S3.wipe vs, t5, l5, Res.keepT q2 t4⟩
        | bk => exact q2 σ3 H3 S3 t5 l5
        | rt hd =>
          intro v r
          exact q2 σ3 H3 S3 t5 l5 v (r.back fun b e => (tx.trans t1).some b e)
  · rw [dif_neg hx] at h
    exact h.elim
end
end Y

set_option Elab.async false
set_option linter.all false
set_option maxRecDepth 100000
namespace Y
open PySem PySem.Spec PyProof.Rows L2
section
variable {X : Cx} {P0 : Pr} {O W U : List Nat} {E : EK} {a e : Expr} {ma mb : EM} {pos : Pos}
theorem ce_globI {x : Str} {i : Int} (h : ∃ t, X.mg x = some (.int i t)) (hg : Gl X x := by rfl) (hd : (x == ("__debug__" : Str)) = false := by decide) : CEx X P0 O W E (.Name x pos) (cC (.int i)) :=
  h.elim fun t ht => ce_glob (v := .int i) (fun _ _ => by unfold Rep; rfl) rfl ⟨t, rfl⟩ ht hg hd
end
end Y

set_option Elab.async false
set_option linter.all false
set_option maxRecDepth 100000
namespace Y
open PySem PySem.Spec PyProof.Rows L2
def intAt (i : Nat) (ρ : Y.Env) : R Int := match ρ[i]? with
  | some (some (.int n)) => .ok n
  | _ => .stk
theorem intAt_ok {i : Nat} {ρ : Y.Env} {n : Int} (h : intAt i ρ = .ok n) : ρ[i]? = some (some (.int n)) := by
  unfold intAt at h
  split at h
  · rename_i e; cases h; exact e
  · cases h
def sAug (f : Int → Int → Int) (i : Nat) (m : EM) : SM := fun ρ => do
  let n ← (intAt i ρ).nox
  let (h, ρ1) ← m ρ
  let d ← h.v.nox
  match d with
  | .int k => pure (.nx, ρ1.set i (some (.int (f n k))))
  | _ => .stk
section
variable {X : Cx} {P0 : Pr} {O W U : List Nat} {E : EK} {e : Expr} {ma : EM} {pos : Pos}
theorem cs_aug {op : Operator} {f : Int → Int → Int} {i : Nat} {x : Str} {p : Pos} (hN : X.N.Nodup) (hp : PIp X op (ipI f)) (h : CEx X P0 O W E e ma) (ho : i ∉ O := by decide) (hu : ∀ i ∈ U, i ∈ O := by decide) (hi : X.N[i]? = some x := by rfl) (hx : Loc X.env.scope x := by first | exact Or.inl rfl | exact Or.inr rfl)
    (hf : X.fn x = true ∨ X.env.scope.names.lookup x = some .local := by first | exact .inl rfl | exact .inr rfl) : CS X P0 O W U E (.AugAssign (.Name x p) op e pos) (sAug f i ma) := PS.imp (ps_aug hN hi hx h hp hf) fun D σ H ⟨ρ, S, h⟩ => by
  obtain ⟨n, e0, h⟩ := h.of_nox
  obtain ⟨v0, g1, g2⟩ := S.val i _ (intAt_ok e0) ho
  unfold Rep at g2
  subst g2
  refine ⟨_, g1, ρ, S, (h.of_bind.down S.sub).mono fun ⟨hd, ρ1⟩ q v H1 S1 k1 r1 => ?_⟩
  obtain ⟨d, e1, q⟩ := q.of_nox
  have rd := r1.v e1
  cases d <;> first | (exact q.elim) | skip
  rename_i k
  unfold Rep at rd
  subst rd
  refine ⟨n, k, rfl, rfl, ?_⟩
  exact q _ H1 (S1.set ho (by unfold Rep; rfl)) ((Tr.of S.sub k1).trans (Tr.slots (is := [i]) (by simpa using ho) hu fun j hj => List.getElem?_set_ne fun z => hj (by simp [z]))) (by simp)
end
variable {ρ : Y.Env}
@[simp] theorem e_aug {f : Int → Int → Int} {i : Nat} {m : EM} : sAug f i m ρ = ((intAt i ρ).nox >>= fun n => m ρ >>= fun p => p.1.v.nox >>= fun d => match d with | .int k => R.ok (.nx, p.2.set i (some (.int (f n k)))) | _ => .stk) := by
  unfold sAug; congr
@[simp] theorem e_iat {i : Nat} : intAt i ρ = (match ρ[i]? with | some (some (.int n)) => .ok n | _ => .stk) := id rfl
end Y

set_option Elab.async false
set_option linter.all false
set_option maxRecDepth 100000
namespace Y
open PySem PySem.Spec PyProof.Rows L2
def minI : Int → List Int → Int
  | n, [] => n
  | n, m :: ms => minI (min n m) ms
theorem minI_mem : ∀ {ms : List Int} {n : Int}, minI n ms ∈ n :: ms
  | [], n => by simp [minI]
  | m :: ms, n => by
    have := minI_mem (ms := ms) (n := min n m)
    rcases List.mem_cons.mp this with e | h
    · rw [minI, e]
      rcases Int.le_total n m with l | l
      · rw [Int.min_eq_left l]; simp
      · rw [Int.min_eq_right l]; simp
    · rw [minI]; simp [h]
theorem minI_le : ∀ {ms : List Int} {n y : Int}, y ∈ n :: ms → minI n ms ≤ y
  | [], n, y, h => by simp at h; simp [minI, h]
  | m :: ms, n, y, h => by
    rw [minI]
    rcases List.mem_cons.mp h with e | h
    · exact Int.le_trans (minI_le (ms := ms) (n := min n m) (y := min n m) (by simp)) (by rw [e]; exact Int.min_le_left n m)
    · rcases List.mem_cons.mp h with e | h
      · exact Int.le_trans (minI_le (ms := ms) (n := min n m) (y := min n m) (by simp)) (by rw [e]; exact Int.min_le_right n m)
      · exact minI_le (by simp [h])
section
variable {X : Cx}
end
end Y

set_option Elab.async false
set_option linter.all false
set_option maxRecDepth 100000
namespace Y
open PySem PySem.Spec PyProof.Rows L2
theorem extT_meets (l b : Addr) (xs ys : Array Value) (n k : Nat) (dd : Option Addr) (sl : Array (Option Value)) (c0 : ¬ (!xs.isEmpty && Builtin.List.listTooLong (xs.size + ys.size)) = true) (c1 : xs.size ≤ sizeLine) (c2 : xs.size + ys.size ≤ sizeLine + 1) :
    Meets (Builtin.«list.extend» ⟨[.ref l, .ref b], []⟩) (fun _ R s => s.heap.get? l = some { cls := .type "list", dict := none, data := .seq xs n, slots := #[] } ∧ s.heap.get? b = some { cls := .type "tuple", dict := dd, data := .seq ys k, slots := sl } ∧
      R (.ok (.ret Value.none)) { s with heap := s.heap.update l (Obj.mapSeq fun x => x ++ ys), toks := s.toks }) :=
  .of_wp fun prog w A R s ⟨hl, hb, done⟩ => by
    obtain ⟨hp, g, d, tk, os⟩ := s
    have g1 := AutoSeq1.idx_int
    have g2 := AutoSeq1.sub_tuple_tuple
    have g3 := AutoSeq1.sub_list_list
    have g4 := AutoSeq1.sub_tuple_list
    have g5 := AutoSeq1.sub_list_tuple
    have z : (xs ++ ys).size ≤ sizeLine + 1 := by
      rw [Array.size_append]
      exact c2
    wp_walk using (wpAny_updateSeq hl rfl (hz := c1) (_hz' := z)), wpAny_loadPart' hl, wpAny_loadPart' hb
    exact ⟨_, rfl, done⟩
def rExtendT (K : PySem.W.Frag) : V → List V → Hp → VK → Prop := fun x vs H Q => ∃ l b xs zs, x = .ref l ∧ vs = [.ref b] ∧ H l = some (.lst xs) ∧ SqT K H b zs ∧ xs.length + zs.length ≤ sizeLine ∧ Q .non (upd H l (.lst (xs ++ zs)))
theorem mt_extendT {X : Cx} : MtR X "list.extend" (rExtendT X.K) := by
  intro pins s σ H x vs v us Q I rx rv ⟨l, b, xs, zs, ex, ev, hH, hB, hz, q⟩
  subst ex ev
  cases rx
  obtain ⟨u, rfl, ru⟩ := rv.one
  cases ru
  obtain ⟨z, its, n, r, hl, e⟩ := I.lstM hH
  obtain ⟨its2, r2, ⟨o, e2, ec, k, ed⟩, _⟩ := I.tuple hB
  obtain ⟨cls, dd, data, sl⟩ := o
  simp only at ec ed
  subst ec ed
  have l2 := r2.length
  have sz : its.toArray.size + its2.toArray.size ≤ sizeLine := by simp; omega
  refine call_meets F.slot_list_extend ⟨_, e, rfl⟩ F.entry_list_extend (F.args_list_extend_2 _ _) (extT_meets l b its.toArray its2.toArray n k dd sl (by rw [notLongL sz]; simp) (by simp; omega) (by omega)) ⟨e, e2, ?_⟩
  exact ⟨.non, _, I.lset (its' := its ++ its2) hH e (by simp) (r.append r2) (by rw [List.length_append]; omega), rfl, q⟩
def sExt (i : Nat) (m : EM) : SM := fun ρ => do
  let _ ← (lstAt i ρ).nox
  let (h, ρ1) ← m ρ
  let d ← (h.d ρ1).nox
  let ds ← (lstAt i ρ1).nox
  match d with
  | .lst es => if szOk (ds.length + es.length) = true then pure (.nx, ρ1.set i (some (.lst (ds ++ es)))) else .stk
  | .tup es => if szOk (ds.length + es.length) = true then pure (.nx, ρ1.set i (some (.lst (ds ++ es)))) else .stk
  | _ => .stk
section
variable {K : PySem.W.Frag} {X : Cx} {P0 : Pr} {O W U : List Nat} {E : EK} {e : Expr} {ma : EM} {pos : Pos}
def rExtA (K : PySem.W.Frag) : V → List V → Hp → VK → Prop := fun x vs H Q => rExtend x vs H Q ∨ rExtendT K x vs H Q
theorem mt_extA : MtR X "list.extend" (rExtA X.K) := fun pins s σ H x vs v us Q I rx rv h => h.elim (mt_extend pins s σ H x vs v us Q I rx rv) (mt_extendT pins s σ H x vs v us Q I rx rv)
theorem tM_ext {i : Nat} (hi : i ∈ O) (D : Ends) (σ : St) (H : Hp) (h : tSt K P0 O W U E (sExt i ma) D σ H) : tDrop (tBM K "list" (rExtA K) (tVar i) (tCons (tM K P0 O W E ma) tNil)) D σ H := by
  obtain ⟨ρ, S, h⟩ := h
  obtain ⟨ds0, e0, h⟩ := h.of_nox
  obtain ⟨l, vs0, h1, h2, _⟩ := S.lst hi (lstAt_ok e0)
  refine ⟨.ref l, h1, .inl ⟨rfl, _, SqL.of h2⟩, ρ, S, (h.of_bind.down S.sub).mono fun ⟨hd, ρ1⟩ q v H1 S1 k1 r1 => ?_⟩
  obtain ⟨d, e1, q⟩ := q.of_nox
  obtain ⟨ds, e2, q⟩ := q.of_nox
  obtain ⟨l', vs, h1', h3, h4⟩ := S1.lst hi (lstAt_ok e2)
  rw [h1] at h1'
  cases h1'
  have rd := HdR.d S1 r1 e1
  cases d <;> first | (exact q.elim) | skip
  · rename_i es _
    have rd : Rep K H1 (.tup es) (FA P0 O σ) v := rd
    unfold Rep at rd
    obtain ⟨b, ws, rfl, h5, h6⟩ := rd
    have q : Res E O σ H (if szOk (ds.length + es.length) = true then R.ok (Fl.nx, ρ1.set i (some (.lst (ds ++ es)))) else .stk) _ := q
    by_cases c : szOk (ds.length + es.length) = true
    · rw [if_pos c] at q
      have c := of_decide_eq_true c
      exact .inr ⟨l, b, vs, ws, rfl, rfl, h3, SqT.of h5, by rw [h4.length, h6.length]; omega, q σ _ (S1.lstW hi h1 h3 (h4.append h6)) (Tr.ownW S.sub k1 hi h1) rfl⟩
    · rw [if_neg c] at q
      exact q.elim
  · rename_i es _
    obtain ⟨b, ws, rfl, h5, h6⟩ := rd
    have q : Res E O σ H (if szOk (ds.length + es.length) = true then R.ok (Fl.nx, ρ1.set i (some (.lst (ds ++ es)))) else .stk) _ := q
    by_cases c : szOk (ds.length + es.length) = true
    · rw [if_pos c] at q
      have c := of_decide_eq_true c
      exact .inl ⟨l, b, vs, ws, rfl, rfl, h3, h5, by rw [h4.length, h6.length]; omega, q σ _ (S1.lstW hi h1 h3 (h4.append h6)) (Tr.ownW S.sub k1 hi h1) rfl⟩
    · rw [if_neg c] at q
      exact q.elim
theorem cs_ext {i : Nat} {x : Str} {p ap cp : Pos} (h : CEx X P0 O W E e ma) (hi : i ∈ O := by decide) (hx : X.N[i]? = some x := by rfl) (hv : Vis X.env.scope x := by first | exact Or.inl rfl | exact Or.inr (Or.inl rfl) | exact Or.inr (Or.inr rfl)) (hd : (x == ("__debug__" : Str)) = false := by decide) (hcd : (x == ("__classdict__" : Str)) = false := by decide)
    (he : starEach [e] X.env = (false, eval e X.env) :: starEach [] X.env := by rfl) (hpl : (backTo cp (starEach [] X.env)).any (·.1) = false := by rfl) (hbase : attributeBase (.Name x p) "extend" X.env (eval (.Name x p) X.env) = eval (.Name x p) X.env := by rfl) (hline : (ap.endLine == cp.line) = true := by rfl)
    (hfew : Few X cp [e] := by rfl) (hsw : swapsWith (.Call (.Attribute (.Name x p) "extend" ap) [e] [] cp) none pos.line X.env = pure false := by rfl) :
    CS X P0 O W U E (.Expr (.Call (.Attribute (.Name x p) "extend" ap) [e] [] cp) pos) (sExt i ma) :=
  PS.imp (ps_expr (pe_bm PySem.F.plainAttrs_list PySem.F.slot_list_extend PySem.F.type_list_extend mt_extA (pe_var (i := i) hx hv hd hcd) (pa_cons h pa_nil he) hbase hfew hline he hpl) hsw) (tM_ext hi)
end
variable {ρ : Y.Env}
@[simp] theorem e_ext {i : Nat} {m : EM} : sExt i m ρ = ((lstAt i ρ).nox >>= fun _ => m ρ >>= fun p => (p.1.d p.2).nox >>= fun d => (lstAt i p.2).nox >>= fun ds => match d with | .lst es => (if szOk (ds.length + es.length) = true then R.ok (.nx, p.2.set i (some (.lst (ds ++ es)))) else .stk) | .tup es => (if szOk (ds.length + es.length) = true then R.ok (.nx, p.2.set i (some (.lst (ds ++ es)))) else .stk) | _ => .stk) := by
  unfold sExt; congr
end Y

set_option Elab.async false
set_option linter.all false
set_option maxRecDepth 100000
namespace Y
open PySem PySem.Spec PyProof.Rows L2
variable {ρ : Y.Env}
@[simp] theorem e_rg1 {l : Bool} {m : EM} : cRg1 l m ρ = (m ρ >>= fun p => p.1.v.nox >>= fun d => match d with | .int n => (if rgB 0 n = true then R.ok (.fr (if l = true then .lst (rgD 0 n) else .tup (rgD 0 n)), p.2) else .stk) | _ => .stk) := by
  unfold cRg1; congr
@[simp] theorem e_popAt {i : Nat} {m : EM} : cPopAt i m ρ = ((lstAt i ρ).nox >>= fun _ => m ρ >>= fun p => p.1.v.nox >>= fun d => match d with | .int z => ((lstAt i p.2).nox >>= fun ds => popRes i ds z p.2) | _ => .stk) := by
  unfold cPopAt; congr
theorem rgB_of {n : Nat} (h : n ≤ 16777216) : rgB 0 n = true := by
  unfold rgB
  rw [rngOk_of (by omega) (by omega), rngOk_of (by omega) (by omega)]
  simp; omega
theorem rgD_nat {n : Nat} : rgD 0 n = (List.range n).map fun k : Nat => D.int (k : Nat) := by unfold rgD; simp
end Y

set_option Elab.async false
set_option linter.all false
set_option maxRecDepth 100000
namespace Y
open PySem PySem.Spec PyProof.Rows L2
inductive Kd where
  | l (a : Addr) | t (a : Addr) | s (z : Str)
def strV (z : Str) : List V := z.cps.toList.map fun c => V.str ⟨#[c]⟩
def Kd.has (K : PySem.W.Frag) (H : Hp) : Kd → List V → Prop
  | .l a, xs => SqL K H a xs
  | .t a, xs => SqT K H a xs
  | .s z, xs => xs = strV z
def Kd.val : Kd → V
  | .l a => .ref a
  | .t a => .ref a
  | .s z => .str z
def Kd.lo : Kd → Nat → Prop
  | .l a, n => a < n
  | .t a, n => a < n
  | .s _, _ => True
/-- the iterator it over it, i items told -/
def Kd.at (it : Addr) (tk : Tok) : Kd → Nat → Heap → Prop
  | .l a, i, h => h.IsListIter it a i
  | .t a, i, h => h.IsTupleIter it a i
  | .s z, i, h => h.IsStrIter it (strIterType z) z tk i
theorem Kd.at_ob {k : Kd} {it : Addr} {tk : Tok} {i : Nat} {h : Heap} (x : k.at it tk i h) : ∃ o, h.get? it = some o ∧ ∀ v, o.data ≠ .cell v := by
  cases k with
  | l a => obtain ⟨o, e, _, d⟩ := x; exact ⟨o, e, fun v q => by rw [d] at q; cases q⟩
  | t a => obtain ⟨o, e, _, d⟩ := x; exact ⟨o, e, fun v q => by rw [d] at q; cases q⟩
  | s z => obtain ⟨o, e, _, d⟩ := x; exact ⟨o, e, fun v q => by rw [d] at q; cases q⟩
theorem Kd.at_k {k : Kd} {it : Addr} {tk : Tok} {i : Nat} {h h' : Heap} (x : k.at it tk i h) (q : ∀ o, h.get? it = some o → h'.get? it = some o) : k.at it tk i h' := by
  cases k with
  | l a => obtain ⟨o, e, r⟩ := x; exact ⟨o, q o e, r⟩
  | t a => obtain ⟨o, e, r⟩ := x; exact ⟨o, q o e, r⟩
  | s z => obtain ⟨o, e, r⟩ := x; exact ⟨o, q o e, r⟩
theorem vals_at : ∀ {xs : List V} {us : List Value} {j : Nat} {u : Value}, Vals xs us → us[j]? = some u → ∃ x, xs[j]? = some x ∧ RelV x u
  | _, _, _, _, .nil, e => by simp at e
  | x :: xs, _, 0, _, .cons r _, e => by simp at e; subst e; exact ⟨x, rfl, r⟩
  | x :: xs, _, j + 1, _, .cons _ t, e => by simpa using vals_at (j := j) t (by simpa using e)
section
variable {X : Cx} {pins : List (Addr × Obj)} {σ : St} {H : Hp} {s : Shared}
theorem Kd.inj {k : Kd} {xs ys : List V} (I : Inv X pins σ H s) (h : k.has X.K H xs) (h2 : k.has X.K H ys) : xs = ys := by
  cases k with
  | l a => exact I.list_inj h h2
  | t a => exact I.tuple_inj h h2
  | s z => exact Eq.trans h (Eq.symm h2)
/-- what an iterator over it draws -/
structure Kd.Drw (X : Cx) (A : Around) (k : Kd) (it : Addr) (tk : Tok) (xs : List V) (fp : List Addr) (P : Nat → Value → Prop) (S : Nat → Heap → Prop) : Prop where
  dr : Draws X.prog X.w A it fp xs.length P S
  mem : it ∈ fp
  lo : ∀ b ∈ fp, b = it ∨ ∃ a, b = a ∧ (k = .l a ∨ k = .t a)
  back : ∀ j h, S j h → k.at it tk j h
  item : ∀ j v, P j v → ∃ x, xs[j]? = some x ∧ RelV x v
theorem Kd.draw {A : Around} {k : Kd} {it : Addr} {tk : Tok} {i : Nat} {xs : List V} (hh : A.handled = none) (I : Inv X pins σ H s) (h : k.has X.K H xs) (lo : ∀ a, k = .l a ∨ k = .t a → a ≠ it) (st : k.at it tk i s.heap) : ∃ fp P S, Kd.Drw X A k it tk xs fp P S ∧ S i s.heap := by
  cases k with
  | l a =>
    obtain ⟨its, rv, p, _⟩ := I.list h
    have hl : its.toArray.size = xs.length := by simp [rv.length]
    have D := Draws.list (prog := X.prog) (w := X.w) hh it a (lo a (.inl rfl)) its.toArray
    rw [hl] at D
    exact ⟨_, _, _, ⟨D, by simp, fun b hb => by simpa [eq_comm] using hb, fun j h z => z.1, fun j v z => by
      rw [List.getElem?_toArray] at z
      exact vals_at rv z⟩, st, p.isList⟩
  | t a =>
    obtain ⟨its, rv, p, _⟩ := I.tuple h
    have hl : its.toArray.size = xs.length := by simp [rv.length]
    have D := Draws.tuple (prog := X.prog) (w := X.w) hh it a (lo a (.inr rfl)) its.toArray
    rw [hl] at D
    exact ⟨_, _, _, ⟨D, by simp, fun b hb => by simpa [eq_comm] using hb, fun j h z => z.1, fun j v z => by
      rw [List.getElem?_toArray] at z
      exact vals_at rv z⟩, st, p⟩
  | s z =>
    have h : xs = strV z := h
    have hl : z.cps.size = xs.length := by rw [h]; simp [strV]
    have D := Draws.text (prog := X.prog) (w := X.w) hh it z tk
    rw [hl] at D
    exact ⟨_, _, _, ⟨D, by simp, fun b hb => .inl (by simpa using hb), fun j h z => z, fun j v ⟨c, u, e1, e2⟩ => by
      refine ⟨.str ⟨#[c]⟩, ?_, u, e2⟩
      rw [h, strV, List.getElem?_map, Array.getElem?_toList, e1]
      rfl⟩, st⟩
end
theorem ad {a b : Nat} (h : ¬ a = b) : @Ne Addr a b := h
/-- five cells that lie apart, from n on -/
structure Cells5 (n : Nat) (k1 k2 : Kd) : Prop where
  lo1 : k1.lo n
  lo2 : k2.lo n
theorem Kd.lo_ne {k : Kd} {n : Nat} (h : k.lo n) (a : Nat) (e : k = .l a ∨ k = .t a) : a < n := by
  rcases e with rfl | rfl <;> exact h
theorem sep5 {X : Cx} {A : Around} {k1 k2 : Kd} {n : Nat} {t1 t2 : Tok} {xs ys : List V} {fp1 fp2 : List Addr} {P1 P2 : Nat → Value → Prop} {S1 S2 : Nat → Heap → Prop} (c : Cells5 n k1 k2)
    (d1 : Kd.Drw X A k1 n t1 xs fp1 P1 S1) (d2 : Kd.Drw X A k2 (n + 1) t2 ys fp2 P2 S2) : ZipSep2 (n + 4) (n + 2) (n + 3) n (n + 1) fp1 fp2 := by
  have o1 : ∀ b : Nat, b ∈ fp1 → b ≤ n := fun b hb => by
    rcases d1.lo b hb with rfl | ⟨a, rfl, e⟩
    · exact Nat.le_refl _
    · exact Nat.le_of_lt (Kd.lo_ne c.lo1 _ e)
  have o2 : ∀ b : Nat, b ∈ fp2 → b = n + 1 ∨ b < n := fun b hb => by
    rcases d2.lo b hb with rfl | ⟨a, rfl, e⟩
    · exact .inl rfl
    · exact .inr (Kd.lo_ne c.lo2 _ e)
  exact ⟨ad (by omega), ad (by omega), ad (by omega), ad (by omega), d1.mem, fun z => by have := o1 (n + 4) z; omega, fun z => by have := o1 (n + 3) z; omega, ad (by omega), d2.mem,
    fun z => by have := o2 (n + 4) z; omega, fun z => by have := o2 (n + 3) z; omega, fun z => by have := o2 n z; omega, fun z => by have := o1 (n + 1) z; omega⟩
section
variable {X : Cx} {pins : List (Addr × Obj)} {σ : St} {H : Hp} {s : Shared}
theorem Kd.begins {k : Kd} {xs : List V} {u : Value} (I : Inv X pins σ H s) (h : k.has X.K H xs) (r : RelV k.val u) : ∃ (o : Obj) (G : Heap → Prop) (tk : Tok), Begins u o G ∧ G s.heap ∧ k.lo s.heap.objs.size ∧ ∀ n h', h'.get? n = some o → k.at n tk 0 h' := by
  cases k with
  | l a =>
    obtain ⟨its, rv, p, _⟩ := I.list h
    cases r
    exact ⟨_, _, 0, begins_list a its.toArray, p.isList, p.lt, fun n h' e => ⟨_, e, rfl, rfl⟩⟩
  | t a =>
    obtain ⟨its, rv, p, _⟩ := I.tuple h
    cases r
    have p : s.heap.IsTuple a its.toArray := p
    obtain ⟨o, e, _⟩ := id p
    exact ⟨_, _, 0, begins_tuple a its.toArray, p, Heap.lt_size e, fun n h' e => ⟨_, e, rfl, rfl⟩⟩
  | s z =>
    obtain ⟨tk, rfl⟩ := r
    exact ⟨_, _, tk, begins_text z tk, trivial, trivial, fun n h' e => ⟨_, e, rfl, rfl⟩⟩
end
def kdOf : D → V → Option Kd
  | .lst _, .ref a => some (.l a)
  | .arg _, .ref a => some (.l a)
  | .tup _, .ref a => some (.t a)
  | .str z, _ => some (.s z)
  | _, _ => none
section
variable {K : PySem.W.Frag} {P0 : Pr} {O W : List Nat} {ρ ρ' : Env} {σ σ' : St} {H H' Hs : Hp} {h h2 : Hd} {d d2 : D} {v : V}
/-- a datum that is walked: its kind and the items' values -/
theorem RepW.kd {ds : List D} {P : Pr} (r : RepW K H d P v) (e : itD d = .ok ds) : ∃ k vs, v = Kd.val k ∧ k.has K H vs ∧ Reps K H ds P vs ∧ kdOf d v = some k := by
  cases d <;> simp only [itD, R.ok.injEq, reduceCtorEq] at e
  · subst e
    rename_i z
    obtain rfl := r.str
    refine ⟨.s z, strV z, rfl, rfl, ?_, rfl⟩
    unfold strV
    generalize z.cps.toList = l
    induction l with
    | nil => exact Reps.nil
    | cons c l ih => exact Reps.cons (by unfold Rep; rfl) ih
  · subst e
    obtain ⟨a, vs, rfl, t1, t2⟩ := r.tup
    exact ⟨.t a, vs, rfl, SqT.of t1, t2, rfl⟩
  · subst e
    obtain ⟨a, vs, rfl, t1, t2⟩ := r.lst
    exact ⟨.l a, vs, rfl, SqL.of t1, t2, rfl⟩
  · subst e
    obtain ⟨a, rfl, t1⟩ := r.arg
    exact ⟨.l a, _, rfl, t1, reps_ints _, rfl⟩
/-- .. from what holds of it -/
theorem Hold.kd {ds : List D} {k : Kd} (S : Sim K P0 O W ρ σ H) (o : Hold K O h d v P0 ρ σ H) (e : itD d = .ok ds) (ek : kdOf d v = some k) : ∃ vs, k.has K H vs ∧ Reps K H ds (FA P0 O σ) vs := by
  obtain ⟨k', vs, _, h1, h2, h3⟩ := (o.rep S).kd e
  rw [ek] at h3; cases h3
  exact ⟨vs, h1, h2⟩
end
def zipGD (x y : D) : R (List D) := do
  let xs ← itD x
  let ys ← itD y
  pure (pairsD xs ys)
theorem zipGD_ok {x y : D} {ps : List D} (h : zipGD x y = .ok ps) : ∃ xs ys, itD x = .ok xs ∧ itD y = .ok ys ∧ ps = pairsD xs ys := by
  obtain ⟨xs, e1, h⟩ := R.ok_of h
  obtain ⟨ys, e2, h⟩ := R.ok_of h
  cases h
  exact ⟨xs, ys, e1, e2, rfl⟩
section
variable {X : Cx} {P0 : Pr} {O W : List Nat} {E : EK} {a b c e tg : Expr} {es : List Expr} {ma mb mc : EM} {ms : AM} {pos : Pos}
end
section
variable {ρ : Y.Env}
@[simp] theorem d_zipG {x y : D} : zipGD x y = (itD x >>= fun xs => itD y >>= fun ys => R.ok (pairsD xs ys)) := id rfl
end
def IteG (K : PySem.W.Frag) (k : Kd) : It :=
  ⟨fun i H => ∃ xs x, k.has K H xs ∧ xs[i]? = some x, fun i H v H' => ∃ T x, v = .ref T ∧ H T = none ∧ H' = upd H T (.tup [.int (i : Nat), x]) ∧ ∀ xs, k.has K H xs → xs[i]? = some x, fun i H => ∃ xs, k.has K H xs ∧ i = xs.length⟩
abbrev fp2 (n : Nat) : List Addr := [n + 1, n]
def tnE (n : Nat) (t : Tok) (k : Kd) (i : Nat) (h : Heap) : Prop := (∃ old, IsEnum h (n + 1) n ((i : Nat) : Int) old) ∧ k.at n t i h
theorem turn_enumG {P : Program} {w : World} {K : PySem.W.Frag} {elts : List Expr} {kk : Nat} {tpos : Pos} {k : Kd} {n : Nat} {t : Tok} (c : k.lo n) :
    Turn P w K (.Tuple elts kk tpos) (IteG K k) (fp2 n) (n + 1) (tnE n t k) where
  mem := by simp
  obj := fun i h ⟨⟨old, he⟩, q1⟩ b hb => by
    have hb : b = n + 1 ∨ b = n := by simpa using hb
    rcases hb with rfl | rfl
    · exact ⟨_, he, fun v q => nomatch q⟩
    · exact Kd.at_ob q1
  keep := fun i h h' ⟨⟨old, he⟩, q1⟩ k => ⟨⟨old, k _ (by simp) _ he⟩, Kd.at_k q1 (k _ (by simp))⟩
  item := by
    intro X hP hw hK hc i pins s σ H E I hf ⟨⟨old, he⟩, q1⟩ ⟨xs, x, g1, ex⟩
    subst hP hw hK
    have hh : X.A.in1.handled = none := by simp [I.ok.hd hc]
    obtain ⟨fp1, P1, S1, d1, s1⟩ := Kd.draw (A := X.A.in1) hh I g1 (fun a e => ad (by have := Kd.lo_ne c a e; omega)) q1
    have hel : n + 1 < s.heap.objs.size := Heap.lt_size he
    have hef : n + 1 ∉ fp1 := fun z => by
      rcases d1.lo _ z with e | ⟨a, e, e2⟩
      · have e : n + 1 = n := e
        omega
      · have := Kd.lo_ne c a e2
        have e : n + 1 = a := e
        omega
    refine wpAny_pyNext_enum_itemD d1.dr he s1 (List.getElem?_eq_some_iff.mp ex).1 (ad (by omega)) hef fun u h' tk p1 ho s1' hT hsz hk => ?_
    obtain ⟨x', ex', r1⟩ := d1.item _ _ p1
    rw [ex] at ex'; cases ex'
    refine ⟨_, rfl, wpAny_letOwnedTupleGo_enum (s := { s with heap := h', toks := tk + 1 }) ho fun h2 he2 sb => ?_⟩
    have hT2 : h2.get? s.heap.objs.size = some { cls := .type "tuple", data := .seq #[.int i tk, u] } := (sb.2 _ (ad (by omega))).trans hT
    have new : ObjOk X.prog X.w (upd H s.heap.objs.size (.tup [.int (i : Nat), x])) h2 s.heap.objs.size (.tup [.int (i : Nat), x]) := ⟨by show 2 ≤ sizeLine; decide, [.int i tk, u], .cons ⟨_, rfl⟩ (.cons r1 .nil), ⟨_, hT2, rfl, _, rfl⟩⟩
    have I1 : Inv X pins σ (upd H s.heap.objs.size (.tup [.int (i : Nat), x])) { s with heap := h2, toks := tk + 1 } :=
      I.turnedNew (t' := tk + 1) (ch := fp2 n) (fun b o hb q => (sb.2 b fun e => hb (by simp [e])).trans (hk b o (fun e => hb (by simp [e])) (fun e => hb (by simp [e])) q)) hf (Nat.le_refl _) new
    refine ⟨.ref s.heap.objs.size, _, I1, rfl, ⟨_, x, rfl, I.hok.fresh (Nat.le_refl _), rfl, fun l hl => by rw [Kd.inj I hl g1]; exact ex⟩, ⟨⟨u, ?_⟩, ?_⟩, fun b hb => ?_⟩
    · have e1 : ((i + 1 : Nat) : Int) = (i : Int) + 1 := by omega
      rw [e1]; exact he2
    · exact Kd.at_k (d1.back _ _ s1') fun o q => (sb.2 _ (ad (by omega))).trans q
    · have hb' : b = n + 1 ∨ b = n := by simpa using hb
      rw [upd_ne (by rcases hb' with e | e <;> (rw [e]; exact ad (by omega)))]
      exact (hf b hb).1
  done := by
    intro X hP hw hK hc i pins s σ H E I hf ⟨⟨old, he⟩, q1⟩ ⟨xs, g1, ei⟩
    subst hP hw hK
    have hh : X.A.in1.handled = none := by simp [I.ok.hd hc]
    obtain ⟨fp1, P1, S1, d1, s1⟩ := Kd.draw (A := X.A.in1) hh I g1 (fun a e => ad (by have := Kd.lo_ne c a e; omega)) q1
    subst ei
    exact wpAny_pyNext_enum_endD d1.dr he s1 fun h' eb => ⟨rfl, I.turnedL (t' := s.toks) (ch := fp2 n) (fun b o hb q => eb b o (fun e => hb (by simp [e])) q) hf⟩
  self := fun A i s Q E ⟨⟨_, he⟩, _⟩ h => wpAny_pyIter_enum he h
open AutoSeq1 (wpAny_loadPart') in
set_option maxHeartbeats 1000000 in
theorem enum_newT (b : Addr) (ys : Array Value) (m : Nat) (dd : Option Addr) (sl : Array (Option Value)) : Meets (Builtin.«enumerate.__new__» ⟨[.type "enumerate", .ref b], []⟩) (fun _ R s => s.heap.get? b = some { cls := .type "tuple", dict := dd, data := .seq ys m, slots := sl } ∧
    R (.ok (.ret (.ref (s.heap.push { cls := .type "tuple_iterator", data := .fields #[.ref b, .int 0 0] }).objs.size))) { s with heap := (s.heap.push { cls := .type "tuple_iterator", data := .fields #[.ref b, .int 0 0] }).push { cls := .type "enumerate", data := .fields #[.none, .bool false, .ref s.heap.objs.size, rawInt 0, .none, .none] } }) :=
  .of_wp fun prog w A R s ⟨hb, q⟩ => by
    obtain ⟨hp, g, d, tk, os⟩ := s
    have z1 := sub_enumerate
    have hT : Heap.IsTuple (Shared.heap ⟨hp, g, d, tk, os⟩) b ys := ⟨_, hb, rfl, m, rfl⟩
    wp_walk using wpAny_loadPart' hb
    refine wpAny_stack_any fun st => wpAny_pure ?_
    split
    · rename_i c _ _ _ _ _
      cases (c == Value.type "enumerate") <;> (wp_walk using wpAny_loadPart' hb, wpAny_pyIter_tuple hT; exact ⟨_, rfl, q⟩)
    · wp_walk using wpAny_loadPart' hb, wpAny_pyIter_tuple hT
      exact ⟨_, rfl, q⟩
theorem call_enumT {prog : Program} {w : World} {A : Around} {E : Value → Shared → Prop} {s : Shared} {b : Addr} {ys : Array Value} {Q : Value → Shared → Prop} (hT : s.heap.IsTuple b ys)
    (q : ∀ h', IsEnum h' (s.heap.objs.size + 1) s.heap.objs.size 0 .none → h'.IsTupleIter s.heap.objs.size b 0 → (∀ c o, s.heap.get? c = some o → h'.get? c = some o) → Q (.ref (s.heap.objs.size + 1)) { s with heap := h' }) :
    wpAny (model prog w) A (call (.type "enumerate") [.ref b]) Q E s := by
  obtain ⟨⟨cls, dd, data, sl⟩, hb, ec, m, ed⟩ := hT
  simp only at ec ed
  subst ec ed
  refine callType_new F.called_enumerate (by decide) (F.typeCall_enumerate_1 _) (F.newCall_enumerate_1 _) (fun obj => F.args_object_init_2 obj _) F.entry_enumerate_new (enum_newT b ys m dd sl) ⟨hb, ?_⟩
  have hz : (s.heap.push { cls := .type "tuple_iterator", data := .fields #[.ref b, .int 0 0] }).objs.size = s.heap.objs.size + 1 := Heap.size_push ..
  have he : IsEnum ((s.heap.push { cls := .type "tuple_iterator", data := .fields #[.ref b, .int 0 0] }).push { cls := .type "enumerate", data := .fields #[.none, .bool false, .ref s.heap.objs.size, rawInt 0, .none, .none] }) (s.heap.objs.size + 1) s.heap.objs.size 0 .none := by
    rw [← hz]
    exact Heap.get?_push_size _ rfl
  show _ ∧ _
  rw [hz]
  exact ⟨⟨_, he, rfl⟩, q _ he ⟨_, Heap.get?_push_of_some _ (Heap.get?_push_size _ rfl), rfl, rfl⟩ fun c o x => Heap.get?_push_of_some _ (Heap.get?_push_of_some _ x)⟩
section
variable {X : Cx} {P0 : Pr} {O W : List Nat} {E : EK} {a b c e tg : Expr} {es : List Expr} {ma mb mc : EM} {ms : AM} {pos : Pos}
def iEnumG (K : PySem.W.Frag) (ta : TA) : TI := fun σ H R => ta σ H fun vs H1 => ∃ k xs, vs = [Kd.val k] ∧ k.has K H1 xs ∧ R (IteG K k) H1
theorem pi_enumG {ta : TA} {p tpos : Pos} {elts : List Expr} {kk : Nat} (hg : Gl X "enumerate") (hm : X.mg "enumerate" = none) (ha : PA X [e] ta) (hs : starEach [e] X.env = [(false, eval e X.env)] := by rfl) :
    PI X (.Tuple elts kk tpos) (.Call (.Name "enumerate" p) [e] [] pos) (iEnumG X.K ta) := ⟨fun pins s σ H R I h =>
  Call_ (ld_blt I hg hm boot_enumerate (PyProof.Rows.callWith_type1 (thn (ha.run pos pins s σ H _ I h) fun us s1 ⟨vs, H1, I1, r1, q1⟩ => by
    obtain ⟨k, xs, ex, h1, q⟩ := q1
    subst ex
    obtain ⟨u, rfl, r2⟩ := vals1 r1
    have fin : ∀ (tk : Tok) (h' : Heap), k.lo s1.heap.objs.size → IsEnum h' (s1.heap.objs.size + 1) s1.heap.objs.size 0 .none → k.at s1.heap.objs.size tk 0 h' → (∀ c o, s1.heap.get? c = some o → h'.get? c = some o) → PIE X pins σ (.Tuple elts kk tpos) R (.ref (s1.heap.objs.size + 1)) { s1 with heap := h' } := fun tk h' lo he hit hk =>
      ⟨s1.heap.objs.size + 1, fp2 s1.heap.objs.size, tnE s1.heap.objs.size tk k, _, H1, rfl, I1.kept (t' := s1.toks) hk, turn_enumG lo, ⟨⟨.none, he⟩, hit⟩, fun b hb => by
        have hb' : b = s1.heap.objs.size + 1 ∨ b = s1.heap.objs.size := by simpa using hb
        have le : s1.heap.objs.size ≤ b := by rcases hb' with e | e <;> (rw [e]; first | exact Nat.le_refl _ | exact Nat.le_add_right _ _)
        exact I1.fpOk le (I1.hok.fresh le), q⟩
    cases k with
    | l a =>
      obtain ⟨its, rv, p, _⟩ := I1.list h1
      cases r2
      exact call_enumerate_list p.isList fun h' he hit hsz hk => wpAny_pyIter_enum he (fin 0 h' p.lt he hit hk)
    | t a =>
      obtain ⟨its, rv, p, _⟩ := I1.tuple h1
      cases r2
      have p : s1.heap.IsTuple a its.toArray := p
      obtain ⟨o, e, _⟩ := id p
      exact call_enumT p fun h' he hit hk => wpAny_pyIter_enum he (fin 0 h' (Heap.lt_size e) he hit hk)
    | s z =>
      obtain ⟨tk, rfl⟩ := r2
      exact call_enumerate_str fun h' he hit hsz hk => wpAny_pyIter_enum he (fin tk h' trivial he hit hk)) hs rfl))⟩
def numD (ds : List D) : List D := pairsD ((List.range ds.length).map fun i => D.int (i : Nat)) ds
section
variable {K : PySem.W.Frag} {ρ ρ' : Env} {σ σ' : St} {H H' Hs : Hp} {h h2 : Hd} {d d2 : D} {v : V}
theorem src_enumG {k : Kd} {ds : List D} (hd : itD d = .ok ds) (e1 : kdOf d v = some k) : Src K O W (numD ds) h.ws (IteG K k) (Hold K O h d v) where
  go := fun P0 i ρ σ H S ok hi => by
    obtain ⟨vs, a1, a2⟩ := ok.kd S hd e1
    unfold numD at hi
    rw [pairsD_len, ← a2.length] at hi
    have hi : i < vs.length := by simpa using hi
    exact ⟨vs, vs[i], a1, List.getElem?_eq_getElem hi⟩
  stop := fun P0 ρ σ H S ok => by
    obtain ⟨vs, a1, a2⟩ := ok.kd S hd e1
    exact ⟨vs, a1, by unfold numD; rw [pairsD_len, ← a2.length]; simp⟩
  yld := fun P0 i ρ σ H x H' d S ok hq y => by
    obtain ⟨vs, a1, a2⟩ := ok.kd S hd e1
    have hi := (List.getElem?_eq_some_iff.mp hq).1
    unfold numD at hi hq
    rw [pairsD_len] at hi
    have hi : i < ds.length := by simpa using hi
    obtain ⟨x1, y1, q1, q2, rfl⟩ := pairsD_get hq
    obtain ⟨v2, q4, r2⟩ := a2.get q2
    obtain ⟨T, u, rfl, hT, rfl, e3⟩ := y
    have e3 := e3 _ a1
    rw [q4] at e3; cases e3
    rw [List.getElem?_map, List.getElem?_range hi] at q1
    cases q1
    exact pair_rep S.dom hT (by unfold Rep; rfl) r2
  keep := fun P0 ρ σ H ρ' σ' H' S k w hw ok => ok.keep S k w hw
  mem := fun P0 ρ σ H ok => ok.mem
  grow := fun P0 P1 ρ σ H H' S w k ok => ok.grow S w k
end
def cEnumG (m : AM) : IM := fun ρ => do
  let (hs, ρ1) ← m ρ
  match hs with
  | [h] => do
    let x ← (h.d ρ1).nox
    let ds ← (itD x).nox
    if szOk (numD ds).length = true then pure ((numD ds, h.ws), ρ1) else .stk
  | _ => .stk
theorem ci_enumG {p tpos : Pos} {elts : List Expr} {kk : Nat} (hm : X.mg "enumerate" = none) (ha : CA X P0 O W E [a] ms) (hg : Gl X "enumerate" := by rfl) (hs : starEach [a] X.env = [(false, eval a X.env)] := by rfl) :
    CI X P0 O W E (.Tuple elts kk tpos) (.Call (.Name "enumerate" p) [a] [] pos) (cEnumG ms) := PI.imp (pi_enumG hg hm ha hs) fun σ H _ ⟨ρ, S, h⟩ => by
  refine ⟨ρ, S, h.of_bind.mono fun ⟨hs, ρ1⟩ q vs H1 S1 k1 r1 => ?_⟩
  match hs, r1, q with
  | [h], r1, q =>
    obtain ⟨v, ws, rfl, t1, t2⟩ := r1
    have t2 : ws = [] := t2
    subst t2
    obtain ⟨x, ex, q1⟩ := Res.of_nox (show Res E W σ H ((h.d ρ1).nox >>= _) _ from q)
    obtain ⟨ds, e1, q3⟩ := q1.of_nox
    clear q q1
    by_cases c : szOk (numD ds).length = true
    · rw [if_pos c] at q3
      obtain ⟨c1, vs1, rfl, f1, _, g1⟩ := (t1.d S1 ex).kd e1
      exact ⟨c1, vs1, rfl, f1, q3 _ H1 _ S1 k1 (src_enumG e1 g1) (t1.hold ex) (of_decide_eq_true c)⟩
    · rw [if_neg c] at q3
      exact q3.elim
  | [], _, q => exact q.elim
  | _ :: _ :: _, _, q => exact q.elim
end
section
variable {ρ : Y.Env}
@[simp] theorem e_enumG {m : AM} : cEnumG m ρ = (m ρ >>= fun p => match p.1 with | [h] => ((h.d p.2).nox >>= fun x => (itD x).nox >>= fun ds => if szOk (numD ds).length = true then R.ok ((numD ds, h.ws), p.2) else .stk) | _ => .stk) := by
  unfold cEnumG; congr
@[simp] theorem numD_len {ds : List D} : (numD ds).length = ds.length := by unfold numD; rw [pairsD_len]; simp
end
end Y

set_option Elab.async false
set_option linter.all false
set_option maxRecDepth 100000
namespace Y
open PySem PySem.Spec PyProof.Rows L2
abbrev veB : List Value := [.type "ValueError", .type "Exception", .type "BaseException", .type "object"]
structure ErrT (K : PySem.W.Frag) (mg : Str → Option Value) (x : Str) : Prop where
  ex : ∃ C, mg x = some (.ref C) ∧ PySem.W.excIn K C veB "ValueError.__new__" = true ∧ PySem.W.keepIn K (.ref C) = true ∧ PySem.W.subIn K (.ref C) (.type "BaseException") = some true ∧ PySem.W.typeIn K (.ref C) = some (.type "type")
def sRaise (c : Str) : SM := fun _ => .er c []
section
variable {K : PySem.W.Frag} {X : Cx} {P0 : Pr} {O W U : List Nat} {E : EK} {XE : XK} {e : Expr} {ma : EM} {pos : Pos}
theorem cs_raise {x m : Str} {j : Nat} {p p2 q pos : Pos} (T : ErrT X.K X.mg x) (hc : X.calm = true) (tk : L2N.Takes X fun cls d _ H => XE cls d H) (hg : Gl X x := by rfl) (hdb : (x == ("__debug__" : Str)) = false := by decide) :
    CS X P0 O W U (exE X.mg XE) (.Raise (some (.Call (.Name x p) [.Constant (.str m) j p2] [] q)) none pos) (sRaise x) := by
  obtain ⟨C, gC, q, kC, b, t⟩ := T.ex
  refine PS.imp (L2N.ps_raise hc tk (L2N.pmk_own PySem.F.excBase_ValueError q gC kC (raises_own b t) hg hdb)) fun D σ H ⟨ρ, S, h⟩ => ?_
  obtain ⟨_, C', e1, e2⟩ := h H (Keep.refl)
  rw [gC] at e1; cases e1
  exact e2
end
@[simp] theorem e_raise {c : Str} {ρ : Y.Env} : sRaise c ρ = .er c [] := id rfl
end Y

set_option Elab.async false
set_option linter.all false
set_option maxRecDepth 100000
namespace Y
open PySem PySem.Spec PyProof.Rows L2
abbrev setO0 (w : World) : Obj := { cls := .type "set", dict := none, data := .set #[] 0 (.fresh 0 0 (!w.params.followText "set-order")) }
section
variable {P : Program} {w : World} {A : Around} {E : Value → Shared → Prop} {s : Shared}
set_option maxHeartbeats 3200000 in
theorem set_ofL {l : Addr} {ys : Array Value} (ns : List Int) {Q : Value → Shared → Prop} (hh : A.handled = none) (hl : s.heap.IsList l ys) (hi : IntsAre ys.toList ns) (hb : ns.length + 1 < scanBound)
    (q : ∀ (h' : Heap) (tk c : Nat), SetR w h' s.heap.objs.size (fun j => decide (j ∈ ns)) c → c ≤ ns.length → (∀ b o, s.heap.get? b = some o → h'.get? b = some o) → Q (.ref s.heap.objs.size) { s with heap := h', toks := tk }) :
    wpAny (model P w) A (call (.type "set") [.ref l]) Q E s := by
  have zy : ys.size = ns.length := by
    have z := IntsAre.length hi
    rwa [Array.length_toList] at z
  obtain ⟨_, _, z0⟩ := F.called_set.mro
  have z1 := F.called_set.made
  have z2 := F.called_set.sub
  refine wpAny_call (codeAny_of_tree (show wpAny _ _ (callAny (.type "set") _) _ _ _ from ?_))
  refine wpAny_pure ⟨Code.quiet_builtin _ (by decide +kernel), codeAny_builtin (F.entry_type_call) (?_)⟩
  rw [Around.under_plain (weight_type_call_type "set" [.ref l] []) (rfl)]
  have z3 := F.called_set.notType
  have z4 := F.called_set.canCreate
  have z5 := F.typeCall_set_1 (.ref l)
  repeat (any_goals (first | wp_step | assumption))
  refine codeAny_mono (code_set_led1 (.ref l) (E := E) (Q₁ := fun obj t => obj = .ref s.heap.objs.size ∧ t = { s with heap := s.heap.push (setO0 w) }) ⟨rfl, rfl⟩) fun r t hr => ?_
  cases r with
  | error e => exact hr
  | ok fl =>
    cases fl with
    | ret obj =>
      obtain ⟨e1, e2⟩ := hr
      subst e1 e2
      have gS : (s.heap.push (setO0 w)).get? s.heap.objs.size = some (setO0 w) := Heap.get?_push_size _ rfl
      have tS : Shared.TypeIs { s with heap := s.heap.push (setO0 w) } (.ref s.heap.objs.size) "set" := ⟨_, gS, rfl⟩
      have z6 := F.called_set.init.lookup
      have z7 := F.called_set.init.bind (.ref s.heap.objs.size)
      repeat (any_goals (first | wp_step | assumption))
      refine codeAny_mono (codeAny_call_builtin (R := wants (fun r t => r = .none ∧ ∃ h' tk c, t = { s with heap := h', toks := tk } ∧ SetR w h' s.heap.objs.size (fun j => decide (j ∈ ns)) c ∧ c ≤ ns.length ∧ ∀ b o, s.heap.get? b = some o → h'.get? b = some o) E) F.called_set.init.plain F.entry_set_init (check_set_init_1 tS ?_)) fun r2 t2 hr2 => ?_
      · obtain ⟨⟨cls, od, data, os⟩, ho, ec, m, ed⟩ := hl
        simp only at ec ed
        subst ec ed
        have ho1 : (s.heap.push (setO0 w)).get? l = some { cls := .type "list", dict := od, data := .seq ys m, slots := os } := Heap.get?_push_of_some _ ho
        have z8 := F.sub_list_set
        have z9 := F.sub_list_frozenset
        have za : (Value.type "list" == Value.type "dict") = false := by decide
        have hl1 : (s.heap.push (setO0 w)).IsList l ys := ⟨_, ho1, rfl, m, rfl⟩
        unfold Builtin.«set.__init__» noKeywords Builtin.Frozenset.updateFrom
        generalize hp : pyIter = p
        wp_walk
        subst hp
        refine wpAny_pyIter_list hl1 (wpAny_bind (wpAny_runValue ?_))
        have ls : l < s.heap.objs.size := Heap.lt_size ho
        have h3 : A.in1.in1.in1.handled = none := by simp [hh]
        have zp : (s.heap.push (setO0 w)).objs.size = s.heap.objs.size + 1 := Heap.size_push ..
        have ne : l ≠ (s.heap.push (setO0 w)).objs.size := by rw [zp]; exact Nat.ne_of_lt (Nat.lt_succ_of_lt ls)
        have nf : s.heap.objs.size ∉ [(s.heap.push (setO0 w)).objs.size, l] := by
          rw [zp]
          intro z
          rcases List.mem_cons.mp z with z | z
          · exact Nat.ne_of_lt (Nat.lt_succ_self _) z
          · exact Nat.ne_of_gt ls (by simpa using z)
        have hv : ∀ (i : Nat) (v : Value), ys[i]? = some v → ∃ k t, ns[i]? = some k ∧ v = .int k t := fun i v e => by
          have lt : i < ns.length := by rw [← zy]; exact (Array.getElem?_eq_some_iff.mp e).1
          obtain ⟨t, e2⟩ := IntsAre.int_at hi i v (by rw [Array.getElem?_toList]; exact e)
          exact ⟨ns[i], t, List.getElem?_eq_getElem lt, by rw [e2, List.getD_eq_getElem?_getD, List.getElem?_eq_getElem lt]; rfl⟩
        refine set_update_ints ((Walks.list h3 _ l ne ys).toS) s.heap.objs.size nf ns zy hb hv (ys.size - 0) 0 _ (by omega) (Nat.zero_le _) ⟨⟨_, Heap.get?_push_size _ rfl, rfl, rfl⟩, (hl1.push _)⟩ ?ha ?hb
        case ha =>
          have g2 : ((s.heap.push (setO0 w)).push { cls := .type "list_iterator", data := .fields #[.ref l, .int 0 0] }).get? s.heap.objs.size = some (setO0 w) := Heap.get?_push_of_some _ gS
          exact ⟨0, Nat.le_refl 0, setR_new_at g2⟩
        case hb =>
          intro t c mv lc hS
          obtain ⟨h', g2, d2, tk2, o2⟩ := t
          have e1 : g2 = s.gens := mv.gens
          have e2 : d2 = s.drawn := mv.drawn
          have e3 : o2 = s.os := mv.os
          subst e1 e2 e3
          refine wpAny_pure (show wpAny _ _ (ret Value.none) _ _ _ from ?_)
          rw [zy] at lc
          refine wpAny_pure ⟨rfl, h', tk2, c, rfl, hS, lc, fun b o e => ?_⟩
          have b0 : b < s.heap.objs.size := Heap.lt_size e
          refine mv.heap b o (fun z => ?_) (Heap.get?_push_of_some _ (Heap.get?_push_of_some _ (e)))
          rcases List.mem_cons.mp z with z | z
          · exact Nat.ne_of_lt b0 z
          · have z : b = (s.heap.push (setO0 w)).objs.size := by simpa using z
            rw [zp] at z
            exact Nat.ne_of_lt (Nat.lt_succ_of_lt b0) z
      · cases r2 with
        | error e => exact hr2
        | ok fl2 =>
          cases fl2 with
          | ret r =>
            obtain ⟨e1, h', tk, c, e2, hS, lc, hk⟩ := hr2
            subst e1 e2
            repeat (any_goals (first | wp_step | assumption))
            exact q _ _ _ hS lc hk
          | _ => exact hr2.elim
    | _ => exact hr.elim
end
end Y

set_option Elab.async false
set_option linter.all false
set_option maxRecDepth 100000
namespace Y
open PySem PySem.Spec PyProof.Rows L2
def dedupI : List Int → List Int
  | [] => []
  | x :: xs => if x ∈ xs then dedupI xs else x :: dedupI xs
@[simp] theorem mem_dedupI : ∀ {xs : List Int} {k : Int}, k ∈ dedupI xs ↔ k ∈ xs
  | [], k => by simp [dedupI]
  | x :: xs, k => by
    unfold dedupI
    split
    · rename_i h
      rw [mem_dedupI, List.mem_cons]
      exact ⟨.inr, fun z => z.elim (fun z => z ▸ h) id⟩
    · rw [List.mem_cons, mem_dedupI, List.mem_cons]
theorem nodup_dedupI : ∀ {xs : List Int}, (dedupI xs).Nodup
  | [] => by simp [dedupI]
  | x :: xs => by
    unfold dedupI
    split
    · exact nodup_dedupI
    · rename_i h
      exact List.nodup_cons.mpr ⟨fun z => h (mem_dedupI.mp z), nodup_dedupI⟩
theorem dedupI_le : ∀ {xs : List Int}, (dedupI xs).length ≤ xs.length
  | [] => by simp [dedupI]
  | x :: xs => by
    have := dedupI_le (xs := xs)
    unfold dedupI
    split <;> simp <;> omega
theorem dedupI_of : ∀ {xs : List Int}, xs.Nodup → dedupI xs = xs
  | [], _ => rfl
  | x :: xs, h => by
    obtain ⟨h1, h2⟩ := List.nodup_cons.mp h
    unfold dedupI
    rw [if_neg h1, dedupI_of h2]
theorem card_eq {xs ys : List Int} (h1 : xs.Nodup) (h2 : ys.Nodup) (h : ∀ k, k ∈ xs ↔ k ∈ ys) : xs.Perm ys := (List.perm_ext_iff_of_nodup h1 h2).mpr h
def setI (xs : List Int) : List Int := sortI (dedupI xs)
theorem setI_mem {xs : List Int} {k : Int} : k ∈ setI xs ↔ k ∈ xs := by rw [setI, (sortI_perm _).mem_iff, mem_dedupI]
theorem setI_nodup {xs : List Int} : (setI xs).Nodup := (sortI_perm _).nodup_iff.mpr nodup_dedupI
theorem setI_lt {xs : List Int} : (setI xs).Pairwise (· < ·) := by
  have h1 : (setI xs).Pairwise (· ≤ ·) := sortI_pw _
  have h2 : (setI xs).Pairwise (· ≠ ·) := setI_nodup
  exact h1.imp₂ (fun a b h1 h2 => by omega) h2
theorem setI_of {xs ys : List Int} (h : ys.Pairwise (· < ·)) (m : ∀ k, k ∈ ys ↔ k ∈ xs) : ys = setI xs :=
  List.Perm.eq_of_pairwise (le := fun a b : Int => a < b) (fun a b _ _ h1 h2 => by omega) h setI_lt (card_eq (h.imp fun h => by omega) setI_nodup fun k => by rw [m, setI_mem])
theorem setI_len {xs : List Int} : (setI xs).length = (dedupI xs).length := (sortI_perm _).length_eq
def rSetOf (K : PySem.W.Frag) (w : World) : List V → Hp → VK → Prop := fun vs H Q => ∃ (l : Addr) (ns : List Int), vs = [V.ref l] ∧ (SqL K H l (ns.map V.int) ∨ SqT K H l (ns.map V.int)) ∧ ns.length ≤ 4000 ∧
  ∀ p, H p = none → Q (.ref p) (upd H p (SetO w p (fun j => decide (j ∈ ns)) (dedupI ns).length))
section
variable {X : Cx}
theorem setR_card {w : World} {h : Heap} {a : Addr} {ns : List Int} {c : Nat} (R : SetR w h a (fun j => decide (j ∈ ns)) c) : c = (dedupI ns).length := by
  obtain ⟨o, es, ep, t, ho, hx, hd, g, nd, hm, hb, hf, hn, _⟩ := R
  have := (card_eq nd (nodup_dedupI (xs := ns)) fun k => by rw [mem_dedupI, ← hm k]; simp).length_eq
  rw [← hn, ← this]
  simp
theorem cr_setOf (hc : X.calm = true) : CallR X (.type "set") (rSetOf X.K X.w) := by
  intro pins s σ H vs us Q I r ⟨l, ns, e0, hq, hz, q⟩
  subst e0
  rw [Vals.ref1 r]
  have fin : ∀ (h' : Heap) (tk c : Nat), SetR X.w h' s.heap.objs.size (fun j => decide (j ∈ ns)) c → (∀ b o, s.heap.get? b = some o → h'.get? b = some o) → EP X pins σ Q (.ref s.heap.objs.size) { s with heap := h', toks := tk } := fun h' tk c R k => by
    rw [setR_card R] at R
    exact ⟨.ref _, upd H s.heap.objs.size (SetO X.w s.heap.objs.size (fun j => decide (j ∈ ns)) (dedupI ns).length), I.laid (t' := tk) k (Nat.le_refl _) (setO_new R), rfl, q _ (I.hok.fresh (Nat.le_refl _))⟩
  have hb : ns.length + 1 < scanBound := by unfold scanBound; omega
  rcases hq with hq | hq
  · obtain ⟨its, rv, p, _⟩ := I.list hq
    exact set_ofL ns (I.ok.hd hc) p.isList (by simpa using rv.ints) hb fun h' tk c R _ k => fin h' tk c R k
  · obtain ⟨its, rv, p, _⟩ := I.tuple hq
    exact call_set_tupI ns (I.ok.hd hc) p (by simpa using rv.ints) hb fun h' tk c R _ k => fin h' tk c R k
def rLenSet (w : World) : List V → Hp → VK → Prop := fun vs H Q => ∃ (a : Addr) (S : Int → Bool) (n : Nat), vs = [V.ref a] ∧ H a = some (SetO w a S n) ∧ Q (.int n) H
theorem cr_lenSet : CallR X (.builtin "len") (rLenSet X.w) := by
  intro pins s σ H vs us Q I r ⟨a, S, n, e0, ha, q⟩
  subst e0
  rw [Vals.ref1 r]
  obtain ⟨o, es, ep, t, ho, hx, hd, g, nd, hm, hb, hf, hn, _⟩ := setO_get I ha
  exact call_len_set ho hx hd hf (by unfold scanBound at hb; omega) ⟨.int n, H, I.tok _, ⟨_, by rw [hn]⟩, q⟩
end
def seqI : D → Option (List Int)
  | .lst ds => intsOf ds
  | .tup ds => intsOf ds
  | .arg ns => some ns
  | _ => none
def cSetSort (m : EM) : EM := fun ρ => do
  let (h, ρ1) ← m ρ
  let d ← (h.d ρ1).nox
  match seqI d with
  | some ns => if ns.length ≤ 4000 ∧ (dedupI ns).length < 64 then pure (.fr (.lst ((setI ns).map D.int)), ρ1) else .stk
  | none => .stk
def cLenSet (m : EM) : EM := fun ρ => do
  let (h, ρ1) ← m ρ
  let d ← (h.d ρ1).nox
  match seqI d with
  | some ns => if ns.length ≤ 4000 then pure (.fr (.int (dedupI ns).length), ρ1) else .stk
  | none => .stk
section
variable {K : PySem.W.Frag} {X : Cx} {P0 : Pr} {O W : List Nat} {E : EK} {a e : Expr} {ma : EM} {pos : Pos}
theorem RepW.seqI {H : Hp} {d : D} {P : Pr} {v : V} {ns : List Int} (r : RepW K H d P v) (e : seqI d = some ns) : ∃ l, v = .ref l ∧ (SqL K H l (ns.map V.int) ∨ SqT K H l (ns.map V.int)) := by
  cases d <;> simp only [Y.seqI, reduceCtorEq, Option.some.injEq] at e
  · obtain ⟨l, vs, rfl, t1, t2⟩ := r.tup
    rw [ints_rep e t2] at t1
    exact ⟨l, rfl, .inr (SqT.of t1)⟩
  · obtain ⟨l, vs, rfl, t1, t2⟩ := r.lst
    rw [ints_rep e t2] at t1
    exact ⟨l, rfl, .inl (SqL.of t1)⟩
  · subst e
    obtain ⟨l, rfl, t1⟩ := r.arg
    exact ⟨l, rfl, .inl t1⟩
theorem ce_setSort {p p2 q : Pos} (hc : X.calm = true) (hm : X.mg "sorted" = none) (hm2 : X.mg "set" = none) (ha : CEx X P0 O W E a ma) (hg : Gl X "sorted" := by rfl) (hg2 : Gl X "set" := by rfl)
    (na : starEach [a] X.env = (false, eval a X.env) :: starEach [] X.env := by rfl) (n2 : starEach [.Call (.Name "set" p2) [a] [] q] X.env = (false, eval (.Call (.Name "set" p2) [a] [] q) X.env) :: starEach [] X.env := by rfl) :
    CEx X P0 O W E (.Call (.Name "sorted" p) [.Call (.Name "set" p2) [a] [] q] [] pos) (cSetSort ma) :=
  PE.imp (pe_callB (cr_sortedSet hc) hg hm bo_sorted (pa_cons (pe_callTy (cr_setOf hc) hg2 hm2 bo_set (pa_cons ha pa_nil na) (by decide) (by decide) na rfl) pa_nil n2) (by decide) (by decide) n2 rfl) fun σ H Q ⟨ρ, S, h⟩ => by
    refine ⟨ρ, S, h.of_bind.mono fun ⟨h1, ρ1⟩ q v H1 S1 k1 r1 => ?_⟩
    obtain ⟨d, e1, q⟩ := q.of_nox
    have rw1 := r1.d S1 e1
    have q : Res E W σ H (match seqI d with | some ns => if ns.length ≤ 4000 ∧ (dedupI ns).length < 64 then R.ok (Hd.fr (.lst ((setI ns).map D.int)), ρ1) else .stk | none => .stk) _ := q
    cases es : seqI d with
    | none => rw [es] at q; exact q.elim
    | some ns =>
      rw [es] at q
      simp only at q
      by_cases c : ns.length ≤ 4000 ∧ (dedupI ns).length < 64
      · rw [if_pos c] at q
        obtain ⟨l, rfl, hl⟩ := rw1.seqI es
        refine ⟨l, ns, rfl, hl, c.1, fun p hp => ?_⟩
        refine ⟨p, _, _, rfl, upd_same, c.2, fun ms p' pw mm lm hp' => ?_⟩
        have em : ms = setI ns := setI_of pw fun k => by rw [mm]; simp
        subst em
        have hpn : H1 p' = none := by
          by_cases z : p' = p
          · rw [z, upd_same] at hp'; cases hp'
          · rwa [upd_ne z] at hp'
        have sm : Same H1 (upd (upd H1 p (SetO X.w p (fun j => decide (j ∈ ns)) (dedupI ns).length)) p' (.lst ((setI ns).map V.int))) := fun b o e => by
          rw [upd_ne (ne_of_none e hpn), upd_ne (ne_of_none e hp)]; exact e
        refine out_of (K := X.K) S1 k1 q _ _ sm ?_ fun _ a e => by cases e; exact hpn
        unfold Rep
        exact ⟨p', _, rfl, fun z => (S1.dom p' z).some hpn, upd_same, reps_ints _⟩
      · rw [if_neg c] at q
        exact q.elim
theorem ce_lenSet {p p2 q : Pos} (hc : X.calm = true) (hm : X.mg "len" = none) (hm2 : X.mg "set" = none) (ha : CEx X P0 O W E a ma) (hg : Gl X "len" := by rfl) (hg2 : Gl X "set" := by rfl)
    (na : starEach [a] X.env = (false, eval a X.env) :: starEach [] X.env := by rfl) (n2 : starEach [.Call (.Name "set" p2) [a] [] q] X.env = (false, eval (.Call (.Name "set" p2) [a] [] q) X.env) :: starEach [] X.env := by rfl) :
    CEx X P0 O W E (.Call (.Name "len" p) [.Call (.Name "set" p2) [a] [] q] [] pos) (cLenSet ma) :=
  PE.imp (pe_callB cr_lenSet hg hm bo_len (pa_cons (pe_callTy (cr_setOf hc) hg2 hm2 bo_set (pa_cons ha pa_nil na) (by decide) (by decide) na rfl) pa_nil n2) (by decide) (by decide) n2 rfl) fun σ H Q ⟨ρ, S, h⟩ => by
    refine ⟨ρ, S, h.of_bind.mono fun ⟨h1, ρ1⟩ q v H1 S1 k1 r1 => ?_⟩
    obtain ⟨d, e1, q⟩ := q.of_nox
    have rw1 := r1.d S1 e1
    have q : Res E W σ H (match seqI d with | some ns => if ns.length ≤ 4000 then R.ok (Hd.fr (.int (dedupI ns).length), ρ1) else .stk | none => .stk) _ := q
    cases es : seqI d with
    | none => rw [es] at q; exact q.elim
    | some ns =>
      rw [es] at q
      simp only at q
      by_cases c : ns.length ≤ 4000
      · rw [if_pos c] at q
        obtain ⟨l, rfl, hl⟩ := rw1.seqI es
        refine ⟨l, ns, rfl, hl, c, fun p hp => ⟨p, _, _, rfl, upd_same, ?_⟩⟩
        exact out_of (K := X.K) S1 k1 q _ _ (Same.new hp) (by unfold Rep; rfl) fun z => by cases z
      · rw [if_neg c] at q
        exact q.elim
end
variable {ρ : Y.Env}
@[simp] theorem e_setSort {m : EM} : cSetSort m ρ = (m ρ >>= fun p => (p.1.d p.2).nox >>= fun d => match seqI d with | some ns => if ns.length ≤ 4000 ∧ (dedupI ns).length < 64 then R.ok (.fr (.lst ((setI ns).map D.int)), p.2) else .stk | none => .stk) := id rfl
@[simp] theorem e_lenSet {m : EM} : cLenSet m ρ = (m ρ >>= fun p => (p.1.d p.2).nox >>= fun d => match seqI d with | some ns => if ns.length ≤ 4000 then R.ok (.fr (.int (dedupI ns).length), p.2) else .stk | none => .stk) := id rfl
@[simp] theorem seqI_l {ns : List Int} : seqI (.lst (ns.map D.int)) = some ns := ints_map ns
@[simp] theorem seqI_t {ns : List Int} : seqI (.tup (ns.map D.int)) = some ns := ints_map ns
end Y

set_option Elab.async false
set_option linter.all false
set_option maxRecDepth 100000
namespace Y
open PySem PySem.Spec PyProof.Rows L2
section
variable {K : PySem.W.Frag} {X : Cx} {P0 : Pr} {O W U : List Nat} {E : EK} {a b e : Expr} {sts : List Stmt} {ma mb : EM} {pos : Pos}
theorem cs_stk : CSs X P0 O W U E sts (fun _ => .stk) := ⟨fun pins s σ H D I ⟨ρ, S, h⟩ => h.elim⟩
end
variable {ρ : Y.Env}
end Y

set_option Elab.async false
set_option linter.all false
set_option maxRecDepth 100000
namespace Y
open PySem PySem.Spec PyProof.Rows L2
theorem chkO_ws {O W : List Nat} {ρ : Y.Env} (h : (W.all fun i => O.contains i && shAt i ρ) = true) : chkO O W ρ ρ = .ok () := by
  unfold chkO
  rw [if_pos]
  intro j d e
  by_cases c : j ∈ W
  · have := List.all_eq_true.mp h j c
    rw [Bool.and_eq_true] at this
    obtain ⟨h1, h2⟩ := this
    unfold shAt at h2
    rw [e] at h2
    exact .inr (.inl ⟨by simpa using h1, h2⟩)
  · exact .inl ⟨e, c⟩
theorem nls_map {α : Type} {f : α → D} {xs : List α} (h : ∀ x ∈ xs, (f x).nl = true) : nls (xs.map f) = true := nls_all fun d hd => by
  obtain ⟨x, hx, rfl⟩ := List.mem_map.mp hd
  exact h x hx
end Y

set_option Elab.async false
set_option linter.all false
set_option maxRecDepth 100000
namespace Y
open PySem PySem.Spec PyProof.Rows L2
def cCallR (g : List D → R Hd) (m : AM) : EM := fun ρ => do
  let (hs, ρ1) ← m ρ
  let ds ← (dsOf hs ρ1).nox
  let h ← g ds
  match h with
  | .fr d => if d.nl = true then pure (.fr d, ρ1) else .stk
  | .vl d => if d.nl = true then pure (.vl d, ρ1) else .stk
  | .ow _ => .stk
section
variable {X : Cx} {P0 : Pr} {O W : List Nat} {E : EK} {XE : XK} {e : Expr} {es : List Expr} {ms : AM} {pos : Pos} {k np : Nat} {name : Str}
theorem reps_of_at {K : PySem.W.Frag} {H : Hp} {P : Pr} {ds : List D} {vs : List V} (hl : vs.length = ds.length) (h : ∀ (i : Nat) (d : D) (v : V), ds[i]? = some d → vs[i]? = some v → Rep K H d P v) : Reps K H ds P vs := Reps.of_get hl h
theorem tM_callR {g : List D → R Hd} (hE : ∀ c ds H, E c ds H → exE X.mg XE c ds H) (σ : St) (H : Hp) (Q : VK) (h : tM X.K P0 O W E (cCallR g ms) σ H Q) (hl : ALen ms np) : tCall (spD X.K X.mg np [] (pureF g)) [] XE (tMs X.K P0 O W E ms) σ H Q := by
  obtain ⟨ρ, S, h⟩ := h
  refine ⟨ρ, S, ?_⟩
  cases em : ms ρ with
  | stk => unfold cCallR at h; rw [em] at h; exact h.elim
  | er c ds => unfold cCallR at h; rw [em] at h; exact h
  | ok p =>
    obtain ⟨hs, ρ1⟩ := p
    unfold cCallR at h
    rw [em] at h
    intro vs H1 S1 k1 r1
    obtain ⟨ds, e1, q⟩ := Res.of_nox (show Res E W σ H ((dsOf hs ρ1).nox >>= _) _ from h)
    obtain ⟨dl, dg⟩ := dsOf_at e1
    have lv : vs.length = np := by rw [HdRs.len r1]; exact hl ρ hs ρ1 em
    have ld : ds.length = np := by rw [dl]; exact hl ρ hs ρ1 em
    rw [List.append_nil]
    generalize hP : (fun b => FA P0 O σ b ∧ ¬ ∃ (i : Nat), i ∈ O ∧ Hd.ow i ∈ hs ∧ σ[i]? = some (some (V.ref b)) : Pr) = P1
    have sub : ∀ b, P1 b → FA P0 O σ b := fun b z => by subst hP; exact z.1
    have rr : Reps X.K H1 ds P1 vs := reps_of_at (by rw [lv, ld]) fun i d v ed ev => by
      obtain ⟨h0, e2, r⟩ := HdRs.at r1 ev
      have hd := dg i h0 d e2 ed
      cases h0 with
      | fr d' => cases hd; exact r.1.less S1.dom sub
      | vl d' => cases hd; exact Rep.less S1.dom r sub
      | ow j =>
        obtain ⟨w, h1, h2⟩ := S1.own j d (look_some hd) r.1
        rw [r.2] at h1; cases h1
        refine h2.rep S1.dom sub fun a ea => ⟨fun z => ?_, .inr ⟨j, r.1, by rw [← ea]; exact r.2⟩⟩
        subst hP
        exact z.2 ⟨j, r.1, List.mem_of_getElem? e2, by rw [← ea]; exact r.2⟩
    refine ⟨lv, ds, P1, sim_args (fun b z => S1.dom b (sub b z)) rr, ld, ?_⟩
    have q := q.keep k1
    unfold pureF
    cases eg : g ds with
    | stk => rw [eg] at q; exact q.elim
    | er c xs =>
      rw [eg] at q
      exact fun H' kp => hE c xs H' (q H' (Keep.same kp.nil))
    | ok hd =>
      rw [eg] at q
      intro v H2 k2 _ r2
      have sm := Keep.nil k2
      cases hd with
      | ow j => exact q.elim
      | fr d =>
        have q : Res E W σ H1 (if d.nl = true then R.ok (Hd.fr d, ρ1) else .stk) _ := q
        by_cases c : d.nl = true
        · rw [if_pos c] at q
          refine q v H2 (S1.same sm) (k1.trans (Keep.same sm)) ⟨Rep.nl c r2.1, fun m => ?_⟩
          cases d <;> first | (simp [D.nl] at c; done) | (cases m; done)
        · rw [if_neg c] at q; exact q.elim
      | vl d =>
        have q : Res E W σ H1 (if d.nl = true then R.ok (Hd.vl d, ρ1) else .stk) _ := q
        by_cases c : d.nl = true
        · rw [if_pos c] at q
          have r2 : Rep X.K H2 d _ v := r2
          exact q v H2 (S1.same sm) (k1.trans (Keep.same sm)) (Rep.nl c r2)
        · rw [if_neg c] at q; exact q.elim
theorem ce_callR {g : List D → R Hd} {p : Pos} (G : Glo X.prog X.w X.K X.mg X.base name k np [] (pureF g)) (o : Out2 X E XE) (hr : Room k X.A) (ha : CA X P0 O W E (e :: es) ms) (hl : ALen ms np) (hg : Gl X name := by rfl) (hdb : (name == ("__debug__" : Str)) = false := by decide)
    (he : starEach (e :: es) X.env = (false, eval e X.env) :: starEach es X.env := by rfl) (hpl : (backTo pos (starEach es X.env)).any (·.1) = false := by rfl) : CEx X P0 O W E (.Call (.Name name p) (e :: es) [] pos) (cCallR g ms) := by
  obtain ⟨f, fd, ps, hm, hk, hb, _, F⟩ := G.ex
  exact PE.imp (pe_call F hr hg hm hk hb .nil o.pass ha hdb he hpl) fun σ H Q h => tM_callR o.ex σ H Q h hl
end
@[simp] theorem e_callR {g : List D → R Hd} {m : AM} {ρ : Y.Env} : cCallR g m ρ = (m ρ >>= fun p => (dsOf p.1 p.2).nox >>= fun ds => g ds >>= fun h => match h with | .fr d => (if d.nl = true then R.ok (.fr d, p.2) else .stk) | .vl d => (if d.nl = true then R.ok (.vl d, p.2) else .stk) | .ow _ => .stk) := by
  unfold cCallR; congr
end Y

set_option Elab.async false
set_option linter.all false
set_option maxRecDepth 100000
namespace Y.HR
open PySem PySem.Spec PyProof.Rows L2 _root_.HT PySem.W PySem.SeqAt PySem.AutoSeq1 PySem.MeetsSeq PySem.MeetsSeq2 PySem.MeetsSeq3
section
variable {prog : Program} {w : World} {A : Around} {E : Value → Shared → Prop} {s : Shared}
theorem sliceApplied_rev {sl : Addr} {vk : Value} {n : Nat} {Q : Int × Int × Nat → Shared → Prop} (hs : s.heap.IsSliceOf sl .none .none vk) (pk : IsPart vk (some (-1)))
    (h : Q ((n : Int) - 1, -1, n) s) : wpAny (model prog w) A (Builtin.Slice.sliceApplied (.ref sl) (pure (n : Int))) Q E s := by
  obtain ⟨os, hos, hcs, hds⟩ := id hs
  unfold Builtin.Slice.sliceApplied Builtin.Slice.sliceFields
  refine wpAny_bind (wpAny_bind (wpAny_field hos hds (x := .none) rfl (wpAny_bind (wpAny_field hos hds (x := .none) rfl (wpAny_bind (wpAny_field hos hds (x := vk) rfl (wpAny_pure ?_)))))))
  refine wpAny_bind (slicePart_ pk ?_)
  show wpAny _ _ (if ((-1 : Int) == 0) = true then _ else _) _ _ s
  rw [if_neg (by decide)]
  refine wpAny_bind (slicePart_none (wpAny_bind (slicePart_none (wpAny_bind (wpAny_pure ?_)))))
  show wpAny _ _ (pure ((n : Int) - 1, (-1 : Int), Builtin.Slice.slicePlaces ((n : Int) - 1) (-1) (-1))) _ _ s
  have e : Builtin.Slice.slicePlaces ((n : Int) - 1) (-1) (-1) = n := by
    unfold Builtin.Slice.slicePlaces
    have h1 : ¬ ((-1 : Int) > 0) := by omega
    simp only [h1, if_false]
    rw [show (- -1 : Int) = 1 by decide, Int.ediv_one]
    split <;> omega
  rw [e]
  exact wpAny_pure h
theorem fm_congr {α β : Type} {f g : α → Option β} : ∀ l : List α, (∀ m ∈ l, f m = g m) → l.filterMap f = l.filterMap g
  | [], _ => rfl
  | x :: l, h => by
    have ih := fm_congr l fun m hm => h m (by simp [hm])
    rw [List.filterMap_cons, List.filterMap_cons, h x (by simp), ih]
theorem pick_rev (xs : Array Value) : ((List.range xs.size).filterMap fun (m : Nat) => xs[((xs.size : Int) - 1 + (m : Int) * -1).toNat]?).toArray = xs.toList.reverse.toArray := by
  have e : ((List.range xs.size).filterMap fun (m : Nat) => xs[((xs.size : Int) - 1 + (m : Int) * -1).toNat]?) = ((List.range xs.size).map fun k => xs.size - 1 - k).filterMap (xs[·]?) := by
    rw [List.filterMap_map]
    refine fm_congr _ fun m hm => ?_
    have := List.mem_range.mp hm
    show _ = xs[xs.size - 1 - m]?
    have : ((xs.size : Int) - 1 + (m : Int) * -1).toNat = xs.size - 1 - m := by omega
    rw [this]
  rw [e, krv_range, List.filterMap_reverse, krv_all]
theorem getItem_tuple_rev {t sl : Addr} {items : Array Value} {vk : Value} {Q : Value → Shared → Prop} (ht : IsTup s.heap t items) (hs : s.heap.IsSliceOf sl .none .none vk) (pk : IsPart vk (some (-1)))
    (h : Q (.ref s.heap.objs.size) { s with heap := s.heap.push { cls := .type "tuple", data := .seq items.toList.reverse.toArray } })
    (hsz : items.size ≤ sizeLine) : wpAny (model prog w) A (getItem (.ref t) (.ref sl)) Q E s := by
  have htake : sizeOk (.seq items.toList.reverse.toArray) := by
    show items.toList.reverse.toArray.size ≤ sizeLine
    rw [List.size_toArray, List.length_reverse, Array.length_toList]
    exact hsz
  obtain ⟨os, hos, hcs, hds⟩ := id hs
  have hTs : s.TypeIs (.ref sl) "slice" := ⟨os, hos, hcs⟩
  unfold getItem
  try with_reducible refine wpAny_holding ?_
  first | refine wpAny_bind (wpAny_pure ?_) | skip
  refine wpAny_bind (wpAny_sequenceKey ht.typeIs (by decide) ?_)
  refine wpAny_bind (wpAny_callSpecial?_slot (name := Str.ofString "__getitem__") ht.typeIs PyProof.Rows.slot_tuple_getitem
    (wpAny_call_entry PyProof.Rows.slot_tuple_getitem ht.typeIs entry_tuple_getitem ?_ (args_tuple_getitem _ _)))
  show wpAny _ _ (Builtin.Tuple.tupleItemsOf (.ref t) >>= _) _ _ s
  refine wpAny_bind (tupleItemsOf_ ht ?_)
  refine wpAny_bind (wpAny_typeOf hTs ?_)
  rw [if_pos (by decide)]
  refine wpAny_bind (sliceApplied_rev hs pk ?_)
  have hno : ¬ ((((items.size : Int) - 1) == 0 && (-1 : Int) == 1 && items.size == items.size) = true) := by simp
  show wpAny _ _ (if (((items.size : Int) - 1) == 0 && (-1 : Int) == 1 && items.size == items.size) = true then _ else _) _ _ s
  rw [if_neg hno, pick_rev]
  first
    | exact wpAny_bind (m := Builtin.Tuple.tupleExact _) (wpAny_newObj_type (wpAny_pure ⟨_, rfl, wpAny_pure h⟩) htake)
    | exact wpAny_bind (m := Builtin.Tuple.tupleExact _) (wpAny_newObj_type (wpAny_bind (wpAny_pure (wpAny_pure ⟨_, rfl, wpAny_pure h⟩))) htake)
    | exact wpAny_bind (wpAny_bind (m := Builtin.Tuple.tupleExact _) (wpAny_newObj_type (wpAny_pure (wpAny_pure ⟨_, rfl, wpAny_pure h⟩)) htake))
    | exact wpAny_bind (wpAny_bind (m := Builtin.Tuple.tupleExact _) (wpAny_newObj_type (wpAny_pure ⟨_, rfl, wpAny_pure h⟩) htake))
end
end Y.HR
namespace Y
open PySem PySem.Spec PyProof.Rows L2
def RvR (X : Cx) (r : V → Hp → VK → Prop) : Prop :=
  ∀ (pins : List (Addr × Obj)) (s : Shared) (σ : St) (H : Hp) (x : V) (v vk : Value) (sl : Addr) (Q : VK), Inv X pins σ H s → RelV x v → s.heap.IsSliceOf sl .none .none vk → IsPart vk (some (-1)) → r x H Q →
    ∃ T id, typeLookup (.type T) "__getitem__" = pure (some (.builtin id)) ∧ s.TypeIs v T ∧ wpAny (model X.prog X.w) X.A (getItem v (.ref sl)) (EP X pins σ Q) X.xe s
theorem RvR.or {X : Cx} {r r' : V → Hp → VK → Prop} (h : RvR X r) (h' : RvR X r') : RvR X (fun x H Q => r x H Q ∨ r' x H Q) := by
  intro pins s σ H x v vk sl Q I rx hs pk q
  rcases q with q | q
  · exact h pins s σ H x v vk sl Q I rx hs pk q
  · exact h' pins s σ H x v vk sl Q I rx hs pk q
section
variable {X : Cx} {e k : Expr} {te : TE} {p2 pos : Pos}
def rRvT (K : PySem.W.Frag) : V → Hp → VK → Prop := fun x H Q => ∃ a xs, x = .ref a ∧ SqT K H a xs ∧ ∀ p, H p = none → Q (.ref p) (upd H p (.tup xs.reverse))
theorem rv_tup : RvR X (rRvT X.K) := by
  intro pins s σ H x v vk sl Q I rx hs pk h
  obtain ⟨a, xs, rfl, hx, q⟩ := h
  cases rx
  obtain ⟨its, r, ht, hz⟩ := I.tuple hx
  have hlen : its.toArray.size = xs.length := by rw [List.size_toArray]; exact r.length.symm
  refine ⟨"tuple", _, PyProof.Rows.slot_tuple_getitem.lookup, ht.typeIs, ?_⟩
  refine HR.getItem_tuple_rev ht hs pk ?_ (by rw [hlen]; exact hz)
  refine ⟨.ref s.heap.objs.size, _, I.laid (t' := s.toks) (o := .tup xs.reverse) (fun b ob q => Heap.get?_push_of_some _ q) (Nat.le_refl _) ?_, rfl, q _ (I.hok.fresh (Nat.le_refl _))⟩
  exact ⟨by rw [List.length_reverse]; exact hz, _, r.reverse, IsTup.new _ _⟩
def rRvL (K : PySem.W.Frag) : V → Hp → VK → Prop := fun x H Q => ∃ a xs, x = .ref a ∧ SqL K H a xs ∧ ∀ p, H p = none → Q (.ref p) (upd H p (.lst xs.reverse))
theorem rv_list : RvR X (rRvL X.K) := by
  intro pins s σ H x v vk sl Q I rx hs pk h
  obtain ⟨a, xs, rfl, hx, q⟩ := h
  cases rx
  obtain ⟨its, r, ht, hz⟩ := I.list hx
  have hlen := r.length
  refine ⟨"list", _, slot_list_getitem.lookup, ht.isList.typeIs, ?_⟩
  refine wpAny_getItem_list_slice ht.isList hs .none .none pk (by simp) ?_ (by rw [List.size_toArray] <;> omega)
  rw [PySem.W.krv_pick]
  refine ⟨.ref s.heap.objs.size, _, I.laid (t' := s.toks) (o := .lst xs.reverse) (fun b ob q => Heap.get?_push_of_some _ q) (Nat.le_refl _) ?_, rfl, q _ (I.hok.fresh (Nat.le_refl _))⟩
  exact ⟨by rw [List.length_reverse]; exact hz, _, 0, r.reverse, Heap.get?_push_size _ rfl⟩
def tRv (r : V → Hp → VK → Prop) (te : TE) (tk : TO) : TE := fun σ H Q => te σ H fun x H1 => tk σ H1 fun l H2 => l = some (-1) ∧ r x H2 Q
theorem pe_rev {r : V → Hp → VK → Prop} {tk : TO} (hr : RvR X r) (he : PE X e te) (hk : PO X (some k) tk) : PE X (.Subscript e (.Slice none none (some k) p2) pos) (tRv r te tk) := by
  refine ⟨fun pins s σ H Q I h => ?_⟩
  refine Subscript_ (thn (he.run pins s σ H _ I h) fun v s1 ⟨x, H1, I1, r1, q1⟩ => ?_)
  refine wpAny_Slice ?_
  rw [evalPart_none]
  refine wpAny_pure ?_
  refine wpAny_pure ?_
  refine thn (hk.run pins s1 σ H1 _ I1 q1) fun vk s3 ⟨l, H3, I3, pk, e3, q3⟩ => ?_
  subst e3
  have I4 : Inv X pins σ H3 { s3 with heap := s3.heap.push { cls := .type "slice", data := .fields #[.none, .none, vk] } } := I3.kept (t' := s3.toks) fun b ob q => Heap.get?_push_of_some _ q
  obtain ⟨T, id, hT, ht, hg⟩ := hr pins { s3 with heap := s3.heap.push { cls := .type "slice", data := .fields #[.none, .none, vk] } } σ H3 x v vk s3.heap.objs.size Q I4 r1 (Heap.IsSliceOf.new ..) pk q3
  show wpAny (model X.prog X.w) X.A (subscriptTail e (.Slice none none (some k) p2) v (.ref s3.heap.objs.size)) (EP X pins σ Q) X.xe { s3 with heap := s3.heap.push { cls := .type "slice", data := .fields #[.none, .none, vk] } }
  exact tail_any (ops := [v, .ref s3.heap.objs.size]) ht hT hg (by with_unfolding_all rfl)
theorem Reps.revs {K : PySem.W.Frag} {H : Hp} {P : Pr} : ∀ {ds : List D} {vs : List V}, Reps K H ds P vs → Reps K H ds.reverse P vs.reverse
  | [], _, h => by rw [h.nil_iff]; exact Reps.nil
  | d :: ds, _, h => by
    obtain ⟨v, ws, rfl, h1, h2⟩ := h.cons_iff
    rw [List.reverse_cons, List.reverse_cons]
    exact (Reps.revs h2).append (Reps.cons h1 Reps.nil)
def revD : D → R D
  | .tup ds => .ok (.tup ds.reverse)
  | .lst ds => .ok (.lst ds.reverse)
  | _ => .stk
def cRev (a : EM) (k : OM) : EM := fun ρ => do
  let (h, ρ1) ← a ρ
  let (l, ρ2) ← k ρ1
  let d ← (h.d ρ2).nox
  let z ← (if l = some (-1) then revD d else .stk).nox
  pure (.fr z, ρ2)
variable {P0 : Pr} {O W : List Nat} {E : EK} {ma : EM} {mk : OM}
theorem ce_rev (ha : CEx X P0 O W E e ma) (hk : CO X P0 O W E (some k) mk) : CEx X P0 O W E (.Subscript e (.Slice none none (some k) p2) pos) (cRev ma mk) := PE.imp (pe_rev (rv_list.or rv_tup) ha hk) fun σ H Q ⟨ρ, S, h⟩ => by
  refine ⟨ρ, S, h.of_bind.mono fun ⟨h1, ρ1⟩ q x H1 S1 k1 r1 => ⟨ρ1, S1, (q.keep k1).of_bind.mono fun ⟨l, ρ2⟩ q2 H2 S2 k2 => ?_⟩⟩
  obtain ⟨dx, e1, q4⟩ := q2.of_nox
  obtain ⟨dz, e3, q5⟩ := q4.of_nox
  by_cases c : l = some (-1)
  · refine ⟨c, ?_⟩
    rw [if_pos c] at e3
    have rx := (r1.keep S1 k2).d S2 e1
    have out := out_of S2 (k1.trans k2) q5
    unfold revD at e3
    split at e3
    · cases e3
      obtain ⟨p, vs, rfl, t1, t2⟩ := rx.tup
      exact .inr ⟨p, vs, rfl, SqT.of t1, fun p hp => out.newT S2.dom (Reps.revs t2) hp⟩
    · cases e3
      obtain ⟨p, vs, rfl, t1, t2⟩ := rx.lst
      exact .inl ⟨p, vs, rfl, SqL.of t1, fun p hp => out.newL S2.dom (Reps.revs t2) hp⟩
    · cases e3
  · rw [if_neg c] at e3
    cases e3
end
@[simp] theorem e_rev {a : EM} {k : OM} {ρ : Env} : cRev a k ρ = (a ρ >>= fun p => k p.2 >>= fun q => (p.1.d q.2).nox >>= fun d => (if q.1 = some (-1) then revD d else .stk).nox >>= fun z => R.ok (.fr z, q.2)) := id rfl
@[simp] theorem d_revT {x : List D} : revD (.tup x) = .ok (.tup x.reverse) := id rfl
@[simp] theorem d_revL {x : List D} : revD (.lst x) = .ok (.lst x.reverse) := id rfl
@[simp] theorem d_mulS {x : Str} {k : Int} : mulD (.str x) (.int k) = if k < 2 ^ 20 ∧ -(2 ^ 20) < k ∧ szOk (x.length * k.toNat) = true then .ok (.str (repS k x)) else .stk := id rfl
@[simp] theorem d_mulT {x : List D} {k : Int} : mulD (.tup x) (.int k) = if x.isEmpty = false ∧ -(2 ^ 20) < k ∧ k ≤ 1000 ∧ x.length ≤ 1000 then .ok (.tup (List.replicate k.toNat x).flatten) else .stk := id rfl
@[simp] theorem d_mulL {x : List D} {k : Int} : mulD (.lst x) (.int k) = if k < 2 ^ 20 ∧ -(2 ^ 20) < k ∧ szOk (x.length * k.toNat) = true then .ok (.lst (List.replicate k.toNat x).flatten) else .stk := id rfl
end Y

set_option Elab.async false
set_option linter.all false
set_option maxRecDepth 100000
namespace Y
open PySem PySem.Spec PyProof.Rows L2
section
variable {K : PySem.W.Frag} {P0 : Pr} {O W U : List Nat} {ρ : Y.Env} {σ : L2.St} {H : Hp}
theorem RepO.less2 {d : D} {P P' : Pr} {v : V} (hm : ∀ b, P b → isMut (H b)) (h : RepO K H d P v) (hp : ∀ b, P' b → P b) : RepO K H d P' v := h.mono hm (fun _ _ e _ => e) (fun b z => .inl (hp b z)) fun _ _ _ e => e
theorem Sim.openL (S : Sim K P0 O W ρ σ H) {i : Nat} {p : Addr} (hi : i ∉ O) (hl : i < ρ.length) (hp : H p = none) : Sim K P0 (i :: O) W (ρ.set i (some (.lst []))) (σ.set i (some (.ref p))) (upd H p (.lst [])) := by
  have hs : i < σ.length := Nat.lt_of_lt_of_le hl S.len
  have np : ¬ FA P0 O σ p := fun z => by have := S.dom p z; rw [hp] at this; exact this
  have gs : ∀ {j : Nat} {b : Addr}, j ∈ i :: O → (σ.set i (some (V.ref p)))[j]? = some (some (.ref b)) → (j = i ∧ b = p) ∨ (j ∈ O ∧ j ≠ i ∧ σ[j]? = some (some (.ref b))) := fun {j b} hj e => by
    by_cases hij : i = j
    · subst hij
      rw [List.getElem?_set_self hs] at e
      cases e
      exact .inl ⟨rfl, rfl⟩
    · rw [List.getElem?_set_ne hij] at e
      exact .inr ⟨(List.mem_cons.mp hj).resolve_left fun z => hij z.symm, fun z => hij z.symm, e⟩
  have fa : ∀ b, FA P0 (i :: O) (σ.set i (some (V.ref p))) b → FA P0 O σ b ∨ b = p := fun b z => by
    rcases z with z | ⟨j, hj, e⟩
    · exact .inl (.inl z)
    · rcases gs hj e with ⟨_, e⟩ | ⟨h1, _, h2⟩
      · exact .inr e
      · exact .inl (.inr ⟨j, h1, h2⟩)
  have sm : Same H (upd H p (.lst [])) := Same.new hp
  refine ⟨fun j hj => List.mem_cons_of_mem _ (S.sub j hj), by simpa using S.len, fun b z => ?_, fun j d e n => ?_, fun j d e n => ?_, fun j k a hj hk e1 e2 => ?_, fun a z hz => ?_⟩
  · by_cases hb : b = p
    · rw [hb, upd_same]; trivial
    · rw [upd_ne hb]
      rcases fa b z with z | z
      · exact S.dom b z
      · exact absurd z hb
  · have hij : i ≠ j := fun z => n (by simp [z])
    rw [List.getElem?_set_ne hij] at e ⊢
    obtain ⟨v, h1, h2⟩ := S.val j d e fun z => n (List.mem_cons_of_mem _ z)
    exact ⟨v, h1, h2.mono d S.dom (fun b o e _ => sm b o e) fun b z => (fa b z).imp id fun e => by rw [e]; exact hp⟩
  · by_cases hij : i = j
    · subst hij
      rw [List.getElem?_set_self hl] at e
      cases e
      exact ⟨_, List.getElem?_set_self hs, p, [], rfl, upd_same, Reps.nil⟩
    · rw [List.getElem?_set_ne hij] at e ⊢
      obtain ⟨v, h1, h2⟩ := S.own j d e ((List.mem_cons.mp n).resolve_left fun z => hij z.symm)
      exact ⟨v, h1, h2.mono S.dom (fun b o e _ => sm b o e) (fun b z => (fa b z).imp id fun e => by rw [e]; exact hp) fun a o _ e => sm a o e⟩
  · rcases gs hj e1 with ⟨a1, a2⟩ | ⟨a1, a2, a3⟩
    · rcases gs hk e2 with ⟨b1, b2⟩ | ⟨b1, b2, b3⟩
      · rw [a1, b1]
      · exact absurd (.inr ⟨k, b1, by rw [← a2]; exact b3⟩) np
    · rcases gs hk e2 with ⟨b1, b2⟩ | ⟨b1, b2, b3⟩
      · exact absurd (.inr ⟨j, a1, by rw [← b2]; exact a3⟩) np
      · exact S.sep j k a a1 b1 a3 b3
  · obtain ⟨j, hj, e⟩ := z
    rcases gs hj e with ⟨_, e⟩ | ⟨h1, _, h2⟩
    · exact np (.inl (by rw [← e]; exact hz))
    · exact S.sep0 a ⟨j, h1, h2⟩ hz
end
theorem Res.chg {E : EK} {O O1 : List Nat} {σ σ1 : L2.St} {H H1 : Hp} {α : Type} {r : R α} {k : α → Prop} (h : Res E O σ H r k) (f : ∀ H', Keep O1 σ1 H1 H' → Keep O σ H H') : Res E O1 σ1 H1 r k := by
  cases r with
  | ok a => exact h
  | er c ds => exact fun H' kp => h H' (f H' kp)
  | stk => exact h
section
variable {X : Cx} {P0 : Pr} {O W U : List Nat} {E : EK} {st2 : Stmt} {m : SM}
end
end Y

set_option Elab.async false
set_option linter.all false
set_option maxRecDepth 100000
namespace Y
open PySem PySem.Spec PyProof.Rows L2
def cCallNew (g : Fn) (m : AM) : EM := fun ρ => do
  let (hs, _) ← m ρ
  match hs with
  | .fr d :: rest => do
    let ds ← (vsOf rest).nox
    if (d.ownable && nls ds) = true then do
      let (h, _) ← g (d :: ds)
      match h with
      | .ow _ => .stk
      | h => pure (h, ρ)
    else .stk
  | _ => .stk
section
variable {K : PySem.W.Frag} {H : Hp} {P : Pr}
theorem Reps.at' : ∀ {ds : List D} {vs : List V} {j : Nat} {d : D}, Reps K H ds P vs → ds[j]? = some d → ∃ v, vs[j]? = some v ∧ Rep K H d P v
  | [], _, j, d, _, e => by simp at e
  | x :: ds, _, j, d, h, e => by
    obtain ⟨v, ws, rfl, h1, h2⟩ := h.cons_iff
    cases j with
    | zero => simp at e; subst e; exact ⟨v, rfl, h1⟩
    | succ j => simpa using Reps.at' h2 (by simpa using e)
end
section
variable {X : Cx} {P0 : Pr} {Oc : List Nat} {E : EK} {XE : XK} {e : Expr} {es : List Expr} {ms : AM} {pos : Pos} {k np : Nat} {name : Str}
theorem tM_callNew {g : Fn} (hE : ∀ c ds H, E c ds H → exE X.mg XE c ds H) (hl : ALen ms np) (σ : L2.St) (H : Hp) (Q : VK) (h : tM X.K P0 Oc [] E (cCallNew g ms) σ H Q) :
    tCall (spD X.K X.mg np [0] g) [] XE (tMs X.K P0 Oc [] E ms) σ H Q := by
  obtain ⟨ρ, S, h⟩ := h
  refine ⟨ρ, S, ?_⟩
  cases em : ms ρ with
  | stk => unfold cCallNew at h; rw [em] at h; exact h.elim
  | er c ds => unfold cCallNew at h; rw [em] at h; exact h
  | ok p =>
    obtain ⟨hs, ρ1⟩ := p
    unfold cCallNew at h
    rw [em] at h
    intro vs H1 S1 k1 r1
    have lv : vs.length = np := by rw [HdRs.len r1]; exact hl ρ hs ρ1 em
    have lh : hs.length = np := hl ρ hs ρ1 em
    have h : Res E [] σ H (match hs with
      | .fr d :: rest => (vsOf rest).nox >>= fun ds => if (d.ownable && nls ds) = true then (g (d :: ds) >>= fun q => match q.1 with | .ow _ => .stk | h => R.ok (h, ρ)) else .stk
      | _ => .stk) _ := h
    cases hs with
    | nil => exact h.elim
    | cons hd rest =>
      cases hd with
      | vl d => exact h.elim
      | ow j => exact h.elim
      | fr d =>
        obtain ⟨ds, e1, q⟩ := Res.of_nox (show Res E [] σ H ((vsOf rest).nox >>= fun ds => if (d.ownable && nls ds) = true then (g (d :: ds) >>= fun q => match q.1 with | .ow _ => .stk | h => R.ok (h, ρ)) else .stk) _ from h)
        by_cases c : (d.ownable && nls ds) = true
        · rw [if_pos c] at q
          rw [Bool.and_eq_true] at c
          obtain ⟨v, ws, rfl, ⟨r2, fr⟩, r3⟩ := r1
          have rs : Reps X.K H1 ds (FA P0 Oc σ) ws := HdRs.vs r3 e1
          have new : ∀ a, v = .ref a → H a = none ∧ isMut (H1 a) ∧ ¬ FA P0 Oc σ a := fun a ea => by
            subst ea
            have r := r2
            cases d with
            | lst ds =>
              unfold Rep at r
              obtain ⟨b, vs, e, h0, h1, h2⟩ := r
              cases e
              exact ⟨fr rfl _ rfl, by rw [h1]; trivial, h0⟩
            | non => unfold Rep at r; cases r
            | bl _ => unfold Rep at r; cases r
            | int _ => unfold Rep at r; cases r
            | str _ => unfold Rep at r; cases r
            | tup _ => exact absurd c.1 (by simp [D.ownable])
            | arg _ => exact absurd c.1 (by simp [D.ownable])
            | dik _ _ => exact absurd c.1 (by simp [D.ownable])
            | dit _ _ => exact absurd c.1 (by simp [D.ownable])
          have oa : ∀ b, OA [0] ((v :: ws).map some) b → v = .ref b := fun b ⟨j, hj, e⟩ => by
            have : j = 0 := by simpa using hj
            subst this
            simpa using e
          have ld : (d :: ds).length = np := by rw [List.length_cons, ← rs.length, ← List.length_cons (a := v)]; exact lv
          rw [List.append_nil]
          have S2 : Sim X.K (FA P0 Oc σ) [0] [] ((d :: ds).map some) ((v :: ws).map some) H1 := by
            refine ⟨fun _ z => (nomatch z), by rw [List.length_map, List.length_map, ld, lv]; exact Nat.le_refl _, fun b z => ?_, fun j d' e n => ?_, fun j d' e n => ?_, fun x y a hx hy _ _ => ?_, fun a z y => (new a (oa a z)).2.2 y⟩
            · rcases z with z | z
              · exact S1.dom b z
              · exact (new b (oa b z)).2.1
            · have e := map_get.mp e
              cases j with
              | zero => exact absurd (by simp) n
              | succ j =>
                obtain ⟨w, h1, h2⟩ := Reps.at' (Reps.nl (P' := FA (FA P0 Oc σ) [0] ((v :: ws).map some)) c.2 rs) (by simpa using e)
                exact ⟨w, map_get.mpr (by simpa using h1), h2⟩
            · have e := map_get.mp e
              have : j = 0 := by simpa using n
              subst this
              have : d' = d := by simpa using e.symm
              subst this
              exact ⟨v, map_get.mpr (by simp), r2.own S1.dom c.1 fun b z => z.elim .inl fun z => .inr (oa b z)⟩
            · have : x = 0 := by simpa using hx
              have : y = 0 := by simpa using hy
              omega
          refine ⟨lv, d :: ds, FA P0 Oc σ, S2, ld, ?_⟩
          have nk : ∀ {b : Addr} {o : HO}, H b = some o → ¬ OA [0] ((v :: ws).map some) b := fun e z => by rw [(new _ (oa _ z)).1] at e; cases e
          have kk : ∀ {b : Addr} {o : HO}, H b = some o → H1 b = some o := fun e => k1.keep _ _ e fun ⟨j, hj, _⟩ => nomatch hj
          cases eg : g (d :: ds) with
          | stk => rw [eg] at q; exact q.elim
          | er c xs =>
            rw [eg] at q
            exact fun H' kp => hE c xs H' (q H' ⟨fun b o e _ => kp.keep b o (kk e) (nk e), fun b e => kp.some b (k1.some b e)⟩)
          | ok p =>
            obtain ⟨hd, os⟩ := p
            rw [eg] at q
            intro v' H2 k2 S3 r4
            have sm : Same H H2 := fun b o e => k2.keep b o (kk e) (nk e)
            have S4 := S.same sm
            cases hd with
            | ow j => exact q.elim
            | fr d' => exact q v' H2 S4 (Keep.same sm) ⟨r4.1.less S3.dom fun b z => .inl z, fun m a e => Classical.byContradiction fun z => k1.some a z (r4.2 m a e)⟩
            | vl d' => exact q v' H2 S4 (Keep.same sm) (Rep.less S3.dom r4 fun b z => .inl z)
        · rw [if_neg c] at q
          exact q.elim
theorem ce_callNew {g : Fn} {p : Pos} (G : Glo X.prog X.w X.K X.mg X.base name k np [0] g) (o : Out2 X E XE) (hr : Room k X.A) (ha : CA X P0 Oc [] E (e :: es) ms) (hl : ALen ms np) (hg : Gl X name := by rfl) (hdb : (name == ("__debug__" : Str)) = false := by decide)
    (he : starEach (e :: es) X.env = (false, eval e X.env) :: starEach es X.env := by rfl) (hpl : (backTo pos (starEach es X.env)).any (·.1) = false := by rfl) : CEx X P0 Oc [] E (.Call (.Name name p) (e :: es) [] pos) (cCallNew g ms) := by
  obtain ⟨f, fd, ps, hm, hk, hb, _, F⟩ := G.ex
  exact PE.imp (pe_call F hr hg hm hk hb .nil o.pass ha hdb he hpl) fun σ H Q h => tM_callNew o.ex hl σ H Q h
end
@[simp] theorem e_callNew {g : Fn} {m : AM} {ρ : Y.Env} : cCallNew g m ρ = (m ρ >>= fun p => match p.1 with | .fr d :: rest => ((vsOf rest).nox >>= fun ds => if (d.ownable && nls ds) = true then (g (d :: ds) >>= fun q => match q.1 with | .ow _ => .stk | h => R.ok (h, ρ)) else .stk) | _ => .stk) := by
  unfold cCallNew; congr
end Y

set_option Elab.async false
set_option linter.all false
set_option maxRecDepth 100000
namespace Y
open PySem PySem.Spec PyProof.Rows L2
section
variable {κ : Type} [DecidableEq κ]
def findD : List κ → List D → κ → Option D
  | k' :: ks, d :: ds, k => if k' = k then some d else findD ks ds k
  | _, _, _ => none
theorem findD_rep {K : PySem.W.Frag} {H : Hp} {P : Pr} {k : κ} : ∀ {ks : List κ} {ds : List D} {vs : List V}, Reps K H ds P vs → ks.length = vs.length →
    (∀ d, findD ks ds k = some d → ∃ v, valV (ks.zip vs) k = some v ∧ Rep K H d P v) ∧ (findD ks ds k = none → valV (ks.zip vs) k = none)
  | [], ds, vs, h, hl => by
    have : vs = [] := List.eq_nil_of_length_eq_zero hl.symm
    subst this
    exact ⟨fun d e => by simp [findD] at e, fun _ => rfl⟩
  | k' :: ks, [], vs, h, hl => by
    have : vs = [] := h.nil_iff
    subst this
    simp at hl
  | k' :: ks, d' :: ds, vs, h, hl => by
    obtain ⟨v, ws, rfl, h1, h2⟩ := h.cons_iff
    obtain ⟨i1, i2⟩ := findD_rep (k := k) (ks := ks) h2 (by simpa using hl)
    by_cases e : k' = k
    · refine ⟨fun d q => ?_, fun q => ?_⟩
      · rw [findD, if_pos e] at q
        cases q
        exact ⟨v, by rw [List.zip_cons_cons]; exact valV_pos e, h1⟩
      · rw [findD, if_pos e] at q; cases q
    · refine ⟨fun d q => ?_, fun q => ?_⟩
      · rw [findD, if_neg e] at q
        obtain ⟨w, w1, w2⟩ := i1 d q
        exact ⟨w, by rw [List.zip_cons_cons, valV_neg e]; exact w1, w2⟩
      · rw [findD, if_neg e] at q
        rw [List.zip_cons_cons, valV_neg e]
        exact i2 q
end
def keyOf : D → Option Key
  | .int i => some (.inl i)
  | .str x => some (.inr x)
  | _ => none
def keysOf : List D → Option (List Key)
  | [] => some []
  | d :: ds => match keyOf d with
    | some k => (keysOf ds).map (k :: ·)
    | none => none
theorem keyOf_rep {K : PySem.W.Frag} {H : Hp} {P : Pr} {d : D} {v : V} {k : Key} (h : RepW K H d P v) (e : keyOf d = some k) : v = kV k := by
  cases d <;> simp only [keyOf, Option.some.injEq, reduceCtorEq] at e
  · subst e; rw [h.int]; rfl
  · subst e; rw [h.str]; rfl
theorem keysOf_rep {K : PySem.W.Frag} {H : Hp} {P : Pr} : ∀ {ds : List D} {vs : List V} {ks : List Key}, Reps K H ds P vs → keysOf ds = some ks → vs = ks.map kV
  | [], vs, ks, h, e => by simp [keysOf] at e; subst e; exact h.nil_iff
  | d :: ds, vs, ks, h, e => by
    obtain ⟨v, ws, rfl, h1, h2⟩ := h.cons_iff
    unfold keysOf at e
    cases q : keyOf d with
    | none => rw [q] at e; cases e
    | some k =>
      rw [q] at e
      cases r : keysOf ds with
      | none => rw [r] at e; cases e
      | some ks' =>
        rw [r] at e
        cases e
        have i := keysOf_rep h2 r
        have j : v = kV k := by
          cases d <;> simp only [keyOf, Option.some.injEq, reduceCtorEq] at q
          · subst q; unfold Rep at h1; rw [h1]; rfl
          · subst q; unfold Rep at h1; rw [h1]; rfl
        rw [i, j]; rfl
/-- what d holds at the key: none where it holds nothing -/
def getDic : D → D → R (Option D)
  | .dik ks ds, y => match keyOf y with
    | some k => .ok (findD ks ds k)
    | none => .stk
  | .dit ks ds, .tup ys => match keysOf ys with
    | some k => .ok (findD ks ds k)
    | none => .stk
  | _, _ => .stk
section
variable {K : PySem.W.Frag} {H : Hp} {P : Pr}
theorem getDic_rep {dx dy : D} {x y : V} {o : Option D} (rx : RepW K H dx P x) (ry : RepW K H dy P y) (e : getDic dx dy = .ok o) :
    ∃ a r, x = .ref a ∧ DGet H a y r ∧ r.isSome = o.isSome ∧ ∀ d, o = some d → ∃ v, r = some v ∧ Rep K H d P v := by
  unfold getDic at e
  split at e
  · rename_i ks ds
    obtain ⟨a, vs, rfl, hl, rd, rs⟩ := rx
    cases q : keyOf dy with
    | none => rw [q] at e; cases e
    | some k =>
      rw [q] at e
      cases e
      obtain ⟨f1, f2⟩ := findD_rep (k := k) rs hl
      refine ⟨a, valV (ks.zip vs) k, rfl, .inl ⟨_, k, rd, keyOf_rep ry q, rfl⟩, ?_, f1⟩
      cases z : findD ks ds k with
      | none => rw [f2 z]; rfl
      | some d => obtain ⟨v, v1, _⟩ := f1 d z; rw [v1]; rfl
  · rename_i ks ds ys
    obtain ⟨a, vs, rfl, hl, rd, rs⟩ := rx
    obtain ⟨b, us, rfl, h1, h2⟩ := ry.tup
    cases q : keysOf ys with
    | none => rw [q] at e; cases e
    | some k =>
      rw [q] at e
      cases e
      obtain ⟨f1, f2⟩ := findD_rep (k := k) rs hl
      have eu := keysOf_rep h2 q
      subst eu
      refine ⟨a, valV (ks.zip vs) k, rfl, .inr ⟨_, k, b, rd, rfl, h1, rfl⟩, ?_, f1⟩
      cases z : findD ks ds k with
      | none => rw [f2 z]; rfl
      | some d => obtain ⟨v, v1, _⟩ := f1 d z; rw [v1]; rfl
  · cases e
end
def cDGet (a b : EM) : EM := fun ρ => do
  let (h1, ρ1) ← a ρ
  let (h2, ρ2) ← b ρ1
  let x ← (h1.d ρ2).nox
  let y ← (h2.d ρ2).nox
  let o ← (getDic x y).nox
  match o with
  | some z => pure (.vl z, ρ2)
  | none => .stk
def cDIn (neg : Bool) (b a : EM) : EM := fun ρ => do
  let (h2, ρ1) ← b ρ
  let (h1, ρ2) ← a ρ1
  let x ← (h1.d ρ2).nox
  let y ← (h2.d ρ2).nox
  let o ← (getDic x y).nox
  pure (.fr (.bl (if neg = true then !o.isSome else o.isSome)), ρ2)
section
variable {X : Cx} {P0 : Pr} {O W : List Nat} {E : EK} {a b : Expr} {ma mb : EM} {pos : Pos}
theorem ce_dget (hu : X.A.units + 1 < cLine) (ha : CEx X P0 O W E a ma) (hb : CEx X P0 O W E b mb) (hs : NoSl b := by intro _ _; rfl) : CEx X P0 O W E (.Subscript a b pos) (cDGet ma mb) := PE.imp (pe_dget hu ha hb hs) fun σ H Q ⟨ρ, S, h⟩ => by
  refine ⟨ρ, S, h.of_bind.mono fun ⟨h1, ρ1⟩ q x H1 S1 k1 r1 => ⟨ρ1, S1, (q.keep k1).of_bind.mono fun ⟨h2, ρ2⟩ q2 y H2 S2 k2 r2 => ?_⟩⟩
  obtain ⟨dx, e1, q3⟩ := q2.of_nox
  obtain ⟨dy, e2, q4⟩ := q3.of_nox
  obtain ⟨o, e3, q5⟩ := q4.of_nox
  have rx := (r1.keep S1 k2).d S2 e1
  have ry := r2.d S2 e2
  obtain ⟨c, r, rfl, g, _, f⟩ := getDic_rep rx ry e3
  cases o with
  | none => exact q5.elim
  | some z =>
    obtain ⟨v, rfl, rv⟩ := f z rfl
    exact ⟨c, v, rfl, g, q5 v H2 S2 (k1.trans k2) rv⟩
theorem ce_din (hu : X.A.units + 1 < cLine) (hb : CEx X P0 O W E b mb) (ha : CEx X P0 O W E a ma) (hm : behindInMarks .In a = false := by rfl) : CEx X P0 O W E (.Compare b [.In] [a] pos) (cDIn false mb ma) := PE.imp (pe_cmp (pc_din hu hb ha) hm) fun σ H Q ⟨ρ, S, h⟩ => by
  refine ⟨ρ, S, h.of_bind.mono fun ⟨h2, ρ1⟩ q y H1 S1 k1 r2 => ⟨ρ1, S1, (q.keep k1).of_bind.mono fun ⟨h1, ρ2⟩ q2 x H2 S2 k2 r1 => ?_⟩⟩
  obtain ⟨dx, e1, q3⟩ := q2.of_nox
  obtain ⟨dy, e2, q4⟩ := q3.of_nox
  obtain ⟨o, e3, q5⟩ := q4.of_nox
  have rx := r1.d S2 e1
  have ry := (r2.keep S1 k2).d S2 e2
  obtain ⟨c, r, rfl, g, i, _⟩ := getDic_rep rx ry e3
  refine ⟨c, r, rfl, g, ?_⟩
  rw [i]
  exact (out_of (K := X.K) S2 (k1.trans k2) q5).bl
end
section
variable {K : PySem.W.Frag} {P0 : Pr} {O W U : List Nat} {ρ : Y.Env} {σ : L2.St} {H : Hp}
theorem Sim.newO (S : Sim K P0 O W ρ σ H) {i : Nat} {p : Addr} {d : D} {o : HO} (hi : i ∈ O) (hl : i < ρ.length) (hp : H p = none) (ho : isMut (some o)) (r : ∀ P, RepO K (upd H p o) d P (.ref p)) : Sim K P0 O W (ρ.set i (some d)) (σ.set i (some (.ref p))) (upd H p o) := by
  have hs : i < σ.length := Nat.lt_of_lt_of_le hl S.len
  have np : ¬ FA P0 O σ p := fun z => by have := S.dom p z; rw [hp] at this; exact this
  have gs : ∀ {j : Nat} {b : Addr}, j ∈ O → (σ.set i (some (V.ref p)))[j]? = some (some (.ref b)) → (j = i ∧ b = p) ∨ (j ≠ i ∧ σ[j]? = some (some (.ref b))) := fun {j b} hj e => by
    by_cases hij : i = j
    · subst hij
      rw [List.getElem?_set_self hs] at e
      cases e
      exact .inl ⟨rfl, rfl⟩
    · rw [List.getElem?_set_ne hij] at e
      exact .inr ⟨fun z => hij z.symm, e⟩
  have fa : ∀ b, FA P0 O (σ.set i (some (V.ref p))) b → FA P0 O σ b ∨ b = p := fun b z => by
    rcases z with z | ⟨j, hj, e⟩
    · exact .inl (.inl z)
    · rcases gs hj e with ⟨_, e⟩ | ⟨_, h2⟩
      · exact .inr e
      · exact .inl (.inr ⟨j, hj, h2⟩)
  have sm : Same H (upd H p o) := Same.new hp
  refine ⟨S.sub, by simpa using S.len, fun b z => ?_, fun j d' e n => ?_, fun j d' e n => ?_, fun j k a hj hk e1 e2 => ?_, fun a z hz => ?_⟩
  · by_cases hb : b = p
    · rw [hb, upd_same]; exact ho
    · rw [upd_ne hb]
      rcases fa b z with z | z
      · exact S.dom b z
      · exact absurd z hb
  · have hij : i ≠ j := fun z => n (by rw [← z]; exact hi)
    rw [List.getElem?_set_ne hij] at e ⊢
    obtain ⟨v, h1, h2⟩ := S.val j d' e n
    exact ⟨v, h1, h2.mono d' S.dom (fun b o e _ => sm b o e) fun b z => (fa b z).imp id fun e => by rw [e]; exact hp⟩
  · by_cases hij : i = j
    · subst hij
      rw [List.getElem?_set_self hl] at e
      cases e
      exact ⟨_, List.getElem?_set_self hs, r _⟩
    · rw [List.getElem?_set_ne hij] at e ⊢
      obtain ⟨v, h1, h2⟩ := S.own j d' e n
      exact ⟨v, h1, h2.mono S.dom (fun b o e _ => sm b o e) (fun b z => (fa b z).imp id fun e => by rw [e]; exact hp) fun a o _ e => sm a o e⟩
  · rcases gs hj e1 with ⟨a1, a2⟩ | ⟨a2, a3⟩
    · rcases gs hk e2 with ⟨b1, b2⟩ | ⟨b2, b3⟩
      · rw [a1, b1]
      · exact absurd (.inr ⟨k, hk, by rw [← a2]; exact b3⟩) np
    · rcases gs hk e2 with ⟨b1, b2⟩ | ⟨b2, b3⟩
      · exact absurd (.inr ⟨j, hj, by rw [← b2]; exact a3⟩) np
      · exact S.sep j k a hj hk a3 b3
  · obtain ⟨j, hj, e⟩ := z
    rcases gs hj e with ⟨_, e⟩ | ⟨_, h2⟩
    · exact np (.inl (by rw [← e]; exact hz))
    · exact S.sep0 a ⟨j, hj, h2⟩ hz
end
theorem tr_new {K : PySem.W.Frag} {P0 : Pr} {O W U : List Nat} {ρ : Y.Env} {σ : L2.St} {H : Hp} (S : Sim K P0 O W ρ σ H) {i : Nat} {p : Addr} {o : HO} (hi : i ∈ O) (hu : i ∉ U) (hl : i < ρ.length) (hp : H p = none) : Tr O U σ H (σ.set i (some (.ref p))) (upd H p o) where
  keep := fun b u e _ => by rw [upd_ne (ne_of_none e hp)]; exact e
  some := fun b e => by
    by_cases hb : b = p
    · rw [hb, upd_same]; intro z; cases z
    · rw [upd_ne hb]; exact e
  own := fun b ⟨j, hj, e⟩ => by
    by_cases hij : i = j
    · subst hij
      rw [List.getElem?_set_self (Nat.lt_of_lt_of_le hl S.len)] at e
      cases e
      exact .inr hp
    · rw [List.getElem?_set_ne hij] at e
      exact .inl ⟨j, hj, e⟩
  unch := fun j hj => List.getElem?_set_ne fun z => hu (by rw [z]; exact hj)
/-- tup: its keys will be tuples -/
def sDicNew (tup : Bool) (i : Nat) : SM := fun ρ => if i < ρ.length then .ok (.nx, ρ.set i (some (if tup = true then .dit [] [] else .dik [] []))) else .stk
section
variable {X : Cx} {P0 : Pr} {O W U : List Nat} {E : EK}
theorem cs_dicnew {tup : Bool} {i : Nat} {x : Str} {p p2 p3 : Pos} (hN : X.N.Nodup) (hi : i ∈ O := by decide) (hu : i ∉ U := by decide) (hx : X.N[i]? = some x := by rfl) (hl : Loc X.env.scope x := by first | exact Or.inl rfl | exact Or.inr rfl)
    (hf : X.fn x = true ∨ X.env.scope.names.lookup x = some .local := by first | exact .inl rfl | exact .inr rfl)
    (hs : swapsWithSole [.Name x p] (.Dict [] [] p2) p3.line X.env = pure false := by rfl) (hw : swappedStores [.Name x p] (.Dict [] [] p2) X.env = pure none := by rfl) :
    CS X P0 O W U E (.Assign [.Name x p] (.Dict [] [] p2) p3) (sDicNew tup i) := by
  cases tup with
  | false =>
    refine PS.imp (ps_asg pe_dnewK (pg_name hN hx hl hf) hs hw) fun D σ H ⟨ρ, S, h⟩ => fun q hq => ?_
    have h : Res E O σ H (if i < ρ.length then R.ok (Fl.nx, ρ.set i (some (.dik [] []))) else .stk) _ := h
    by_cases hlen : i < ρ.length
    · rw [if_pos hlen] at h
      exact h _ _ (S.newO hi hlen hq trivial fun P => ⟨q, [], rfl, rfl, upd_same, Reps.nil⟩) (tr_new S hi hu hlen hq) (by simp)
    · rw [if_neg hlen] at h; exact h.elim
  | true =>
    refine PS.imp (ps_asg pe_dnewT (pg_name hN hx hl hf) hs hw) fun D σ H ⟨ρ, S, h⟩ => fun q hq => ?_
    have h : Res E O σ H (if i < ρ.length then R.ok (Fl.nx, ρ.set i (some (.dit [] []))) else .stk) _ := h
    by_cases hlen : i < ρ.length
    · rw [if_pos hlen] at h
      exact h _ _ (S.newO hi hlen hq trivial fun P => ⟨q, [], rfl, rfl, upd_same, Reps.nil⟩) (tr_new S hi hu hlen hq) (by simp)
    · rw [if_neg hlen] at h; exact h.elim
end
@[simp] theorem e_dget {a b : EM} {ρ : Y.Env} : cDGet a b ρ = (a ρ >>= fun p => b p.2 >>= fun q => (p.1.d q.2).nox >>= fun x => (q.1.d q.2).nox >>= fun y => (getDic x y).nox >>= fun o => match o with | some z => R.ok (.vl z, q.2) | none => .stk) := by
  unfold cDGet; congr
end Y

set_option Elab.async false
set_option linter.all false
set_option maxRecDepth 100000
namespace Y
open PySem PySem.Spec PyProof.Rows L2
section
variable {κ : Type} [DecidableEq κ]
def setD : List κ → List D → κ → D → List D
  | k' :: ks, d' :: ds, k, d => (if k' = k then d else d') :: setD ks ds k d
  | _, _, _, _ => []
def setV : List κ → List V → κ → V → List V
  | k' :: ks, d' :: ds, k, d => (if k' = k then d else d') :: setV ks ds k d
  | _, _, _, _ => []
theorem setV_len {k : κ} {v : V} : ∀ {ks : List κ} {vs : List V}, ks.length = vs.length → (setV ks vs k v).length = ks.length
  | [], _, _ => rfl
  | _ :: _, [], h => by simp at h
  | _ :: ks, _ :: vs, h => by simp [setV, setV_len (ks := ks) (vs := vs) (by simpa using h)]
theorem set_rep {K : PySem.W.Frag} {H : Hp} {P : Pr} {k : κ} {d : D} {v : V} (r : Rep K H d P v) : ∀ {ks : List κ} {ds : List D} {vs : List V}, Reps K H ds P vs → ks.length = vs.length → Reps K H (setD ks ds k d) P (setV ks vs k v)
  | [], ds, vs, h, hl => by
    have : vs = [] := List.eq_nil_of_length_eq_zero hl.symm
    subst this
    cases ds <;> exact Reps.nil
  | k' :: ks, [], vs, h, hl => by
    have : vs = [] := h.nil_iff
    subst this
    simp at hl
  | k' :: ks, d' :: ds, vs, h, hl => by
    obtain ⟨w, ws, rfl, h1, h2⟩ := h.cons_iff
    have ih := set_rep (k := k) r (ks := ks) h2 (by simpa using hl)
    show Reps K H ((if k' = k then d else d') :: setD ks ds k d) P ((if k' = k then v else w) :: setV ks ws k v)
    by_cases e : k' = k
    · rw [if_pos e, if_pos e]; exact Reps.cons r ih
    · rw [if_neg e, if_neg e]; exact Reps.cons h1 ih
theorem map_put {k : κ} {v : V} : ∀ {ks : List κ} {vs : List V}, (ks.zip vs).map (fun kv => if kv.1 = k then (kv.1, v) else kv) = ks.zip (setV ks vs k v)
  | [], _ => rfl
  | _ :: _, [] => rfl
  | k' :: ks, w :: vs => by
    have ih := map_put (k := k) (v := v) (ks := ks) (vs := vs)
    rw [List.zip_cons_cons, List.map_cons, ih]
    show _ = (k' :: ks).zip ((if k' = k then v else w) :: setV ks vs k v)
    rw [List.zip_cons_cons]
    by_cases e : k' = k
    · rw [if_pos e, if_pos e]
    · rw [if_neg e, if_neg e]
theorem any_zip {k : κ} : ∀ {ks : List κ} {vs : List V}, ks.length = vs.length → ((ks.zip vs).any fun kv => decide (kv.1 = k)) = decide (k ∈ ks)
  | [], vs, h => by
    have : vs = [] := List.eq_nil_of_length_eq_zero h.symm
    subst this
    simp
  | _ :: _, [], h => by simp at h
  | k' :: ks, w :: vs, h => by
    have ih := any_zip (k := k) (ks := ks) (vs := vs) (by simpa using h)
    rw [List.zip_cons_cons, List.any_cons, ih, Bool.eq_iff_iff]
    simp only [Bool.or_eq_true, decide_eq_true_eq, List.mem_cons]
    exact ⟨fun h => h.imp (fun h => h.symm) id, fun h => h.imp (fun h => h.symm) id⟩
theorem zip_snoc {k : κ} {v : V} : ∀ {ks : List κ} {vs : List V}, ks.length = vs.length → ks.zip vs ++ [(k, v)] = (ks ++ [k]).zip (vs ++ [v])
  | [], vs, h => by
    have : vs = [] := List.eq_nil_of_length_eq_zero h.symm
    subst this
    rfl
  | _ :: _, [], h => by simp at h
  | k' :: ks, w :: vs, h => by
    have ih := zip_snoc (k := k) (v := v) (ks := ks) (vs := vs) (by simpa using h)
    rw [List.zip_cons_cons, List.cons_append, ih]
    rfl
def putKs (ks : List κ) (k : κ) : List κ := if k ∈ ks then ks else ks ++ [k]
def putDs (ks : List κ) (ds : List D) (k : κ) (d : D) : List D := if k ∈ ks then setD ks ds k d else ds ++ [d]
def putVs (ks : List κ) (vs : List V) (k : κ) (v : V) : List V := if k ∈ ks then setV ks vs k v else vs ++ [v]
theorem put_zip {k : κ} {v : V} {ks : List κ} {vs : List V} (hl : ks.length = vs.length) : putK (ks.zip vs) k v = (putKs ks k).zip (putVs ks vs k v) ∧ (putKs ks k).length = (putVs ks vs k v).length := by
  unfold putK putKs putVs
  rw [any_zip hl]
  by_cases c : k ∈ ks
  · rw [if_pos (decide_eq_true c), if_pos c, if_pos c, map_put]
    exact ⟨rfl, (setV_len hl).symm⟩
  · rw [if_neg (by simpa using c), if_neg c, if_neg c, zip_snoc hl]
    exact ⟨rfl, by simp [hl]⟩
theorem put_reps {K : PySem.W.Frag} {H : Hp} {P : Pr} {k : κ} {d : D} {v : V} {ks : List κ} {ds : List D} {vs : List V} (r : Rep K H d P v) (h : Reps K H ds P vs) (hl : ks.length = vs.length) : Reps K H (putDs ks ds k d) P (putVs ks vs k v) := by
  unfold putDs putVs
  by_cases c : k ∈ ks
  · rw [if_pos c, if_pos c]; exact set_rep r h hl
  · rw [if_neg c, if_neg c]; exact h.append (Reps.cons r Reps.nil)
end
def putDic : D → D → D → R D
  | .dik ks ds, y, d => match keyOf y with
    | some k => if szOk (ks.length + 1) = true then .ok (.dik (putKs ks k) (putDs ks ds k d)) else .stk
    | none => .stk
  | .dit ks ds, .tup ys, d => match keysOf ys with
    | some k => if szOk (ks.length + 1) = true then .ok (.dit (putKs ks k) (putDs ks ds k d)) else .stk
    | none => .stk
  | _, _, _ => .stk
def dicAt (i : Nat) (ρ : Y.Env) : R D := match ρ[i]? with
  | some (some (.dik ks ds)) => .ok (.dik ks ds)
  | some (some (.dit ks ds)) => .ok (.dit ks ds)
  | _ => .stk
def sDPutS (i : Nat) (mk mv : EM) : SM := fun ρ => do
  let (h, ρ1) ← mv ρ
  let d ← h.v.nox
  let _ ← (dicAt i ρ1).nox
  let (h2, ρ2) ← mk ρ1
  let k ← h2.v.nox
  let x ← (dicAt i ρ2).nox
  let z ← (putDic x k d).nox
  pure (.nx, ρ2.set i (some z))
section
variable {K : PySem.W.Frag} {X : Cx} {P0 : Pr} {O W U : List Nat} {E : EK} {e k : Expr} {ma mk : EM}
theorem dicAt_ok {i : Nat} {ρ : Y.Env} {x : D} (h : dicAt i ρ = .ok x) : ρ[i]? = some (some x) := by
  unfold dicAt at h
  split at h
  · rename_i q; cases h; exact q
  · rename_i q; cases h; exact q
  · cases h
theorem dicAt_ref {ρ : Y.Env} {σ : L2.St} {H : Hp} (S : Sim K P0 O W ρ σ H) {i : Nat} {x : D} (hi : i ∈ O) (h : dicAt i ρ = .ok x) : ∃ a, σ[i]? = some (some (.ref a)) := by
  have q := dicAt_ok h
  obtain ⟨v, h1, h2⟩ := S.own i x q hi
  cases x with
  | dik ks ds => obtain ⟨a, vs, rfl, _⟩ := h2; exact ⟨a, h1⟩
  | dit ks ds => obtain ⟨a, vs, rfl, _⟩ := h2; exact ⟨a, h1⟩
  | _ => unfold dicAt at h; rw [q] at h; cases h
theorem cs_dput {i : Nat} {x : Str} {p sp pos : Pos} (hu : X.A.units + 1 < cLine) (h : CEx X P0 O W E e ma) (hk : CEx X P0 O W E k mk) (hi : i ∈ O := by decide) (hx : X.N[i]? = some x := by rfl) (hv : Vis X.env.scope x := by first | exact Or.inl rfl | exact Or.inr (Or.inl rfl) | exact Or.inr (Or.inr rfl)) (hd : (x == ("__debug__" : Str)) = false := by decide) (hcd : (x == ("__classdict__" : Str)) = false := by decide)
    (hs : swapsWith e (some (.Subscript (.Name x p) k sp)) pos.line X.env = pure false := by rfl) :
    CS X P0 O W U E (.Assign [.Subscript (.Name x p) k sp] e pos) (sDPutS i mk ma) := PS.imp (ps_dput hu (pe_var (i := i) hx hv hd hcd) hk h hs) fun D σ H ⟨ρ, S, h⟩ => by
  refine ⟨ρ, S, (h.of_bind.down S.sub).mono fun ⟨hd, ρ1⟩ q v H1 S1 k1 r1 => ?_⟩
  obtain ⟨d, e1, q1⟩ := q.of_nox
  obtain ⟨x0, e0, q2⟩ := q1.of_nox
  obtain ⟨l, h1⟩ := dicAt_ref S1 hi e0
  refine ⟨.ref l, h1, ρ1, S1, ((q2.of_bind.down S1.sub).keep k1).mono fun ⟨hd2, ρ2⟩ q3 w H2 S2 k2 r2 => ?_⟩
  obtain ⟨dk, e2, q4⟩ := q3.of_nox
  obtain ⟨x1, e3, q5⟩ := Res.of_nox (show Res E O σ H ((dicAt i ρ2).nox >>= _) _ from q4)
  obtain ⟨z, e4, q6⟩ := Res.of_nox (show Res E O σ H ((putDic x1 dk d).nox >>= _) _ from q5)
  have rk := r2.v e2
  have rv := S1.rep k2 (r1.v e1)
  obtain ⟨v1, g1, g2⟩ := S2.own i x1 (dicAt_ok e3) hi
  rw [h1] at g1
  cases g1
  have pa : FA P0 O σ l := .inr ⟨i, hi, h1⟩
  have up : ∀ (o : HO) b u, H2 b = some u → ¬ FA P0 O σ b → upd H2 l o b = some u := fun o b u e n => by rw [upd_ne fun z => n (by rw [z]; exact pa)]; exact e
  unfold putDic at e4
  split at e4
  · rename_i ks ds
    obtain ⟨a, vs, ea, hl, hH, rs⟩ := g2
    cases ea
    cases qk : keyOf dk with
    | none => rw [qk] at e4; cases e4
    | some kk =>
      rw [qk] at e4
      simp only at e4
      split at e4
      · rename_i zs
        cases e4
        obtain ⟨pz, pl⟩ := put_zip (k := kk) (v := v) hl
        have ew : w = kV kk := keyOf_rep (rk.weak S2.dom) qk
        subst ew
        refine ⟨l, _, rfl, DPut.k hH (by rw [List.length_zip, ← hl, Nat.min_self]; exact of_decide_eq_true zs), ?_⟩
        rw [pz]
        exact q6 σ _ (S2.ownW hi h1 trivial ⟨l, _, rfl, pl, upd_same, (put_reps rv rs hl).mono _ S2.dom (up _) fun b z => .inl z⟩) (Tr.ownW S.sub (k1.trans k2) hi h1) rfl
      · cases e4
  · rename_i ks ds ys
    obtain ⟨a, vs, ea, hl, hH, rs⟩ := g2
    cases ea
    cases qk : keysOf ys with
    | none => rw [qk] at e4; cases e4
    | some kk =>
      rw [qk] at e4
      simp only at e4
      split at e4
      · rename_i zs
        cases e4
        obtain ⟨pz, pl⟩ := put_zip (k := kk) (v := v) hl
        unfold Rep at rk
        obtain ⟨b, us, rfl, b1, b2⟩ := rk
        have eu := keysOf_rep b2 qk
        subst eu
        refine ⟨l, _, rfl, DPut.t hH b1 (by rw [List.length_zip, ← hl, Nat.min_self]; exact of_decide_eq_true zs), ?_⟩
        rw [pz]
        exact q6 σ _ (S2.ownW hi h1 trivial ⟨l, _, rfl, pl, upd_same, (put_reps rv rs hl).mono _ S2.dom (up _) fun b z => .inl z⟩) (Tr.ownW S.sub (k1.trans k2) hi h1) rfl
      · cases e4
  · cases e4
end
end Y

set_option Elab.async false
set_option linter.all false
set_option maxRecDepth 100000
namespace Y
open PySem PySem.Spec PyProof.Rows L2
section
variable {X : Cx} {P0 : Pr} {O W U : List Nat} {E : EK} {XE : XK} {a b c e : Expr} {es : List Expr} {ma mb mc : EM} {ms : AM} {pos : Pos} {k np : Nat} {name : Str} {st : Stmt} {sts : List Stmt} {m n : SM}
variable {i : Nat} {ad : Addr}
end
section
variable {K : PySem.W.Frag} {P0 : Pr} {O W U : List Nat} {ρ : Env} {σ : St} {H : Hp}
theorem Tr.fewer {U' : List Nat} {σ' : St} {H' : Hp} (t : Tr O U σ H σ' H') (h : ∀ i ∈ U', i ∈ U) : Tr O U' σ H σ' H' := ⟨t.keep, t.some, t.own, fun i hi => t.unch i (h i hi)⟩
end
section
variable {X : Cx} {P0 : Pr} {O W U : List Nat} {E : EK}
end
end Y

set_option Elab.async false
set_option linter.all false
set_option maxRecDepth 100000
namespace Y
open PySem PySem.Spec PyProof.Rows L2
theorem all_cons {α : Type} {p : α → Prop} {c : α} {cl : List α} (h : p c) (t : ∀ c ∈ cl, p c) : ∀ x ∈ c :: cl, p x := List.forall_mem_cons.mpr ⟨h, t⟩
variable {ρ : Y.Env}
end Y

set_option Elab.async false
set_option linter.all false
set_option maxRecDepth 100000
namespace Y
open PySem PySem.Spec PyProof.Rows L2
def DicU : HO → Prop
  | .dK _ => True
  | .dT _ => True
  | _ => False
theorem Rd.only {H : Hp} {a b : Addr} {u o : HO} (hu : DicU u) (r : Rd H a u) (e : H b = Option.some o) (n1 : ¬ DicU o) (n2 : ∀ x w, o = .frz x w → ¬ DicU w) : b ≠ a := by
  rintro rfl
  rcases r with r | ⟨x, r⟩
  · rw [e] at r; cases r; exact n1 hu
  · rw [e] at r; cases r; exact n2 _ _ rfl hu
section
variable {K : PySem.W.Frag} {H H' : Hp} {a : Addr} {u : HO}
theorem Rd.move (hu : DicU u) (k : ∀ b, b ≠ a → H' b = H b) (r : Rd H a u) (r' : Rd H' a u) {b : Addr} {o : HO} (n2 : ∀ x w, o ≠ .frz x w) (h : Rd H b o) : Rd H' b o := by
  by_cases e : b = a
  · subst e
    have : o = u := by
      rcases r with r | ⟨x, r⟩ <;> rcases h with h | ⟨y, h⟩ <;> rw [r] at h <;> cases h <;> first | rfl | exact absurd rfl (n2 _ _) | exact hu.elim
    rw [this]; exact r'
  · rcases h with h | ⟨y, h⟩
    · exact .inl (by rw [k b e]; exact h)
    · exact .inr ⟨y, by rw [k b e]; exact h⟩
mutual
theorem Rep.rd (hu : DicU u) (k : ∀ b, b ≠ a → H' b = H b) (r : Rd H a u) (r' : Rd H' a u) : ∀ {d : D} {P : Pr} {v : V}, Rep K H d P v → Rep K H' d P v
  | .non, _, _, h => by unfold Rep at h ⊢; exact h
  | .bl _, _, _, h => by unfold Rep at h ⊢; exact h
  | .int _, _, _, h => by unfold Rep at h ⊢; exact h
  | .str _, _, _, h => by unfold Rep at h ⊢; exact h
  | .tup ds, P, v, h => by
    unfold Rep at h ⊢
    obtain ⟨b, vs, e, h1, h2⟩ := h
    exact ⟨b, vs, e, by rw [k b (Rd.only hu r h1 id fun _ _ z => by cases z)]; exact h1, Reps.rd hu k r r' h2⟩
  | .lst ds, P, v, h => by
    unfold Rep at h ⊢
    obtain ⟨b, vs, e, h0, h1, h2⟩ := h
    exact ⟨b, vs, e, h0, by rw [k b (Rd.only hu r h1 id fun _ _ z => by cases z)]; exact h1, Reps.rd hu k r r' h2⟩
  | .arg ns, P, v, h => by
    unfold Rep at h ⊢
    obtain ⟨b, e, h⟩ := h
    refine ⟨b, e, ?_⟩
    rcases h with ⟨h0, h1⟩ | h
    · exact .inl ⟨h0, Rd.move hu k r r' (fun _ _ z => by cases z) h1⟩
    · exact .inr h
  | .dik ks ds, P, v, h => by
    unfold Rep at h ⊢
    obtain ⟨b, vs, e, h0, hl, h1, h2⟩ := h
    exact ⟨b, vs, e, h0, hl, Rd.move hu k r r' (fun _ _ z => by cases z) h1, Reps.rd hu k r r' h2⟩
  | .dit ks ds, P, v, h => by
    unfold Rep at h ⊢
    obtain ⟨b, vs, e, h0, hl, h1, h2⟩ := h
    exact ⟨b, vs, e, h0, hl, Rd.move hu k r r' (fun _ _ z => by cases z) h1, Reps.rd hu k r r' h2⟩
theorem Reps.rd (hu : DicU u) (k : ∀ b, b ≠ a → H' b = H b) (r : Rd H a u) (r' : Rd H' a u) : ∀ {ds : List D} {P : Pr} {vs : List V}, Reps K H ds P vs → Reps K H' ds P vs
  | [], _, _, h => by rw [h.nil_iff]; exact Reps.nil
  | d :: ds, P, vs, h => by
    obtain ⟨v, ws, rfl, h1, h2⟩ := h.cons_iff
    exact Reps.cons (Rep.rd hu k r r' h1) (Reps.rd hu k r r' h2)
end
variable {P0 : Pr} {O W U : List Nat} {ρ : Y.Env} {σ : L2.St}
theorem Sim.rd (S : Sim K P0 O W ρ σ H) (hu : DicU u) (k : ∀ b, b ≠ a → H' b = H b) (r : Rd H a u) (r' : Rd H' a u) (n : ¬ FA P0 O σ a) : Sim K P0 O W ρ σ H' where
  sub := S.sub
  len := S.len
  dom := fun b z => by rw [k b fun e => n (e ▸ z)]; exact S.dom b z
  val := fun i d e h => let ⟨v, h1, h2⟩ := S.val i d e h; ⟨v, h1, h2.rd hu k r r'⟩
  own := fun i d e h => by
    obtain ⟨v, h1, h2⟩ := S.own i d e h
    have na : ∀ b, v = .ref b → b ≠ a := fun b e z => n (.inr ⟨i, h, by rw [h1, e, z]⟩)
    refine ⟨v, h1, ?_⟩
    cases d with
    | lst ds => obtain ⟨b, vs, e, g1, g2⟩ := h2; exact ⟨b, vs, e, by rw [k b (na b e)]; exact g1, g2.rd hu k r r'⟩
    | dik ks ds => obtain ⟨b, vs, e, hl, g1, g2⟩ := h2; exact ⟨b, vs, e, hl, by rw [k b (na b e)]; exact g1, g2.rd hu k r r'⟩
    | dit ks ds => obtain ⟨b, vs, e, hl, g1, g2⟩ := h2; exact ⟨b, vs, e, hl, by rw [k b (na b e)]; exact g1, g2.rd hu k r r'⟩
    | non => exact h2
    | bl _ => exact h2
    | int _ => exact h2
    | str _ => exact h2
    | tup _ => exact h2
    | arg _ => exact h2
  sep := S.sep
  sep0 := S.sep0
end
def ItiT (d : Addr) (o : Obj) (kvs : List (List Key × V)) : It :=
  ⟨fun i H => H d = some (.frz o (.dT kvs)) ∧ i < kvs.length, fun i H x H' => ∃ T q k v, kvs[i]? = some (k, v) ∧ H q = some (.tup (k.map kV)) ∧ x = .ref T ∧ H T = none ∧ H' = upd H T (.tup [.ref q, v]), fun i H => H d = some (.frz o (.dT kvs)) ∧ kvs.length ≤ i⟩
theorem frzV {X : Cx} {pins : List (Addr × Obj)} {σ : L2.St} {H : Hp} {s : Shared} {d : Addr} {o : Obj} {kvs : List (List Key × V)} (I : Inv X pins σ H s) (h : H d = some (.frz o (.dT kvs))) :
    (d == sysModules) = false ∧ ∃ (es : Array DictEntry) (ep : Nat), s.heap.DictRaw d es ep ∧ o.data = .dict es ep ∧ es.size = kvs.length ∧
      ∀ (i : Nat) (hi : i < es.size) (k : List Key) (v : V), kvs[i]? = some (k, v) → ∃ q, es[i].key = .ref q ∧ H q = some (.tup (k.map kV)) ∧ RelV v es[i].val := by
  have t := I.hok d _ h
  rcases t with ⟨e0, -, hs, xs, pr, o', es, ep, e1, ex, dt, ent, -⟩
  have eo : o' = o := Option.some.inj (e1.symm.trans e0)
  subst eo
  have l1 : es.size = xs.length := by have := congrArg List.length ent; simpa using this
  refine ⟨hs, es, ep, ⟨o', e0, ex, dt⟩, dt, l1.trans (Paired.length pr).symm, fun i hi k v e => ?_⟩
  obtain ⟨b, eb, c1, c2, c3⟩ := paired_get pr e
  have c := congrArg (fun l => l[i]?) ent
  simp only [List.getElem?_map, eb, Option.map_some] at c
  have c4 : es[i] = entryOfKey (tupleKind (mixKind X.prog X.w)) b := by
    have c5 : es.toList[i]? = some es[i] := by rw [Array.getElem?_toList, Array.getElem?_eq_getElem hi]
    rw [c5] at c
    exact Option.some.inj c
  refine ⟨b.2.1, by rw [c4]; rfl, c2, by rw [c4]; exact c3⟩
section
variable {P : Program} {w : World} {K : PySem.W.Frag} {d : Addr} {o : Obj} {es : Array DictEntry} {ep : Nat}
theorem turn_itemsT {kvs : List (List Key × V)} {elts : List Expr} {kk : Nat} {tpos : Pos} (it : Addr) (hod : o.data = .dict es ep) :
    Turn P w K (.Tuple elts kk tpos) (ItiT d o kvs) [it] it (fun i h => ∃ ok ov, IsItemIter h it d i kvs.length ep ok ov) where
  mem := List.mem_singleton.mpr rfl
  obj := fun i h ⟨ok, ov, e⟩ b hb => by
    cases List.mem_singleton.mp hb
    exact ⟨_, e, fun v z => nomatch z⟩
  keep := fun i h h' ⟨ok, ov, e⟩ k => ⟨ok, ov, k it (List.mem_singleton.mpr rfl) _ e⟩
  item := by
    intro X hP hw hK hc i pins s σ H E I hf ⟨ok, ov, st⟩ ⟨hd, hi⟩
    subst hP; subst hw; subst hK
    obtain ⟨_, es', ep', raw, hdt, hsz, ent⟩ := frzV I hd
    obtain ⟨rfl, rfl⟩ := dict_ep hod hdt
    have hi2 : i < es'.size := by rw [hsz]; exact hi
    obtain ⟨q, k1, k2, k3⟩ := ent i hi2 kvs[i].1 kvs[i].2 (List.getElem?_eq_getElem hi)
    rw [← hsz] at st
    have lt : it < s.heap.objs.size := Heap.lt_size st
    refine wpAny_pyNext_items_item_raw st raw hi2 fun h1 out tup _ old => ⟨_, rfl, wpAny_letOwnedTupleGo_items (s := { s with heap := h1 }) out fun h2 st2 same => ?_⟩
    have tup2 : h2.get? s.heap.objs.size = some { cls := .type "tuple", data := .seq #[es'[i].key, es'[i].val] } := (same.2 _ (Nat.ne_of_gt lt)).trans tup
    have ok2 : ObjOk X.prog X.w (upd H s.heap.objs.size (.tup [.ref q, kvs[i].2])) h2 s.heap.objs.size (.tup [.ref q, kvs[i].2]) :=
      ⟨by show 2 ≤ sizeLine; decide, [es'[i].key, es'[i].val], .cons k1 (.cons k3 .nil), ⟨_, tup2, rfl, _, rfl⟩⟩
    have J := I.turnedNew (t' := s.toks) (ch := [it]) (fun b ob hb e => (same.2 b (by simpa using hb)).trans (old b ob (by simpa using hb) e)) hf (Nat.le_refl _) ok2
    refine ⟨.ref s.heap.objs.size, _, J, rfl, ⟨_, q, _, _, List.getElem?_eq_getElem hi, k2, rfl, I.hok.fresh (Nat.le_refl _), rfl⟩, ⟨es'[i].key, es'[i].val, by rw [← hsz]; exact st2⟩, fun b hb => ?_⟩
    cases List.mem_singleton.mp hb
    rw [upd_ne (Nat.ne_of_lt lt)]
    exact (hf it hb).1
  done := by
    intro X hP hw hK hc i pins s σ H E I hf ⟨ok, ov, st⟩ ⟨hd, hi⟩
    subst hP; subst hw; subst hK
    obtain ⟨_, es', ep', raw, hdt, hsz, ent⟩ := frzV I hd
    obtain ⟨rfl, rfl⟩ := dict_ep hod hdt
    obtain ⟨g0, g1, g2, g3, g4, g5⟩ := hf it (List.mem_singleton.mpr rfl)
    rw [← hsz] at st
    exact wpAny_pyNext_items_end_raw (I.ok.hd hc) st raw (by rw [hsz]; exact hi) fun h1 eb => ⟨rfl, I.turned (t' := s.toks) (fun b ob hb e => eb b ob hb e) g0 g1 g3 g4 g5⟩
  self := fun A i s Q E ⟨_, _, e⟩ h => PySem.W.kcp_self e h
end
def iItemsT (td : TE) : TI := fun σ H R => td σ H fun x H1 => ∃ d o kvs, x = .ref d ∧ H1 d = some (.frz o (.dT kvs)) ∧ R (ItiT d o kvs) H1
theorem pi_itemsT {X : Cx} {e : Expr} {td : TE} {apos cpos : Pos} {elts : List Expr} {kk : Nat} {tpos : Pos} (he : PE X e td) (hbase : attributeBase e "items" X.env (eval e X.env) = eval e X.env := by rfl) (hline : (apos.endLine == cpos.line) = true := by rfl) :
    PI X (.Tuple elts kk tpos) (.Call (.Attribute e "items" apos) [] [] cpos) (iItemsT td) := by
  refine ⟨fun pins s σ H R I h => wpAny_Call_method (T := "dict") (id := "dict.items") hbase rfl hline F.plainAttrs_dict F.slot_dict_items F.type_dict_items (thn (he.run pins s σ H _ I h) fun u s1 ⟨x, H1, I1, rx, d, o, kvs, ex, hd, q⟩ => ?_)⟩
  cases ex
  cases (show u = Value.ref d from rx)
  obtain ⟨hs, es, ep, raw, hdt, hsz, ent⟩ := frzV I1 hd
  obtain ⟨o1, g1, g2, g3⟩ := id raw
  refine ⟨raw.typeIs, ?_, ?_⟩
  · intro b e
    cases e
    exact ⟨o1, g1, g2.2.1⟩
  · have I2 : Inv X pins σ H1 { s1 with heap := s1.heap.push { cls := .type "dict_items", data := .fields #[.ref d] } } := I1.kept (t' := s1.toks) fun b ob q => Heap.get?_push_of_some _ q
    have fin : wpAny (model X.prog X.w) X.A (pyIter (.ref s1.heap.objs.size)) (PIE X pins σ (.Tuple elts kk tpos) R) X.xe { s1 with heap := s1.heap.push { cls := .type "dict_items", data := .fields #[.ref d] } } :=
      wpAny_pyIter_items_raw (d := d) ⟨_, Heap.get?_push_size _ rfl, rfl, rfl⟩ (raw.at fun _ e => Heap.get?_push_of_some _ e) (pi_one (tk := s1.toks) I2 _ (turn_itemsT _ hdt) ⟨.none, .none, by rw [← hsz]; exact Heap.get?_push_size _ rfl⟩ q)
    show wpAny _ _ (callWith cpos (.builtin "dict.items") [.ref d] [] []) _ X.xe s1
    exact method_meetsIn F.slot_dict_items F.entry_dict_items rfl (PySem.evalArgs_none ⟨rfl, raw.typeIs, F.args_dict_items_1 _, _, meets_dict_items_raw d hs, ⟨es, ep, raw⟩, fin⟩)

def keyD : Key → D
  | .inl i => .int i
  | .inr x => .str x
def dicItems : D → R (List D)
  | .dik ks ds => .ok ((ks.zip ds).map fun p => .tup [keyD p.1, p.2])
  | .dit ks ds => .ok ((ks.zip ds).map fun p => .tup [.tup (p.1.map keyD), p.2])
  | _ => .stk
def cItems (i : Nat) : IM := fun ρ => do
  let d ← (look i ρ).nox
  let ds ← (dicItems d).nox
  if szOk ds.length = true then pure ((ds, []), ρ) else .stk
def sForD (m : SM) : SM := fun ρ => (m ρ).nox
theorem rep_key {K : PySem.W.Frag} {H : Hp} {P : Pr} (k : Key) : Rep K H (keyD k) P (kV k) := by
  cases k <;> (show Rep K H _ P _; unfold keyD Rep; rfl)
theorem reps_keys {K : PySem.W.Frag} {H : Hp} {P : Pr} : ∀ k : List Key, Reps K H (k.map keyD) P (k.map kV)
  | [] => Reps.nil
  | k :: ks => Reps.cons (rep_key k) (reps_keys ks)
section
variable {K : PySem.W.Frag} {O W : List Nat} {a : Addr} {o : Obj} {ds : List D} {vs : List V}
theorem zip_at {α β : Type} {ks : List α} {ds : List β} {i : Nat} {p : α × β} (h : (ks.zip ds)[i]? = some p) : ks[i]? = some p.1 ∧ ds[i]? = some p.2 := by
  obtain ⟨k, d⟩ := p
  exact List.getElem?_zip_eq_some.mp h
theorem src_items {κ : Type} {ks : List κ} {J : It} {f : κ → D} {mk : List (κ × V) → HO} (hJ1 : ∀ i H, H a = some (.frz o (mk (ks.zip vs))) → i < (ks.zip vs).length → J.go i H) (hJ2 : ∀ i H, H a = some (.frz o (mk (ks.zip vs))) → (ks.zip vs).length ≤ i → J.stop i H)
    (hJ3 : ∀ i H x H', J.yld i H x H' → ∃ T k v kv, (ks.zip vs)[i]? = some (k, v) ∧ (∀ P, Rep K H (f k) P kv) ∧ x = .ref T ∧ H T = none ∧ H' = upd H T (.tup [kv, v])) (hl : ks.length = vs.length) (hd : vs.length = ds.length) :
    Src K O W ((ks.zip ds).map fun p => .tup [f p.1, p.2]) [] J (fun P0 _ σ H => H a = some (.frz o (mk (ks.zip vs))) ∧ ¬ FA P0 O σ a ∧ Reps K H ds (FA P0 O σ) vs) where
  go := fun P0 i ρ σ H S ⟨h1, _, _⟩ hi => hJ1 i H h1 (by rw [List.length_zip] ; simp at hi; omega)
  stop := fun P0 ρ σ H S ⟨h1, _, _⟩ => hJ2 _ H h1 (by simp; omega)
  yld := fun P0 i ρ σ H x H' d S ⟨h1, h2, h3⟩ hd' y => by
    obtain ⟨T, k, v, kv, e1, e2, rfl, hT, rfl⟩ := hJ3 i H x H' y
    rw [List.getElem?_map] at hd'
    cases q : (ks.zip ds)[i]? with
    | none => rw [q] at hd'; cases hd'
    | some p =>
      rw [q] at hd'
      cases hd'
      obtain ⟨k1, k2⟩ := zip_at q
      obtain ⟨k3, k4⟩ := zip_at e1
      rw [k1] at k3
      cases k3
      obtain ⟨v', k5, r⟩ := h3.get k2
      rw [k4] at k5
      cases k5
      exact ⟨Same.new hT, Rep.newT S.dom (Reps.cons (e2 _) (Reps.cons r Reps.nil)) hT⟩
  keep := fun P0 ρ σ H ρ' σ' H' S k w _ ⟨h1, h2, h3⟩ => ⟨k _ _ h1 h2, (fun z => (w a z).elim h2 fun z => by rw [h1] at z; cases z), h3.mono ds S.dom k w⟩
  mem := fun _ _ _ _ _ w hw => nomatch hw
  grow := fun P0 P1 ρ σ H H' S w k ⟨h1, h2, h3⟩ => by
    have q : ∀ b, FA P1 O σ b → FA P0 O σ b ∨ H b = none := fun b z => by
      rcases z with z | z
      · exact (w b z).imp .inl id
      · exact .inl (.inr z)
    exact ⟨k _ _ h1, (fun z => (q a z).elim h2 fun z => by rw [h1] at z; cases z), h3.mono ds S.dom (fun b o e _ => k b o e) q⟩
theorem items_readK {P0 : Pr} {E : EK} {σ : L2.St} {H : Hp} {R' : It → Hp → Prop} {i : Nat} {kvs : List (Key × V)} (ho : i ∉ O) (h : tMi K P0 O W E (cItems i) σ H R') (e : σ[i]? = some (some (.ref a))) (hf : H a = some (.frz o (.dK kvs))) : iItems (tVar i) σ H R' := by
  obtain ⟨ρ, S, h⟩ := h
  obtain ⟨d, e1, h⟩ := Res.of_nox h
  obtain ⟨ps, e2, h⟩ := Res.of_nox h
  obtain ⟨v, e3, r⟩ := S.val i d (look_some e1) ho
  rw [e] at e3
  cases e3
  by_cases c : szOk ps.length = true
  · rw [if_pos c] at h
    cases d with
    | dik ks ds =>
      cases e2
      unfold Rep at r
      obtain ⟨b, vs, eb, h0, hl, rd, rs⟩ := r
      cases eb
      have ek : kvs = ks.zip vs := by
        rcases rd with rd | ⟨y, rd⟩ <;> (rw [hf] at rd; cases rd)
        rfl
      subst ek
      refine ⟨.ref a, e, a, o, _, rfl, hf, h (Iti a o (ks.zip vs)) H _ S .refl (src_items (J := Iti a o (ks.zip vs)) (mk := HO.dK) (f := keyD) (ds := ds) (o := o) (a := a) (fun i H h1 h2 => ⟨h1, h2⟩) (fun i H h1 h2 => ⟨h1, h2⟩) (fun i H x H' ⟨T, k, v, y1, y2, y3, y4⟩ => ⟨T, k, v, kV k, y1, fun P => rep_key k, y2, y3, y4⟩) hl rs.length) ⟨hf, h0, rs.less (mutK S.dom (.inr ⟨o, hf⟩)) fun b z => .inl z⟩ (of_decide_eq_true c)⟩
    | dit ks ds =>
      unfold Rep at r
      obtain ⟨b, vs, eb, h0, hl, rd, rs⟩ := r
      cases eb
      rcases rd with rd | ⟨y, rd⟩ <;> (rw [hf] at rd; cases rd)
    | _ => cases e2
  · rw [if_neg c] at h; exact h.elim
theorem items_readT {P0 : Pr} {E : EK} {σ : L2.St} {H : Hp} {R' : It → Hp → Prop} {i : Nat} {kvs : List (List Key × V)} (ho : i ∉ O) (h : tMi K P0 O W E (cItems i) σ H R') (e : σ[i]? = some (some (.ref a))) (hf : H a = some (.frz o (.dT kvs))) : iItemsT (tVar i) σ H R' := by
  obtain ⟨ρ, S, h⟩ := h
  obtain ⟨d, e1, h⟩ := Res.of_nox h
  obtain ⟨ps, e2, h⟩ := Res.of_nox h
  obtain ⟨v, e3, r⟩ := S.val i d (look_some e1) ho
  rw [e] at e3
  cases e3
  by_cases c : szOk ps.length = true
  · rw [if_pos c] at h
    cases d with
    | dit ks ds =>
      cases e2
      unfold Rep at r
      obtain ⟨b, vs, eb, h0, hl, rd, rs⟩ := r
      cases eb
      have ek : kvs = ks.zip vs := by
        rcases rd with rd | ⟨y, rd⟩ <;> (rw [hf] at rd; cases rd)
        rfl
      subst ek
      refine ⟨.ref a, e, a, o, _, rfl, hf, h (ItiT a o (ks.zip vs)) H _ S .refl (src_items (J := ItiT a o (ks.zip vs)) (mk := HO.dT) (f := fun k => .tup (k.map keyD)) (ds := ds) (o := o) (a := a) (fun i H h1 h2 => ⟨h1, h2⟩) (fun i H h1 h2 => ⟨h1, h2⟩) (fun i H x H' ⟨T, q, k, v, y1, yq, y2, y3, y4⟩ => ⟨T, k, v, .ref q, y1, fun P => Rep.tup_of yq (reps_keys k), y2, y3, y4⟩) hl rs.length) ⟨hf, h0, rs.less (mutT S.dom (.inr ⟨o, hf⟩)) fun b z => .inl z⟩ (of_decide_eq_true c)⟩
    | dik ks ds =>
      unfold Rep at r
      obtain ⟨b, vs, eb, h0, hl, rd, rs⟩ := r
      cases eb
      rcases rd with rd | ⟨y, rd⟩ <;> (rw [hf] at rd; cases rd)
    | _ => cases e2
  · rw [if_neg c] at h; exact h.elim
end

theorem PS.or {X : Cx} {st : Stmt} {t t' : TS} (h : PS X st t) (h' : PS X st t') : PS X st fun D σ H => t D σ H ∨ t' D σ H :=
  ⟨fun pins s σ H D I q => q.elim (h.run pins s σ H D I) (h'.run pins s σ H D I)⟩
abbrev Ends.lock (a : Addr) (od : Obj) (u : HO) (D : Ends) : Ends := ⟨fun σ' H' => H' a = some (.frz od u) ∧ D.nx σ' (upd H' a u), fun v H' => H' a = some (.frz od u) ∧ D.rt v (upd H' a u), fun σ' H' => H' a = some (.frz od u) ∧ D.bk σ' (upd H' a u), fun σ' H' => H' a = some (.frz od u) ∧ D.ct σ' (upd H' a u)⟩
section
variable {K : PySem.W.Frag} {P0 : Pr} {O W U : List Nat} {E : EK} {ρ : Y.Env} {σ : L2.St} {H : Hp} {m : SM} {D : Ends} {a : Addr} {u : HO}
theorem tSt_lock (S : Sim K P0 O W ρ σ H) {x : Fl × Y.Env} (e : m ρ = .ok x) (h : ∀ σ' H', Sim K P0 O W x.2 σ' H' → Tr O U σ H σ' H' → σ'.length = σ.length → Fin K P0 O H D σ' H' x.1) (hu : DicU u) (ha : H a = some u) (n : ¬ FA P0 O σ a) (od : Obj) : tSt K P0 O W U E m (Ends.lock a od u D) σ (upd H a (.frz od u)) := by
  have S1 : Sim K P0 O W ρ σ (upd H a (.frz od u)) := S.rd hu (fun b h => upd_ne h) (.inl ha) (.inr ⟨od, upd_same⟩) n
  refine ⟨ρ, S1, ?_⟩
  rw [e]
  intro σ' H' S' t l
  have na : ∀ P : Addr → Prop, (∀ b, P b → FA P0 O σ b) → ¬ P a := fun P h z => n (h a z)
  have fr : H' a = some (.frz od u) := t.keep a _ upd_same fun z => n (.inr z)
  have noa : ¬ OA O σ' a := fun z => (t.own a z).elim (fun z => n (.inr z)) fun z => by rw [upd_same] at z; cases z
  have n' : ¬ FA P0 O σ' a := fun z => z.elim (fun z => n (.inl z)) noa
  have k : ∀ b, b ≠ a → upd H' a u b = H' b := fun b h => upd_ne h
  have r1 : Rd H' a u := .inr ⟨od, fr⟩
  have r2 : Rd (upd H' a u) a u := .inl upd_same
  have S2 : Sim K P0 O W x.2 σ' (upd H' a u) := S'.rd hu k r1 r2 n'
  have t2 : Tr O U σ H σ' (upd H' a u) := ⟨fun b o e1 e2 => by
      by_cases hb : b = a
      · rw [hb] at e1 ⊢; rw [upd_same, ← ha, e1]
      · rw [upd_ne hb]; exact t.keep b o (by rw [upd_ne hb]; exact e1) e2, fun b e1 => by
      by_cases hb : b = a
      · rw [hb, upd_same]; intro z; cases z
      · rw [upd_ne hb]; exact t.some b (by rw [upd_ne hb]; exact e1), fun b z => by
      by_cases hb : b = a
      · rw [hb] at z; exact absurd z noa
      · exact (t.own b z).imp id fun q => by rw [upd_ne hb] at q; exact q, t.unch⟩
  have q := h σ' _ S2 t2 l
  obtain ⟨f, ρ'⟩ := x
  cases f with
  | nx => exact ⟨fr, q⟩
  | bk => exact ⟨fr, q⟩
  | ct => exact ⟨fr, q⟩
  | rt hd =>
    intro v r
    refine ⟨fr, q v ?_⟩
    cases hd with
    | fr d => exact ⟨r.1.rd hu k r1 r2, fun m b e => by
        have := r.2 m b e
        by_cases hb : b = a
        · rw [hb, upd_same] at this; cases this
        · rw [upd_ne hb] at this; exact this⟩
    | vl d => exact Rep.rd hu k r1 r2 r
    | ow i => exact r
end
section
variable {X : Cx} {P0 : Pr} {O W U : List Nat} {E : EK} {m : SM}
theorem cs_forItems {i : Nat} {x : Str} {tm : GM} {is vs U' : List Nat} {xs : List Stmt} {p ap cp pos tp : Pos} {elts : List Expr} {kk : Nat} (hp : PassesOwn (model X.prog X.w) X.A X.env X.xe) (hc : X.calm = true) (hg : CG X P0 O W (.Tuple elts kk tp) tm is) (hb : CSs X P0 O W U' E xs m) (hi : i ∉ O := by decide) (ho : ∀ i ∈ is, i ∉ O := by decide) (hu : ∀ i ∈ U', i ∈ O := by decide) (hu' : ∀ i ∈ U, i ∈ U' := by decide)
    (hN : X.N[i]? = some x := by rfl) (hv : Vis X.env.scope x := by first | exact Or.inl rfl | exact Or.inr (Or.inl rfl) | exact Or.inr (Or.inr rfl)) (hd : (x == ("__debug__" : Str)) = false := by decide) (hcd : (x == ("__classdict__" : Str)) = false := by decide)
    (hbase : attributeBase (.Name x p) "items" X.env (eval (.Name x p) X.env) = eval (.Name x p) X.env := by rfl) (hline : (ap.endLine == cp.line) = true := by rfl) (hs : ∀ y, foldedSetIterable (.Call (.Attribute (.Name x p) "items" ap) [] [] cp) X.env y = pure y := by intro _; rfl) :
    CS X P0 O W U E (.For (.Tuple elts kk tp) (.Call (.Attribute (.Name x p) "items" ap) [] [] cp) xs [] pos) (sForD (sFor U' (cItems i) tm m vs)) := by
  have p1 := ps_for hp hc (pi_items (pe_var (i := i) hN hv hd hcd) hbase hline) hg hb hs (pos := pos)
  have p2 := ps_for hp hc (pi_itemsT (pe_var (i := i) hN hv hd hcd) hbase hline) hg hb hs (pos := pos)
  refine PS.imp (PS.or (PS.or p1 (ps_lock p1)) (PS.or p2 (ps_lock p2))) fun D σ H ⟨ρ, S, h⟩ => ?_
  obtain ⟨z, e, h⟩ := Res.of_nox1 h
  have e0 : sFor U' (cItems i) tm m vs ρ = .ok z := e
  unfold sFor at e
  obtain ⟨⟨⟨ds, ws⟩, ρ1⟩, e1, e⟩ := R.ok_of e
  unfold cItems at e1
  obtain ⟨d, e2, e1⟩ := R.ok_of e1
  have e2 := R.nox_of e2
  obtain ⟨ps, e3, e1⟩ := R.ok_of e1
  have e3 := R.nox_of e3
  obtain ⟨v, g1, g2⟩ := S.val i d (look_some e2) hi
  have go : ∀ (D' : Ends) (H' : Hp), tSt X.K P0 O W U E (sFor U' (cItems i) tm m vs) D' σ H' → _ := fun D' H' q => for_core (X := X) (is := is) ho hu hu' D' σ H' q
  cases d with
  | dik ks ds =>
    left
    unfold Rep at g2
    obtain ⟨a, us, rfl, n, hl, rd, rs⟩ := g2
    rcases rd with rd | ⟨od, rd⟩
    · right
      refine ⟨a, _, rd, trivial, fun od => ?_⟩
      exact items_readK hi (go _ _ (tSt_lock (u := HO.dK (ks.zip us)) S e0 h trivial rd n od)) g1 upd_same
    · left
      exact items_readK hi (go D H ⟨ρ, S, by rw [e0]; exact h⟩) g1 rd
  | dit ks ds =>
    right
    unfold Rep at g2
    obtain ⟨a, us, rfl, n, hl, rd, rs⟩ := g2
    rcases rd with rd | ⟨od, rd⟩
    · right
      refine ⟨a, _, rd, trivial, fun od => ?_⟩
      exact items_readT hi (go _ _ (tSt_lock (u := HO.dT (ks.zip us)) S e0 h trivial rd n od)) g1 upd_same
    · left
      exact items_readT hi (go D H ⟨ρ, S, by rw [e0]; exact h⟩) g1 rd
  | _ => cases e3
end
@[simp] theorem e_items {i : Nat} {ρ : Y.Env} : cItems i ρ = ((look i ρ).nox >>= fun d => (dicItems d).nox >>= fun ds => if szOk ds.length = true then R.ok ((ds, []), ρ) else .stk) := id rfl
@[simp] theorem e_forD {m : SM} {ρ : Y.Env} : sForD m ρ = (m ρ).nox := id rfl
@[simp] theorem d_itemsK {ks : List Key} {ds : List D} : dicItems (.dik ks ds) = .ok ((ks.zip ds).map fun p => .tup [keyD p.1, p.2]) := id rfl
@[simp] theorem d_itemsT {ks : List (List Key)} {ds : List D} : dicItems (.dit ks ds) = .ok ((ks.zip ds).map fun p => .tup [.tup (p.1.map keyD), p.2]) := id rfl
end Y

set_option Elab.async false
set_option linter.all false
set_option maxRecDepth 100000
namespace Y
open PySem PySem.Spec PyProof.Rows L2
section
variable {X : Cx} {pins : List (Addr × Obj)} {σ : L2.St} {H : Hp} {s : Shared}
end
variable {ρ : Y.Env}
@[simp] theorem e_dicnew {tup : Bool} {i : Nat} : sDicNew tup i ρ = if i < ρ.length then .ok (.nx, ρ.set i (some (if tup = true then .dit [] [] else .dik [] []))) else .stk := id rfl
@[simp] theorem e_dicAtK {i : Nat} : dicAt i ρ = (match ρ[i]? with | some (some (.dik ks ds)) => .ok (.dik ks ds) | some (some (.dit ks ds)) => .ok (.dit ks ds) | _ => .stk) := id rfl
@[simp] theorem e_dput {i : Nat} {mk mv : EM} : sDPutS i mk mv ρ = (mv ρ >>= fun p => p.1.v.nox >>= fun d => (dicAt i p.2).nox >>= fun _ => mk p.2 >>= fun q => q.1.v.nox >>= fun k => (dicAt i q.2).nox >>= fun x => (putDic x k d).nox >>= fun z => R.ok (.nx, q.2.set i (some z))) := id rfl
@[simp] theorem e_din {neg : Bool} {a b : EM} : cDIn neg b a ρ = (b ρ >>= fun p => a p.2 >>= fun q => (q.1.d q.2).nox >>= fun x => (p.1.d q.2).nox >>= fun y => (getDic x y).nox >>= fun o => R.ok (.fr (.bl (if neg = true then !o.isSome else o.isSome)), q.2)) := id rfl
@[simp] theorem d_putK {ks : List Key} {ds : List D} {i : Int} {d : D} : putDic (.dik ks ds) (.int i) d = if szOk (ks.length + 1) = true then .ok (.dik (putKs ks (.inl i)) (putDs ks ds (.inl i) d)) else .stk := id rfl
@[simp] theorem d_getK {ks : List Key} {ds : List D} {i : Int} : getDic (.dik ks ds) (.int i) = .ok (findD ks ds (.inl i)) := id rfl
end Y

set_option Elab.async false
set_option linter.all false
set_option maxRecDepth 100000
set_option maxHeartbeats 4000000
namespace Y
open PySem PySem.Spec PyProof.Rows L2
section
variable {X : Cx} {pins : List (Addr × Obj)} {σ : L2.St} {H : Hp} {s : Shared}
theorem rawT {d : Addr} {kvs : List (List Key × V)} (I : Inv X pins σ H s) (h : Rd H d (.dT kvs)) :
    (d == sysModules) = false ∧ kvs.length ≤ sizeLine ∧ ∃ (es : Array DictEntry) (ep : Nat), s.heap.DictRaw d es ep ∧ es.size = kvs.length ∧
      ∀ (i : Nat) (hi : i < es.size) (k : List Key) (v : V), kvs[i]? = some (k, v) → ∃ q, es[i].key = .ref q ∧ H q = some (.tup (k.map kV)) ∧ RelV v es[i].val := by
  have t := h.ok I.hok
  rcases t with ⟨hz, hs, xs, pr, o', es, ep, e1, ex, dt, ent, -⟩
  have l1 : es.size = xs.length := by have := congrArg List.length ent; simpa using this
  refine ⟨hs, hz, es, ep, ⟨o', e1, ex, dt⟩, l1.trans (Paired.length pr).symm, fun i hi k v e => ?_⟩
  obtain ⟨b, eb, c1, c2, c3⟩ := paired_get pr e
  have c := congrArg (fun l => l[i]?) ent
  simp only [List.getElem?_map, eb, Option.map_some] at c
  have c4 : es[i] = entryOfKey (tupleKind (mixKind X.prog X.w)) b := by
    have c5 : es.toList[i]? = some es[i] := by rw [Array.getElem?_toList, Array.getElem?_eq_getElem hi]
    rw [c5] at c
    exact Option.some.inj c
  refine ⟨b.2.1, by rw [c4]; rfl, c2, by rw [c4]; exact c3⟩
theorem keyV_of {q : Addr} {ns : List Int} (h : H q = some (.tup (ns.map V.int))) : keyV H (.ref q) = ns := by
  show (match H q with | some (.tup ws) => ws.map intV | _ => []) = ns
  rw [h]
  exact ints_back ns
def rSortDT : List V → Hp → VK → Prop := fun vs H Q => ∃ (a : Addr) (kvs : List (List Key × V)) (ks : List (List Int)), vs = [V.ref a] ∧ Rd H a (.dT kvs) ∧ kvs.map (·.1) = ks.map (·.map Sum.inl) ∧ (2 ≤ ks.length → ∀ k ∈ ks, k ≠ []) ∧
  ∀ ys p, ys.map (keyV H) = sortL ks → (∀ y ∈ ys, ∃ t, y = V.ref t ∧ H t = some (.tup ((keyV H y).map V.int))) → H p = none → Q (.ref p) (upd H p (.lst ys))
theorem kV_ints (ns : List Int) : (ns.map (Sum.inl : Int → Key)).map kV = ns.map V.int := by rw [List.map_map]; rfl
theorem cr_sortDT (hc : X.calm = true) : CallR X (.builtin "sorted") rSortDT := by
  intro pins s σ H vs us Q I r ⟨a, kvs, ks, e0, hd, hks, hne, q⟩
  subst e0
  obtain ⟨u, e3, ru⟩ := vals1 r
  subst e3
  cases (show u = Value.ref a from ru)
  obtain ⟨hs, hz, es, ep, raw, hsz, ent⟩ := rawT I hd
  have lk : ks.length = kvs.length := by have := congrArg List.length hks; simpa using this.symm
  refine Calls.call_function_entry PyProof.Rows.kind_sorted PyProof.Rows.plain_sorted PyProof.Rows.entry_sorted (PyProof.Rows.args_sorted1 _) ?_
  unfold Builtin.«sorted»
  refine wpAny_bind (m := checkCount "sorted" 1 1 _) (wpAny_pure ?_)
  refine wpAny_bind (PySem.W.kdu_collect (A := X.A.in1) (KdlSrc.rawDict (es := es) (ep := ep) hs) (I.ok.hd hc) raw (by rw [hsz]; exact hz) fun h' tk acc hk hacc => ?_)
  have la : acc.toList.length = ks.length := by rw [Array.length_toList, hacc.1, hsz, lk]
  have I1 : Inv X pins σ H { s with heap := h', toks := tk } := I.kept hk
  -- each collected value is a key's tuple
  have each : ∀ (j : Nat) (v : Value), acc.toList[j]? = Option.some v → ∃ q, v = Value.ref q ∧ ∃ k, ks[j]? = some k ∧ H q = some (.tup (k.map V.int)) := fun j v e => by
    obtain ⟨hj, e1⟩ := hacc.2 j v (by rw [← Array.getElem?_toList]; exact e)
    have hj2 : j < kvs.length := by rw [← hsz]; exact hj
    obtain ⟨q, e2, e3, _⟩ := ent j hj kvs[j].1 kvs[j].2 (List.getElem?_eq_getElem hj2)
    have e4 : (kvs.map (·.1))[j]? = some kvs[j].1 := by rw [List.getElem?_map, List.getElem?_eq_getElem hj2]; rfl
    rw [hks, List.getElem?_map] at e4
    cases e5 : ks[j]? with
    | none => rw [e5] at e4; cases e4
    | some k =>
      rw [e5] at e4
      have e6 : k.map Sum.inl = kvs[j].1 := Option.some.inj e4
      exact ⟨q, by rw [e1, e2], k, rfl, by rw [e3, ← e6, kV_ints]⟩
  have each2 : ∀ v ∈ acc.toList, ∃ q, v = Value.ref q ∧ keyV H (backV v) ∈ ks ∧ H q = some (.tup ((keyV H (backV v)).map V.int)) := fun v hv => by
    obtain ⟨j, hj, rfl⟩ := List.mem_iff_getElem.mp hv
    obtain ⟨q, e, k, e1, e2⟩ := each j _ (List.getElem?_eq_getElem hj)
    have e3 : keyV H (backV acc.toList[j]) = k := by rw [e]; exact keyV_of e2
    rw [e3]
    exact ⟨q, e, List.mem_of_getElem? e1, e2⟩
  have keys : acc.toList.map (fun v => keyV H (backV v)) = ks := by
    refine List.ext_getElem? fun j => ?_
    rw [List.getElem?_map]
    cases e : acc.toList[j]? with
    | none =>
      rw [List.getElem?_eq_none_iff] at e
      rw [Option.map_none, List.getElem?_eq_none (by omega)]
    | some v =>
      obtain ⟨q, e1, k, e2, e3⟩ := each j v e
      rw [e2, Option.map_some, e1]
      exact congrArg some (keyV_of e3)
  refine wpAny_bind (wpAny_newList ?_ (by rw [la, lk]; exact hz))
  have hoL : (h'.push (seqObj "list" acc.toList.toArray 0)).get? h'.objs.size = some (seqObj "list" acc.toList.toArray 0) := Heap.get?_push_size _ rfl
  show wpAny _ _ _ _ _ { s with heap := h'.push (seqObj "list" acc.toList.toArray 0), toks := tk }
  refine wpAny_bind (wpAny_holding (wpAny_call_entry PyProof.Rows.slot_list_sort ⟨_, hoL, rfl⟩ PyProof.Rows.entry_list_sort
    (SrtO.list_sort_ord (ltL_swo fun v => keyV H (backV v)) hoL (by rw [la, lk]; exact hz) (fun h2 => ?_) fun out hs1 hs2 => ⟨_, rfl, ?_⟩) (PyProof.Rows.args_list_sort _)))
  · refine tup_sortable (by omega) (fun v hv => ?_) fun o e => ?_
    · obtain ⟨q, e, m, hq⟩ := each2 v hv
      refine ⟨?_, hne (by omega) _ m⟩
      obtain ⟨_, its2, r2, o, ho, hc2, n, hd2⟩ := I1.hok _ _ hq
      rw [e] at hq ⊢
      exact ⟨q, o, _, n, rfl, Heap.get?_push_of_some _ ho, hc2, hd2, by rw [List.toList_toArray]; rw [e] at r2; exact ints_vals r2⟩
    · cases e.symm.trans hoL
      exact fun c => absurd (Value.type.inj c) (by decide)
  · obtain ⟨e', he'⟩ := PyProof.Rows.sortedHeap_at (vs := acc.toList) (out := out.toArray) hoL
    have pm := hs2.perm
    have ho : ∀ u ∈ out, ∃ q, u = Value.ref q ∧ H q = some (.tup ((keyV H (backV u)).map V.int)) := fun u hu => by
      obtain ⟨q, e, _, h⟩ := each2 u (pm.mem_iff.mp hu)
      exact ⟨q, e, h⟩
    have lo : (out.map backV).length ≤ sizeLine := by rw [List.length_map, pm.length_eq, la, lk]; exact hz
    refine wpAny_pure ⟨_, rfl, .ref h'.objs.size, upd H h'.objs.size (.lst (out.map backV)), I1.laid (t' := tk) (fun b u e => ?_) (Nat.le_refl _)
      (show ObjOk X.prog X.w _ _ _ (.lst (out.map backV)) from ⟨lo, out, e', vals_back fun u hu => (ho u hu).imp fun q h => h.1, he'⟩), rfl, q _ _ ?_ (fun y hy => ?_) (I1.hok.fresh (Nat.le_refl _))⟩
    · have hb : b < h'.objs.size := Heap.lt_size e
      rw [PyProof.Rows.sortedHeap_old (Nat.ne_of_lt hb) (by rw [size_push']; exact Nat.lt_succ_of_lt hb)]
      exact Heap.get?_push_of_some _ e
    · rw [List.map_map]
      refine sortL_of ?_ (List.pairwise_map.mpr hs1)
      have := pm.map (keyV H ∘ backV)
      rw [show acc.toList.map (keyV H ∘ backV) = ks from keys] at this
      exact this
    · obtain ⟨u, hu, rfl⟩ := List.mem_map.mp hy
      obtain ⟨q, rfl, h⟩ := ho u hu
      exact ⟨q, rfl, h⟩
end
end Y

set_option Elab.async false
set_option linter.all false
set_option maxRecDepth 100000
set_option maxHeartbeats 4000000
namespace Y
open PySem PySem.Spec PyProof.Rows L2
def leP (a b : PyData) : Bool := !PySem.W.dataLt b a
def leB (a b : D) : Bool := leP (toPy a) (toPy b)
def isTP : PyData → Bool
  | .tuple (_ :: _) => true
  | _ => false
def isOP : PyData → Bool
  | .none => false
  | .tuple _ => false
  | _ => true
def sortsOk (ds : List D) : Bool := (ds.all fun a => (toPy a).canLay0 && decide ((toPy a).depth ≤ 50) && ds.all fun b => PySem.W.alike (toPy a) (toPy b)) && (ds.all (fun a => isTP (toPy a)) || ds.all fun a => isOP (toPy a))
noncomputable def sortGD : List D → R D
  | [.lst ds] => if sortsOk ds = true then .ok (.lst (ds.mergeSort leB)) else .stk
  | _ => .stk
section
variable {K : PySem.W.Frag} {X : Cx} {H : Hp} {P : Pr}
theorem zip_rep : ∀ {ds : List D} {vs : List V}, Reps K H ds P vs → ∀ p ∈ ds.zip vs, Rep K H p.1 P p.2
  | [], vs, h, p, hp => by simp at hp
  | d :: ds, vs, h, p, hp => by
    obtain ⟨v, ws, rfl, h1, h2⟩ := h.cons_iff
    rw [List.zip_cons_cons] at hp
    rcases List.mem_cons.mp hp with rfl | hp
    · exact h1
    · exact zip_rep h2 p hp
theorem reps_zip : ∀ {ps : List (D × V)}, (∀ p ∈ ps, Rep K H p.1 P p.2) → Reps K H (ps.map (·.1)) P (ps.map (·.2))
  | [], _ => Reps.nil
  | p :: ps, h => Reps.cons (h p (by simp)) (reps_zip fun q hq => h q (by simp [hq]))
theorem each_zip : ∀ {ds : List D} {vs : List V} {us : List Value}, vs.length = ds.length → Vals vs us → PySem.W.EachIs (fun u (p : D × V) => RelV p.2 u) us (ds.zip vs)
  | [], vs, us, hl, r => by
    have : vs = [] := List.eq_nil_of_length_eq_zero hl
    subst this
    cases r
    exact .nil
  | d :: ds, [], us, hl, r => by simp at hl
  | d :: ds, v :: vs, _, hl, .cons r t => .cons r (each_zip (by simpa using hl) t)
theorem each_vals : ∀ {us : List Value} {ps : List (D × V)}, PySem.W.EachIs (fun u (p : D × V) => RelV p.2 u) us ps → Vals (ps.map (·.2)) us
  | _, _, .nil => .nil
  | _, _, .cons r t => .cons r (each_vals t)
theorem each_and {α β : Type} {R S : α → β → Prop} : ∀ {as : List α} {bs : List β}, PySem.W.EachIs R as bs → (∀ a b, b ∈ bs → R a b → S a b) → PySem.W.EachIs S as bs
  | _, _, .nil, _ => .nil
  | _, _, .cons r t, h => .cons (h _ _ (by simp) r) (each_and t fun a b hb => h a b (by simp [hb]))
theorem map_fst_zip {ds : List D} {vs : List V} (hl : vs.length = ds.length) : (ds.zip vs).map (·.1) = ds := by
  have := List.map_fst_zip (l₁ := ds) (l₂ := vs) (by omega)
  exact this
theorem cd_sortG (hu : X.A.units + 65 < cLine) : CallR X (.builtin "sorted") (rDs X.K sortGD) := by
  intro pins s σ H xs us Q I r ⟨P, ds, dz, hm, rs, e, out⟩
  unfold sortGD at e
  split at e
  · rename_i ds0
    split at e
    · rename_i c
      cases e
      obtain ⟨v, rfl, r1⟩ := rs.get1
      obtain ⟨a, vs, rfl, h1, h2⟩ := r1.lst
      obtain ⟨u, e3, ru⟩ := vals1 r
      subst e3
      cases (show u = Value.ref a from ru)
      obtain ⟨its, rv, hl, hz⟩ := I.list (SqL.of h1)
      unfold sortsOk at c
      rw [Bool.and_eq_true] at c
      obtain ⟨c1, c2⟩ := c
      rw [List.all_eq_true] at c1
      have c1 : ∀ d ∈ ds0, ((toPy d).canLay0 = true ∧ (toPy d).depth ≤ 50) ∧ ∀ b ∈ ds0, PySem.W.alike (toPy d) (toPy b) = true := fun d hd => by
        have := c1 d hd
        rw [Bool.and_eq_true, Bool.and_eq_true, List.all_eq_true, decide_eq_true_eq] at this
        exact this
      have ll := h2.length
      have mem : ∀ p ∈ ds0.zip vs, p.1 ∈ ds0 := fun p hp => (List.of_mem_zip (a := p.1) (b := p.2) hp).1
      refine PySem.W.sorted_data (R := fun u (p : D × V) => RelV p.2 u) (bs := ds0.zip vs) (enc := fun p => toPy p.1) hl.isList (each_zip ll rv) (each_and (each_zip ll rv) fun u p hp ru => ?_) (fun d hd d' hd' => ?_) ?_ (by rw [List.length_zip, ll, Nat.min_self, ← ll]; exact hz) (fun p hp => ?_) fun o lo ho => ?_
      · have := (c1 p.1 (mem p hp)).1.1
        exact Dp.reads I _ _ _ (Rep.dp p.1 this (zip_rep h2 p hp)) ru
      · obtain ⟨p, hp, rfl⟩ := List.mem_map.mp hd
        obtain ⟨q, hq, rfl⟩ := List.mem_map.mp hd'
        exact (c1 _ (mem p hp)).2 _ (mem q hq)
      · rw [Bool.or_eq_true] at c2
        rcases c2 with c2 | c2
        · refine .inl fun d hd => ?_
          obtain ⟨p, hp, rfl⟩ := List.mem_map.mp hd
          have := List.all_eq_true.mp c2 _ (mem p hp)
          unfold isTP at this
          split at this
          · rename_i x y e; exact ⟨_, _, e⟩
          · cases this
        · refine .inr fun d hd => ?_
          obtain ⟨p, hp, rfl⟩ := List.mem_map.mp hd
          have := List.all_eq_true.mp c2 _ (mem p hp)
          refine ⟨fun z => ?_, fun xs z => ?_⟩ <;> (rw [z] at this; cases this)
      · have := (c1 p.1 (mem p hp)).1.2
        show X.A.units + 2 + (toPy p.1).depth < cLine
        omega
      · obtain ⟨n, hn⟩ := PyProof.Rows.sortedAll_at s.heap its o.toArray
        have hs : ∀ p ∈ (ds0.zip vs).mergeSort (PySem.W.dataLe false fun p : D × V => toPy p.1), p ∈ ds0.zip vs := fun p hp => (List.mergeSort_perm _ _).mem_iff.mp hp
        have hsl : ((ds0.zip vs).mergeSort (PySem.W.dataLe false fun p : D × V => toPy p.1)).length = ds0.length := by rw [List.length_mergeSort, List.length_zip, ll, Nat.min_self]
        have fst : ((ds0.zip vs).mergeSort (PySem.W.dataLe false fun p : D × V => toPy p.1)).map (·.1) = ds0.mergeSort leB := by
          have q := List.map_mergeSort (r := PySem.W.dataLe false fun p : D × V => toPy p.1) (s := leB) (f := Prod.fst) (l := ds0.zip vs) (fun a _ b _ => rfl)
          rw [map_fst_zip ll] at q
          exact q
        refine ⟨.ref (s.heap.objs.size + 1), upd H (s.heap.objs.size + 1) (.lst (((ds0.zip vs).mergeSort (PySem.W.dataLe false fun p : D × V => toPy p.1)).map (·.2))), I.laid (t' := s.toks) (fun _ _ e => PyProof.Rows.sortedAll_old e) (Nat.le_succ _) ⟨by rw [List.length_map, hsl, ← ll]; exact hz, o, n, each_vals ho, hn⟩, rfl, ?_⟩
        have rr := reps_zip (K := X.K) (H := H) (P := P) fun p hp => zip_rep h2 p (hs p hp)
        rw [fst] at rr
        exact out.newL hm rr (I.hok.fresh (Nat.le_succ _))
    · cases e
  · cases e
end
def intsK : List Key → Option (List Int)
  | [] => some []
  | .inl i :: ks => (intsK ks).map (i :: ·)
  | .inr _ :: _ => none
def intsKs : List (List Key) → Option (List (List Int))
  | [] => some []
  | k :: ks => match intsK k, intsKs ks with
    | some n, some ns => some (n :: ns)
    | _, _ => none
theorem intsK_of : ∀ {ks : List Key} {ns : List Int}, intsK ks = some ns → ks = ns.map Sum.inl
  | [], ns, e => by cases e; rfl
  | .inl i :: ks, ns, e => by
    unfold intsK at e
    cases q : intsK ks with
    | none => rw [q] at e; cases e
    | some m => rw [q] at e; cases e; rw [intsK_of q]; rfl
  | .inr _ :: _, ns, e => by cases e
theorem intsKs_of : ∀ {ks : List (List Key)} {ns : List (List Int)}, intsKs ks = some ns → ks = ns.map (·.map Sum.inl)
  | [], ns, e => by cases e; rfl
  | k :: ks, ns, e => by
    unfold intsKs at e
    cases q : intsK k with
    | none => rw [q] at e; simp at e
    | some m =>
      cases q2 : intsKs ks with
      | none => rw [q, q2] at e; simp at e
      | some ms =>
        rw [q, q2] at e
        cases e
        rw [intsK_of q, intsKs_of q2]
        rfl
def sortDD : List D → R D
  | [.dit ks _] => match intsKs ks with
    | some ns => if sortOk ns = true then .ok (.lst ((sortL ns).map fun x => D.tup (x.map D.int))) else .stk
    | none => .stk
  | [.dik ks _] => match intsK ks with
    | some ns => if ns.length < 64 then .ok (.lst ((sortI ns).map D.int)) else .stk
    | none => .stk
  | _ => .stk
section
variable {X : Cx}
theorem zip_fst {κ : Type} {ks : List κ} {vs : List V} (hl : ks.length = vs.length) : (ks.zip vs).map (·.1) = ks := by
  have := List.map_fst_zip (l₁ := ks) (l₂ := vs) (by omega)
  exact this
theorem cd_sortDD (hc : X.calm = true) : CallR X (.builtin "sorted") (rDs X.K sortDD) := by
  intro pins s σ H xs us Q I r ⟨P, ds, dz, hm, rs, e, out⟩
  unfold sortDD at e
  split at e
  · rename_i ks vs0
    cases q : intsKs ks with
    | none => rw [q] at e; cases e
    | some ns =>
      rw [q] at e
      simp only at e
      split at e
      · rename_i ok
        cases e
        obtain ⟨v, rfl, r1⟩ := rs.get1
        obtain ⟨a, vs, rfl, hl, rd, h2⟩ := r1
        have ek := intsKs_of q
        refine cr_sortDT hc pins s σ H _ us Q I r ⟨a, _, ns, rfl, rd, by rw [zip_fst hl]; exact ek, fun h2' k hk z => ?_, fun ys p es hy hp => ?_⟩
        · unfold sortOk at ok
          rw [decide_eq_false (by omega), Bool.false_or, List.all_eq_true] at ok
          have := ok k hk
          rw [z] at this
          cases this
        · have sm : Same H (upd H p (.lst ys)) := Same.new hp
          refine out _ _ sm ?_ fun _ b eb => by cases eb; exact hp
          rw [← es, List.map_map]
          refine Rep.newL hm ?_ hp
          have : ∀ (zs : List V), (∀ z ∈ zs, z ∈ ys) → Reps X.K H (zs.map ((fun x => D.tup (x.map D.int)) ∘ keyV H)) P zs := fun zs => by
            induction zs with
            | nil => intro _; exact Reps.nil
            | cons z zs ih =>
              intro hz
              obtain ⟨t, e1, e2⟩ := hy z (hz z (by simp))
              refine Reps.cons ?_ (ih fun y hy => hz y (by simp [hy]))
              show Rep X.K _ (D.tup ((keyV H z).map D.int)) P z
              unfold Rep
              exact ⟨t, _, e1, e2, reps_ints _⟩
          exact this ys fun z hz => hz
      · cases e
  · rename_i ks vs0
    cases q : intsK ks with
    | none => rw [q] at e; cases e
    | some ns =>
      rw [q] at e
      simp only at e
      split at e
      · rename_i ok
        cases e
        obtain ⟨v, rfl, r1⟩ := rs.get1
        obtain ⟨a, vs, rfl, hl, rd, h2⟩ := r1
        have ek := intsK_of q
        refine call_sortedDI hc pins s σ H _ us Q I r ⟨a, _, ns, rfl, rd, by rw [zip_fst hl]; exact ek, ok, fun ys p pm pw hp => ?_⟩
        have ey : ys = sortI ns := sortI_of pm pw
        rw [ey]
        exact out.newL hm (reps_ints _) hp
      · cases e
  · cases e
end
end Y

set_option Elab.async false
set_option linter.all false
set_option maxRecDepth 100000
namespace Y
open PySem PySem.Spec PyProof.Rows L2
def D1 (p : Addr) (Q : VK) (x y : V) (H2 : Hp) : Prop := H2 p = some (.dT []) ∧ ∃ (q : Addr) (k : List Key), x = .ref q ∧ H2 q = some (.tup (k.map kV)) ∧ Q (.ref p) (upd H2 p (.dT [(k, y)]))
def D1s (p : Addr) (Q : VK) : List (V × V) → Hp → Prop
  | [(x, y)], H2 => D1 p Q x y H2
  | _, _ => False
def tDis1 (tk tv : TE) : TE := fun σ H Q => ∀ p, H p = none → tk σ (upd H p (.dT [])) fun x H1 => tv σ H1 fun y H2 => D1 p Q x y H2
theorem pe_dis1 {X : Cx} {pos : Pos} {ke ve : Expr} {tk tv : TE} (hu : X.A.units + 1 < cLine) (hk : PE X ke tk) (hv : PE X ve tv) : PE X (.Dict [some ke] [ve] pos) (tDis1 tk tv) := by
  refine ⟨fun pins s σ H Q I q => ?_⟩
  have fresh := I.hok.fresh (Nat.le_refl s.heap.objs.size)
  have J := I.laid (a := s.heap.objs.size) (o := .dT []) (h' := s.heap.push { cls := .type "dict", data := .dict #[] }) (t' := s.toks) (fun _ _ z => Heap.get?_push_of_some _ z) (Nat.le_refl _) (dt_empty s.heap I.big)
  have run := (pps_cons hk hv (pps_nil (pos := pos))).run pins _ σ _ (D1s s.heap.objs.size Q) J (q _ fresh)
  have shape : pairTrees [some ke] [ve] X.env pos = (pairTrees [some ke] [ve] X.env pos) := rfl
  obtain ⟨pairs, hp⟩ : ∃ pairs, pairTrees [some ke] [ve] X.env pos = pairs := ⟨_, rfl⟩
  have hl : pairs.length = 1 := by rw [← hp]; rfl
  have hs : (evalEachOpt [some ke] X.env).zip ((evalEach [ve] X.env).map fun v => do let x ← v; standAt pos; pure x) = pairs.map fun p => (some p.1, p.2) := by rw [← hp]; rfl
  rw [arm_eval_Dict, hs, dictDisplay_pairs pairs (by intro z; rw [z] at hl; cases hl) (by omega)]
  rw [hp] at run
  refine wpAny_bind (wpAny_standAt (wpAny_bind (wpAny_subDictH (knd := tupleKind (mixKind X.prog X.w)) (Q := fun d s' => wpAny (model X.prog X.w) X.A (pure (Value.ref d)) (EP X pins σ Q) X.xe s') (by show X.A.units < cLine; omega) (by omega) (wpAny_mono run (fun vs s1 h1 => ?_) fun _ _ e => e))))
  obtain ⟨ps, H2, I2, rel, q2⟩ := h1
  match ps, q2 with
  | [(x, y)], ⟨e, qa, k, ex, eq, q3⟩ =>
  subst ex
  cases rel with
  | @cons _ b _ bs hb ht =>
    cases ht
    obtain ⟨u, w2⟩ := b
    obtain ⟨r1, r2⟩ := hb
    cases (show u = Value.ref qa from r1)
    obtain ⟨z, hd, xs, rx, dd⟩ := dt_of I2.hok e
    cases rx
    refine ⟨[(k, qa, w2)], ⟨rfl, rfl, key_of I2.hok eq, trivial⟩, dd, fun h' tk d2 same => wpAny_pure ?_⟩
    have there : ∃ ob, h'.get? s.heap.objs.size = some ob := let ⟨ob, _, _, hob, _⟩ := d2; ⟨ob, hob⟩
    have ne : qa ≠ s.heap.objs.size := ne_of eq e (by intro z; cases z)
    obtain ⟨o, es, ep, g1, g2, g3, g4, _, g6⟩ := d2
    refine ⟨.ref s.heap.objs.size, _, d_write I2 (by rw [e]; exact True.intro) same there (show ObjOk X.prog X.w _ h' _ (.dT [(k, y)]) from ⟨(by show 1 ≤ sizeLine; decide), hd, [(k, qa, w2)], .cons ⟨rfl, by rw [upd_ne ne]; exact eq, r2⟩ .nil, o, es, ep, g1, g2, g3, g4, g6⟩), rfl, q3⟩
/-- x = {y: None}, x an own slot, y a tuple's name -/
def sDic1 (i j : Nat) : SM := fun ρ => do
  let d ← (look j ρ).nox
  match d with
  | .tup ys => match keysOf ys with
    | some k => if i < ρ.length then pure (.nx, ρ.set i (some (.dit [k] [.non]))) else .stk
    | none => .stk
  | _ => .stk
theorem cs_dic1 {X : Cx} {P0 : Pr} {O W U : List Nat} {E : EK} {i j : Nat} {x y : Str} {p py pc pd pos : Pos} {kc} (hun : X.A.units + 1 < cLine) (hN : X.N.Nodup) (hj : j ∉ O := by decide) (hi : i ∈ O := by decide) (hu : i ∉ U := by decide) (hx : X.N[i]? = some x := by rfl) (hy : X.N[j]? = some y := by rfl)
    (hv : Vis X.env.scope y := by first | exact Or.inl rfl | exact Or.inr (Or.inl rfl) | exact Or.inr (Or.inr rfl)) (hd : (y == ("__debug__" : Str)) = false := by decide) (hcd : (y == ("__classdict__" : Str)) = false := by decide) (hl : Loc X.env.scope x := by first | exact Or.inl rfl | exact Or.inr rfl)
    (hf : X.fn x = true ∨ X.env.scope.names.lookup x = some .local := by first | exact .inl rfl | exact .inr rfl)
    (hs : swapsWithSole [.Name x p] (.Dict [some (.Name y py)] [.Constant .none kc pc] pd) pos.line X.env = pure false := by rfl) (hw : swappedStores [.Name x p] (.Dict [some (.Name y py)] [.Constant .none kc pc] pd) X.env = pure none := by rfl) :
    CS X P0 O W U E (.Assign [.Name x p] (.Dict [some (.Name y py)] [.Constant .none kc pc] pd) pos) (sDic1 i j) := by
  refine PS.imp (ps_asg (pe_dis1 hun (pe_var (i := j) hy hv hd hcd) pe_non) (pg_name hN hx hl hf) hs hw) fun DD σ H ⟨ρ, S, h⟩ => fun q hq => ?_
  obtain ⟨d, e1, h⟩ := Res.of_nox h
  obtain ⟨v, g1, g2⟩ := S.val j d (look_some e1) hj
  cases d <;> first | exact h.elim | skip
  rename_i ys
  have h : Res E O σ H (match keysOf ys with | some k => if i < ρ.length then R.ok (Fl.nx, ρ.set i (some (D.dit [k] [.non]))) else .stk | none => .stk) _ := h
  cases ek : keysOf ys with
  | none => rw [ek] at h; exact h.elim
  | some k =>
    rw [ek] at h
    by_cases hlen : i < ρ.length
    · simp only [if_pos hlen] at h
      unfold Rep at g2
      obtain ⟨a, us, rfl, b1, b2⟩ := g2
      have eu := keysOf_rep b2 ek
      subst eu
      have ne : a ≠ q := ne_of_none b1 hq
      refine ⟨.ref a, g1, upd_same, a, k, rfl, by rw [upd_ne ne]; exact b1, ?_⟩
      have e2 : upd (upd H q (.dT [])) q (.dT [(k, V.non)]) = upd H q (.dT [(k, V.non)]) := upd_upd
      rw [e2]
      exact h _ _ (S.newO hi hlen hq trivial fun P => ⟨q, [V.non], rfl, rfl, upd_same, Reps.cons (by unfold Rep; rfl) Reps.nil⟩) (tr_new S hi hu hlen hq) (by simp)
    · simp only [if_neg hlen] at h; exact h.elim
@[simp] theorem e_dic1 {i j : Nat} {ρ : Y.Env} : sDic1 i j ρ = ((look j ρ).nox >>= fun d => match d with | .tup ys => (match keysOf ys with | some k => if i < ρ.length then R.ok (.nx, ρ.set i (some (.dit [k] [.non]))) else .stk | none => .stk) | _ => .stk) := by
  unfold sDic1; congr
end Y

set_option Elab.async false
set_option linter.all false
set_option maxRecDepth 100000
namespace Y
open PySem PySem.Spec PyProof.Rows L2
section
variable {K : PySem.W.Frag} {X : Cx} {P0 : Pr} {O W U : List Nat} {E : EK} {pos : Pos}
end
section
variable {X : Cx} {P0 : Pr} {O W : List Nat} {E : EK} {a b : Expr} {ma mb : EM} {pos : Pos}
theorem ct_dnin (hu : X.A.units + 1 < cLine) (hb : CEx X P0 O W E b mb) (ha : CEx X P0 O W E a ma) (hm : behindInMarks .NotIn a = false := by rfl) : CT X P0 O W E (.Compare b [.NotIn] [a] pos) (cBl (cDIn true mb ma)) := PT.imp (pt_cmp (pc_dnotin hu hb ha) hm) fun σ H Q h => by
  obtain ⟨ρ, S, h⟩ := tM_bl σ H Q h
  refine ⟨ρ, S, h.of_bind.mono fun ⟨h2, ρ1⟩ q y H1 S1 k1 r2 => ⟨ρ1, S1, (q.keep k1).of_bind.mono fun ⟨h1, ρ2⟩ q2 x H2 S2 k2 r1 => ?_⟩⟩
  obtain ⟨dx, e1, q3⟩ := q2.of_nox
  obtain ⟨dy, e2, q4⟩ := q3.of_nox
  obtain ⟨o, e3, q5⟩ := q4.of_nox
  have rx := r1.d S2 e1
  have ry := (r2.keep S1 k2).d S2 e2
  obtain ⟨c, r, rfl, g, i, _⟩ := getDic_rep rx ry e3
  refine ⟨c, r, rfl, g, ?_⟩
  rw [i]
  exact (out_of (K := X.K) S2 (k1.trans k2) q5).bl
end
@[simp] theorem d_sortDT {ks : List (List Int)} {ds : List D} : sortDD [.dit (ks.map (·.map (Sum.inl : Int → Key))) ds] = if sortOk ks = true then .ok (.lst ((sortL ks).map fun x => D.tup (x.map D.int))) else .stk := by
  have h1 : ∀ n : List Int, intsK (n.map (Sum.inl : Int → Key)) = some n := fun n => by
    induction n with
    | nil => rfl
    | cons x xs ih => rw [List.map_cons]; unfold intsK; rw [ih]; rfl
  have h2 : ∀ ns : List (List Int), intsKs (ns.map (·.map (Sum.inl : Int → Key))) = some ns := fun ns => by
    induction ns with
    | nil => rfl
    | cons x xs ih => rw [List.map_cons]; unfold intsKs; rw [ih, h1]
  show (match intsKs (ks.map (·.map (Sum.inl : Int → Key))) with | some ns => _ | none => _) = _
  rw [h2]
end Y

set_option Elab.async false
set_option linter.all false
set_option maxRecDepth 100000
namespace Y
open PySem PySem.Spec PyProof.Rows L2
def knownB (ρ : Y.Env) (q : Nat) : Bool := match ρ[q]? with | some (some _) => true | _ => false
section
variable {K : PySem.W.Frag} {P0 : Pr} {O W U : List Nat} {ρ ρ1 ρ2 : Y.Env} {σ σ1 σ3 : L2.St} {H H1 H2 H3 : Hp} {i : Nat} {vs : List Nat}
/-- what the state is apart from the new objects A -/
theorem Sim.apart (S1 : Sim K P0 O W ρ1 σ H1) (S2 : Sim K P0 O W ρ2 σ H2) (kp : ∀ b o, H1 b = some o → ¬ OA W σ b → H2 b = some o) {A : Pr} (hA : ∀ b, A b → H1 b = none ∧ isMut (H2 b))
    (c : ∀ (j : Nat) d, ρ2[j]? = some (some d) → (ρ1[j]? = some (some d) ∧ j ∉ W) ∨ (j ∈ O ∧ d.shallow = true) ∨ d.nl = true) : Sim K (fun b => P0 b ∨ A b) O W ρ2 σ H2 := by
  have fa : ∀ b, FA (fun b => P0 b ∨ A b) O σ b → FA P0 O σ b ∨ H1 b = none := fun b z => by
    rcases z with (z | z) | z
    · exact .inl (.inl z)
    · exact .inr (hA b z).1
    · exact .inl (.inr z)
  have kf : ∀ b o, H1 b = some o → ¬ FA P0 O σ b → H2 b = some o := fun b o e n => kp b o e fun z => n (.inr (S1.oaw z))
  refine ⟨S2.sub, S2.len, fun b z => ?_, fun j d e n => ?_, fun j d e n => ?_, S2.sep, fun a z y => ?_⟩
  · rcases z with (z | z) | z
    · exact S2.dom b (.inl z)
    · exact (hA b z).2
    · exact S2.dom b (.inr z)
  · rcases c j d e with ⟨e0, _⟩ | ⟨z, _⟩ | nl
    · obtain ⟨w, h1, h2⟩ := S1.val j d e0 n
      exact ⟨w, h1, h2.mono d S1.dom kf fa⟩
    · exact absurd z n
    · obtain ⟨w, h1, h2⟩ := S2.val j d e n
      exact ⟨w, h1, h2.nl nl⟩
  · rcases c j d e with ⟨e0, hw⟩ | ⟨_, sh⟩ | nl
    · obtain ⟨w, h1, h2⟩ := S1.own j d e0 n
      refine ⟨w, h1, h2.mono S1.dom kf fa fun a o e1 e2 => ?_⟩
      subst e1
      refine kp a o e2 fun ⟨x, hx, ex⟩ => ?_
      have := S1.sep x j a (S1.sub x hx) n ex h1
      exact hw (this ▸ hx)
    · obtain ⟨w, h1, h2⟩ := S2.own j d e n
      exact ⟨w, h1, h2.shallow sh⟩
    · obtain ⟨w, h1, h2⟩ := S2.own j d e n
      refine ⟨w, h1, ?_⟩
      cases d <;> first | exact h2 | (simp [D.nl] at nl)
  · rcases y with y | y
    · exact S2.sep0 a z y
    · have q := S1.dom a (.inr z)
      rw [(hA a y).1] at q
      exact q
end
section
variable {X : Cx} {P0 : Pr} {O W U : List Nat} {E : EK} {XE : XK} {c e e2 : Expr} {es : List Expr} {ms : AM} {mr : EM} {pos pos2 p p2 p3 px : Pos} {k np i : Nat} {name x : Str} {t : BM} {n : SM} {tl : List Stmt} {tr : D → Bool} {R : PySem.W.Frag → Pr → V → Hp → Prop} {vs qs : List Nat}
end
end Y

set_option Elab.async false
set_option linter.all false
set_option maxRecDepth 100000
namespace Y
open PySem PySem.Spec PyProof.Rows L2
section
variable {X : Cx} {pins : List (Addr × Obj)} {σ : L2.St} {H : Hp} {s : Shared} {a b : Addr} {r : Value} {d : V} {k : List Key} {A : Around} {E : Value → Shared → Prop}
theorem d_setdT {kvs : List (List Key × V)} {Q : Value → Shared → Prop} (hu : A.units + 1 < cLine) (I : Inv X pins σ H s) (e : H a = some (.dT kvs)) (eb : H b = some (.tup (k.map kV))) (rd : RelV d r) (hl : kvs.length < sizeLine)
    (h1 : ∀ v, valV kvs k = some v → ∀ (w' : Value) (s' : Shared), Inv X pins σ H s' → RelV v w' → Q w' s') (h2 : valV kvs k = none → ∀ (w' : Value) (s' : Shared), Inv X pins σ (upd H a (.dT (putK kvs k d))) s' → RelV d w' → Q w' s') :
    wpAny (model X.prog X.w) A (call (.builtin "dict.setdefault") [.ref a, .ref b, r]) Q E s := by
  obtain ⟨z, hd, xs, rel, dd⟩ := dt_of I.hok e
  have hz : xs.length ≤ sizeLine := by rw [← Paired.length rel]; exact z
  refine call_setdefault_heap (hsz := hz) (tupleKind_room_in1 hu) (key_of I.hok eb) hd dd (fun p hp => ?_) fun hn h' dd' hs => ?_
  · have q := rel.val k
    rw [hp] at q
    cases q0 : valV kvs k with
    | none => rw [q0] at q; exact (show False from q).elim
    | some v0 => rw [q0] at q; exact h1 v0 q0 _ _ (I.tok _) q
  · have q := rel.val k
    rw [hn] at q
    cases q0 : valV kvs k with
    | some v0 => rw [q0] at q; exact (show False from q).elim
    | none =>
      have hl2 : (putK kvs k d).length ≤ sizeLine := by have := length_putK kvs k d; omega
      refine h2 q0 _ _ ?_ rd
      obtain ⟨q, es, ep, hq, h2, h3, h4, _, h5⟩ := dd'
      refine d_write I (by rw [e]; exact True.intro) hs ⟨q, hq⟩ ⟨hl2, hd, _, (rel.put k eb rd).keeps fun c ys ec => ?_, q, es, ep, hq, h2, h3, h4, h5⟩
      rw [upd_ne (ne_of ec e (fun z => nomatch z))]
      exact ec
end
def tDSetdT (td ty tx : TE) : TE := fun σ H Q => td σ H fun x H1 => ∃ a, x = .ref a ∧ IsD H1 a ∧ ty σ H1 fun y H2 => tx σ H2 fun z H3 => ∃ (kvs : List (List Key × V)) (k : List Key) (b : Addr), H3 a = some (.dT kvs) ∧ y = .ref b ∧ H3 b = some (.tup (k.map kV)) ∧ kvs.length < sizeLine ∧
  (∀ v, valV kvs k = some v → Q v H3) ∧ (valV kvs k = none → Q z (upd H3 a (.dT (putK kvs k z))))
section
variable {X : Cx} {o e f : Expr} {td ty tx : TE} {apos cpos : Pos}
theorem pe_dsetdT (hu : X.A.units + 1 < cLine) (ho : PE X o td) (he : PE X e ty) (hf : PE X f tx) (m : M2 X o "setdefault" apos e f cpos) : PE X (.Call (.Attribute o "setdefault" apos) [e, f] [] cpos) (tDSetdT td ty tx) := by
  refine ⟨fun pins s σ H Q I h => ?_⟩
  refine wpAny_Call_method m.base m.few m.line PySem.F.plainAttrs_dict PySem.F.slot_dict_setdefault PySem.F.type_dict_setdefault (thn (ho.run pins s σ H _ I h) fun u s1 ⟨x, H1, I1, rx, a, ex, d, q1⟩ => ?_)
  subst ex
  obtain rfl : u = Value.ref a := rx
  obtain ⟨t1, t2, _⟩ := isD_at I1 d
  refine ⟨t1, t2, ?_⟩
  rw [m.trees]
  refine Calls.callWith_builtin rfl (Calls.evalArgs_plain (Calls.spliced_cons (thn (he.run pins s1 σ H1 _ I1 q1) fun iv s2 ⟨y, H2, I2, ry, q2⟩ =>
    Calls.spliced_cons (thn (hf.run pins s2 σ H2 _ I2 q2) fun fv s3 ⟨z, H3, I3, rz, kvs, k, b, ea, ey, eb, hl, q3, q4⟩ => Calls.spliced_nil ?_))))
  subst ey
  obtain rfl : iv = Value.ref b := ry
  exact d_setdT hu I3 ea eb rz hl (fun v hv w' s4 I4 rw' => ⟨v, _, I4, rw', q3 v hv⟩) fun hn w' s4 I4 rw' => ⟨z, _, I4, rw', q4 hn⟩
end
abbrev Grp := List (List Key × List Int)
def gAdd (k : List Key) (s : Int) : Grp → Grp
  | [] => [(k, [s])]
  | (k', l) :: g => if k' = k then (k', l ++ [s]) :: g else (k', l) :: gAdd k s g
def grp (ts : List (List Key × Int)) : Grp := ts.foldl (fun g t => gAdd t.1 t.2 g) []
def dGrp (g : Grp) : D := .dit (g.map (·.1)) (g.map fun p => .lst (p.2.map D.int))
def trip : D → Option (List Key × Int)
  | .tup [.int a, .int b, .int s] => some ([.inl a, .inl b], s)
  | _ => none
def trips : List D → Option (List (List Key × Int))
  | [] => some []
  | d :: ds => match trip d, trips ds with
    | some t, some ts => some (t :: ts)
    | _, _ => none
theorem trips_get : ∀ {ds : List D} {ts : List (List Key × Int)} {i : Nat} {d : D}, trips ds = some ts → ds[i]? = some d → ∃ t, ts[i]? = some t ∧ trip d = some t
  | [], ts, i, d, _, e => by simp at e
  | x :: ds, ts, i, d, h, e => by
    unfold trips at h
    cases q : trip x with
    | none => rw [q] at h; simp at h
    | some t =>
      cases q2 : trips ds with
      | none => rw [q, q2] at h; simp at h
      | some ts' =>
        rw [q, q2] at h
        cases h
        cases i with
        | zero => simp at e; subst e; exact ⟨t, rfl, q⟩
        | succ i => simpa using trips_get (i := i) q2 (by simpa using e)
theorem trips_len : ∀ {ds : List D} {ts : List (List Key × Int)}, trips ds = some ts → ts.length = ds.length
  | [], ts, h => by cases h; rfl
  | x :: ds, ts, h => by
    unfold trips at h
    cases q : trip x with
    | none => rw [q] at h; simp at h
    | some t =>
      cases q2 : trips ds with
      | none => rw [q, q2] at h; simp at h
      | some ts' => rw [q, q2] at h; cases h; simp [trips_len q2]
/-- the groups lie in objects of their own, new since H1 -/
def GOk (H1 Hx : Hp) : Grp → List Addr → Prop
  | [], bs => bs = []
  | (_, l) :: g, bs => ∃ b r, bs = b :: r ∧ H1 b = none ∧ Hx b = some (.lst (l.map V.int)) ∧ b ∉ r ∧ GOk H1 Hx g r
def kvG : Grp → List Addr → List (List Key × V)
  | (k, _) :: g, b :: bs => (k, .ref b) :: kvG g bs
  | _, _ => []
section
variable {H1 Hx Hy : Hp}
theorem GOk.keep : ∀ {g : Grp} {bs : List Addr}, GOk H1 Hx g bs → (∀ b ∈ bs, Hy b = Hx b) → GOk H1 Hy g bs
  | [], bs, h, _ => h
  | (_, l) :: g, bs, ⟨b, r, e, h1, h2, h3, h4⟩, k => ⟨b, r, e, h1, by rw [k b (by simp [e])]; exact h2, h3, h4.keep fun c hc => k c (by simp [e, hc])⟩
theorem GOk.mem : ∀ {g : Grp} {bs : List Addr}, GOk H1 Hx g bs → ∀ b ∈ bs, H1 b = none ∧ ∃ l, Hx b = some (.lst l)
  | [], bs, h, b, hb => by
    have h : bs = [] := h
    rw [h] at hb
    cases hb
  | (_, l) :: g, bs, ⟨b0, r, e, h1, h2, h3, h4⟩, b, hb => by
    rw [e] at hb
    rcases List.mem_cons.mp hb with rfl | hb
    · exact ⟨h1, _, h2⟩
    · exact h4.mem b hb
theorem GOk.get {k : List Key} {s : Int} : ∀ {g : Grp} {bs : List Addr} {v : V}, GOk H1 Hx g bs → valV (kvG g bs) k = some v → ∃ b l, v = .ref b ∧ b ∈ bs ∧ Hx b = some (.lst (l.map V.int)) ∧ (∃ k', (k', l) ∈ g) ∧ GOk H1 (upd Hx b (.lst (l.map V.int ++ [.int s]))) (gAdd k s g) bs ∧ kvG (gAdd k s g) bs = kvG g bs
  | [], bs, v, h, e => by cases e
  | (k', l) :: g, bs, v, ⟨b, r, eb, h1, h2, h3, h4⟩, e => by
    subst eb
    unfold gAdd
    by_cases c : k' = k
    · have e : valV ((k', V.ref b) :: kvG g r) k = some v := e
      rw [valV_pos c] at e
      cases e
      rw [if_pos c]
      refine ⟨b, l, rfl, by simp, h2, ⟨k', by simp⟩, ⟨b, r, rfl, h1, by rw [upd_same, List.map_append]; rfl, h3, h4.keep fun c hc => upd_ne fun z => h3 (by rw [← z]; exact hc)⟩, rfl⟩
    · have e : valV ((k', V.ref b) :: kvG g r) k = some v := e
      rw [valV_neg c] at e
      obtain ⟨b2, l2, e1, e2, e3, ⟨k2, ek⟩, e4, e5⟩ := h4.get (s := s) e
      rw [if_neg c]
      refine ⟨b2, l2, e1, by simp [e2], e3, ⟨k2, by simp [ek]⟩, ⟨b, r, rfl, h1, by rw [upd_ne fun z => h3 (by rw [z]; exact e2)]; exact h2, h3, e4⟩, ?_⟩
      show (k', V.ref b) :: kvG (gAdd k s g) r = (k', V.ref b) :: kvG g r
      rw [e5]
theorem putK_cons {k k' : List Key} {v w : V} {r : List (List Key × V)} (c : ¬ k' = k) (hn : valV r k = none) : putK ((k', w) :: r) k v = (k', w) :: putK r k v := by
  have a1 : (r.any fun kv => decide (kv.1 = k)) = false := by rw [valV_any, hn]; rfl
  unfold putK
  rw [List.any_cons, a1]
  have : decide (k' = k) = false := decide_eq_false c
  simp [this]
theorem GOk.snoc {k : List Key} {s : Int} {p : Addr} (hp1 : H1 p = none) (hp : Hx p = some (.lst [.int s])) : ∀ {g : Grp} {bs : List Addr}, GOk H1 Hx g bs → p ∉ bs → valV (kvG g bs) k = none → GOk H1 Hx (gAdd k s g) (bs ++ [p]) ∧ kvG (gAdd k s g) (bs ++ [p]) = putK (kvG g bs) k (.ref p)
  | [], bs, h, np, e => by
    have h : bs = [] := h
    subst h
    exact ⟨⟨p, [], rfl, hp1, hp, by simp, rfl⟩, rfl⟩
  | (k', l) :: g, bs, ⟨b, r, eb, h1, h2, h3, h4⟩, np, e => by
    subst eb
    have c : ¬ k' = k := fun c => by
      have e : valV ((k', V.ref b) :: kvG g r) k = none := e
      rw [valV_pos c] at e
      cases e
    have e : valV ((k', V.ref b) :: kvG g r) k = none := e
    rw [valV_neg c] at e
    obtain ⟨i1, i2⟩ := GOk.snoc hp1 hp (s := s) h4 (fun z => np (by simp [z])) e
    unfold gAdd
    rw [if_neg c]
    refine ⟨⟨b, r ++ [p], rfl, h1, h2, fun z => ?_, i1⟩, ?_⟩
    · rcases List.mem_append.mp z with z | z
      · exact h3 z
      · rw [List.mem_singleton] at z
        exact np (by simp [z])
    · show (k', V.ref b) :: kvG (gAdd k s g) (r ++ [p]) = putK ((k', V.ref b) :: kvG g r) k (.ref p)
      rw [i2, putK_cons c e]
theorem GOk.len : ∀ {g : Grp} {bs : List Addr}, GOk H1 Hx g bs → (kvG g bs).length = g.length ∧ bs.length = g.length
  | [], bs, h => by
    have h : bs = [] := h
    subst h
    exact ⟨rfl, rfl⟩
  | (k, l) :: g, bs, ⟨b, r, e, _, _, _, h⟩ => by
    subst e
    have := h.len
    exact ⟨by show (kvG g r).length + 1 = _; rw [this.1]; rfl, by simp [this.2]⟩
theorem kvG_zip : ∀ {g : Grp} {bs : List Addr}, bs.length = g.length → kvG g bs = (g.map (·.1)).zip (bs.map V.ref)
  | [], bs, h => by cases bs <;> rfl
  | (k, l) :: g, [], h => by simp at h
  | (k, l) :: g, b :: bs, h => by
    show (k, V.ref b) :: kvG g bs = _
    rw [kvG_zip (by simpa using h), List.map_cons, List.map_cons, List.zip_cons_cons]
theorem GOk.reps {K : PySem.W.Frag} {P : Pr} (hP : ∀ b, P b → H1 b ≠ none) : ∀ {g : Grp} {bs : List Addr}, GOk H1 Hx g bs → Reps K Hx (g.map fun p => .lst (p.2.map D.int)) P (bs.map V.ref)
  | [], bs, h => by
    have h : bs = [] := h
    subst h
    exact Reps.nil
  | (k, l) :: g, bs, ⟨b, r, e, h1, h2, _, h⟩ => by
    subst e
    refine Reps.cons ?_ (h.reps hP)
    unfold Rep
    exact ⟨b, _, rfl, fun z => hP b z h1, h2, reps_ints l⟩
end
theorem gAdd_len {k : List Key} {s : Int} : ∀ {g : Grp}, (gAdd k s g).length ≤ g.length + 1
  | [] => by simp [gAdd]
  | (k', l) :: g => by
    unfold gAdd
    split
    · simp
    · simpa using gAdd_len (g := g)
theorem gAdd_le {k : List Key} {s : Int} {m : Nat} : ∀ {g : Grp}, (∀ p ∈ g, p.2.length ≤ m) → ∀ p ∈ gAdd k s g, p.2.length ≤ m + 1
  | [], _, p, hp => by simp [gAdd] at hp; subst hp; simp
  | (k', l) :: g, h, p, hp => by
    unfold gAdd at hp
    split at hp
    · rcases List.mem_cons.mp hp with rfl | hp
      · have := h (k', l) (by simp)
        simpa using this
      · have := h p (by simp [hp])
        omega
    · rcases List.mem_cons.mp hp with rfl | hp
      · have := h (k', l) (by simp)
        exact Nat.le_succ_of_le this
      · exact gAdd_le (fun q hq => h q (by simp [hq])) p hp
theorem grp_snoc {ts : List (List Key × Int)} {i : Nat} {t : List Key × Int} (h : ts[i]? = some t) : grp (ts.take (i + 1)) = gAdd t.1 t.2 (grp (ts.take i)) := by
  unfold grp
  rw [List.take_add_one, h, List.foldl_append]
  rfl
section
variable {K : PySem.W.Frag} {P0 : Pr} {O W U : List Nat} {ρ : Y.Env} {σ σ3 : L2.St} {H1 H3 : Hp} {i : Nat} {sl : List Nat}
/-- an own slot's object was changed, all else that stood stands -/
theorem Sim.group (S : Sim K P0 O W ρ σ H1) {dd : Addr} (hi : i ∈ O) (hdd : σ[i]? = some (some (.ref dd))) (kp : ∀ b o, H1 b = some o → b ≠ dd → H3 b = some o) (mu : isMut (H3 dd)) (hsl : ∀ j ∈ sl, j ∉ O) (hσ : ∀ j, j ∉ sl → σ3[j]? = σ[j]?) (hl : σ3.length = σ.length)
    (o : Option D) (ho : ∀ d, o = some d → RepO K H3 d (FA P0 O σ) (.ref dd)) : Sim K P0 O W (wipeE (ρ.set i o) sl) σ3 H3 := by
  have sO : ∀ j ∈ O, σ3[j]? = σ[j]? := fun j hj => hσ j fun z => hsl j z hj
  have oa : ∀ b, OA O σ3 b ↔ OA O σ b := OA_of sO
  have fa : ∀ b, FA P0 O σ3 b ↔ FA P0 O σ b := fun b => or_congr Iff.rfl (oa b)
  have ddA : FA P0 O σ dd := .inr ⟨i, hi, hdd⟩
  have kf : ∀ b o, H1 b = some o → ¬ FA P0 O σ b → H3 b = some o := fun b o e n => kp b o e fun z => n (by rw [z]; exact ddA)
  have get : ∀ j d, (wipeE (ρ.set i o) sl)[j]? = some (some d) → j ∉ sl ∧ ((j = i ∧ o = some d) ∨ (j ≠ i ∧ ρ[j]? = some (some d))) := fun j d e => by
    obtain ⟨e1, e2⟩ := wipeE_some e
    refine ⟨e2, ?_⟩
    by_cases c : i = j
    · subst c
      have h1 : i < ρ.length := by have := (List.getElem?_eq_some_iff.mp e1).1; simpa using this
      rw [List.getElem?_set_self h1] at e1
      exact .inl ⟨rfl, by simpa using e1⟩
    · rw [List.getElem?_set_ne c] at e1
      exact .inr ⟨fun z => c z.symm, e1⟩
  refine ⟨S.sub, by rw [wipeE_length, List.length_set, hl]; exact S.len, fun b z => ?_, fun j d e n => ?_, fun j d e n => ?_, fun x y a hx hy e1 e2 => S.sep x y a hx hy (by rw [← sO x hx]; exact e1) (by rw [← sO y hy]; exact e2), fun a z y => S.sep0 a ((oa a).mp z) y⟩
  · have z := (fa b).mp z
    by_cases c : b = dd
    · rw [c]; exact mu
    · have q := S.dom b z
      cases e : H1 b with
      | none => rw [e] at q; exact q.elim
      | some o => rw [kp b o e c, ← e]; exact q
  · obtain ⟨e2, e3⟩ := get j d e
    rcases e3 with ⟨rfl, _⟩ | ⟨_, e3⟩
    · exact absurd hi n
    · obtain ⟨v, h1, h2⟩ := S.val j d e3 n
      exact ⟨v, by rw [hσ j e2]; exact h1, h2.mono d S.dom kf fun b z => .inl ((fa b).mp z)⟩
  · obtain ⟨e2, e3⟩ := get j d e
    rcases e3 with ⟨rfl, e3⟩ | ⟨ne, e3⟩
    · refine ⟨.ref dd, by rw [hσ j e2]; exact hdd, (ho d e3).mono (fun b z => ?_) (fun _ _ e _ => e) (fun b z => .inl ((fa b).mp z)) fun _ _ _ e => e⟩
      by_cases c : b = dd
      · rw [c]; exact mu
      · have q := S.dom b z
        cases e : H1 b with
        | none => rw [e] at q; exact q.elim
        | some o => rw [kp b o e c, ← e]; exact q
    · obtain ⟨v, h1, h2⟩ := S.own j d e3 n
      refine ⟨v, by rw [hσ j e2]; exact h1, h2.mono S.dom kf (fun b z => .inl ((fa b).mp z)) fun a o e4 e5 => kp a o e5 fun z => ?_⟩
      subst e4
      exact ne (S.sep j i a n hi h1 (by rw [z]; exact hdd))
end
noncomputable def sGroup (i : Nat) (im : IM) (sl : List Nat) : SM := fun ρ => do
  let ((ds, ws), ρ1) ← im ρ
  match ws, ρ1[i]?, trips ds with
  | [], some (some (.dit [] [])), some ts => if ts.length < 1000000 ∧ (sl.all fun j => decide (j < ρ1.length)) = true then pure (.nx, wipeE (ρ1.set i (some (dGrp (grp ts)))) sl) else .stk
  | _, _, _ => .stk
section
variable {X : Cx} {P0 : Pr} {O W U : List Nat} {E : EK} {tg iter : Expr} {pos pos3 p1 p2 p3 p4 p5 ap ap2 cp cp2 : Pos} {x ya yb ys : Str}
theorem set3 {ρ : Y.Env} {a b s : Nat} {x y z : D} (hnd : [a, b, s].Nodup) (la : a < ρ.length) (lb : b < ρ.length) (ls : s < ρ.length) : (setAll ρ [a, b, s] [x, y, z])[a]? = some (some x) ∧ (setAll ρ [a, b, s] [x, y, z])[b]? = some (some y) ∧ (setAll ρ [a, b, s] [x, y, z])[s]? = some (some z) := by
  simp only [List.nodup_cons, List.mem_cons, List.not_mem_nil, or_false, not_or, List.nodup_nil] at hnd
  obtain ⟨⟨n1, n2⟩, n3, _⟩ := hnd
  show (((ρ.set a (some x)).set b (some y)).set s (some z))[a]? = _ ∧ (((ρ.set a (some x)).set b (some y)).set s (some z))[b]? = _ ∧ (((ρ.set a (some x)).set b (some y)).set s (some z))[s]? = _
  refine ⟨?_, ?_, ?_⟩
  · rw [List.getElem?_set_ne (Ne.symm n2), List.getElem?_set_ne (Ne.symm n1), List.getElem?_set_self la]
  · rw [List.getElem?_set_ne (Ne.symm n3), List.getElem?_set_self (by simpa using lb)]
  · rw [List.getElem?_set_self (by simpa using ls)]
theorem trip_of {d : D} {t : List Key × Int} (h : trip d = some t) : ∃ A B S : Int, d = .tup [.int A, .int B, .int S] ∧ t = ([.inl A, .inl B], S) := by
  unfold trip at h
  split at h
  · cases h; exact ⟨_, _, _, rfl, rfl⟩
  · cases h
theorem cs_group {i a b s tk : Nat} {im : IM} {posE pq : Pos} (hu : X.A.units + 1 < cLine) (hp : PassesOwn (model X.prog X.w) X.A X.env X.xe) (hc : X.calm = true) (hi : CI X P0 O W E tg iter im) (hg : CG X P0 O W tg (tmTup [a, b, s]) [a, b, s])
    (hx : X.N[i]? = some x) (hvx : Vis X.env.scope x) (ha : X.N[a]? = some ya) (hva : Vis X.env.scope ya) (hb : X.N[b]? = some yb) (hvb : Vis X.env.scope yb) (hs' : X.N[s]? = some ys) (hvs : Vis X.env.scope ys)
    (hd : (x == ("__debug__" : Str)) = false) (hcd : (x == ("__classdict__" : Str)) = false) (hda : (ya == ("__debug__" : Str)) = false) (hcda : (ya == ("__classdict__" : Str)) = false) (hdb : (yb == ("__debug__" : Str)) = false) (hcdb : (yb == ("__classdict__" : Str)) = false) (hds : (ys == ("__debug__" : Str)) = false) (hcds : (ys == ("__classdict__" : Str)) = false)
    (hiO : i ∈ O := by decide) (hiU : i ∉ U := by decide) (ho : ∀ j ∈ [a, b, s], j ∉ O := by decide) (hu' : ∀ j ∈ U, j ∈ O := by decide) (hnd : [a, b, s].Nodup := by decide)
    (hs : ∀ z, foldedSetIterable iter X.env z = pure z := by intro _; rfl)
    (m : M2 X (.Name x p1) "setdefault" ap (.Tuple [.Name ya p2, .Name yb p3] tk p4) (.List [] p5) cp := by exact ⟨rfl, rfl, rfl, rfl⟩)
    (he : starEach [.Name ys pq] X.env = (false, eval (.Name ys pq) X.env) :: starEach [] X.env := by rfl) (hpl : (backTo cp2 (starEach [] X.env)).any (·.1) = false := by rfl)
    (hbase : attributeBase (.Call (.Attribute (.Name x p1) "setdefault" ap) [.Tuple [.Name ya p2, .Name yb p3] tk p4, .List [] p5] [] cp) "append" X.env (eval (.Call (.Attribute (.Name x p1) "setdefault" ap) [.Tuple [.Name ya p2, .Name yb p3] tk p4, .List [] p5] [] cp) X.env) = eval (.Call (.Attribute (.Name x p1) "setdefault" ap) [.Tuple [.Name ya p2, .Name yb p3] tk p4, .List [] p5] [] cp) X.env := by rfl)
    (hline : (ap2.endLine == cp2.line) = true := by rfl) (hfew : Few X cp2 [.Name ys pq] := by rfl)
    (he1 : starEach [.Name ya p2, .Name yb p3] X.env = (false, eval (.Name ya p2) X.env) :: starEach [.Name yb p3] X.env := by rfl) (he2 : starEach [.Name yb p3] X.env = (false, eval (.Name yb p3) X.env) :: starEach [] X.env := by rfl)
    (hsw : swapsWith (.Call (.Attribute (.Call (.Attribute (.Name x p1) "setdefault" ap) [.Tuple [.Name ya p2, .Name yb p3] tk p4, .List [] p5] [] cp) "append" ap2) [.Name ys pq] [] cp2) none posE.line X.env = pure false := by rfl) :
    CS X P0 O W U E (.For tg iter [.Expr (.Call (.Attribute (.Call (.Attribute (.Name x p1) "setdefault" ap) [.Tuple [.Name ya p2, .Name yb p3] tk p4, .List [] p5] [] cp) "append" ap2) [.Name ys pq] [] cp2) posE] [] pos) (sGroup i im [a, b, s]) := by
  refine PS.imp (ps_for hp hc hi hg (pss_one (ps_expr (pe_bm PySem.F.plainAttrs_list PySem.F.slot_list_append PySem.F.type_list_append mt_append
    (pe_dsetdT hu (pe_var (i := i) hx hvx hd hcd) (pe_tup (pa_cons (pe_var (i := a) ha hva hda hcda) (pa_cons (pe_var (i := b) hb hvb hdb hcdb) pa_nil he2) he1)) (pe_lst pa_nil) m)
    (pa_cons (pe_var (i := s) hs' hvs hds hcds) pa_nil he) hbase hfew hline he hpl) hsw)) hs) fun D σ H ⟨ρ, S, h⟩ => ?_
  refine ⟨ρ, S, (h.of_bind.down S.sub).mono fun ⟨⟨ds, ws⟩, ρ1⟩ q J H1 Ok S1 k1 src ok hz => ?_⟩
  cases ws with
  | cons _ _ => exact q.elim
  | nil =>
  cases e1 : ρ1[i]? with
  | none => simp only [e1] at q; exact q.elim
  | some o1 =>
  by_cases eo : o1 = some (.dit [] [])
  case neg =>
    exfalso
    simp only [e1] at q
    cases o1 with
    | none => exact q
    | some d1 =>
      cases d1 with
      | dit ks vs =>
        cases ks with
        | nil =>
          cases vs with
          | nil => exact eo rfl
          | cons _ _ => exact q
        | cons _ _ => exact q
      | _ => exact q
  subst eo
  cases e2 : trips ds with
  | none => simp only [e1, e2] at q; exact q.elim
  | some ts =>
  simp only [e1, e2] at q
  by_cases c : ts.length < 1000000 ∧ ([a, b, s].all fun j => decide (j < ρ1.length)) = true
  case neg => rw [if_neg c] at q; exact q.elim
  rw [if_pos c] at q
  have lt : ∀ j ∈ [a, b, s], j < ρ1.length := fun j hj => of_decide_eq_true (List.all_eq_true.mp c.2 j hj)
  have tl := trips_len e2
  obtain ⟨v, hv, dd, vs, rfl, hvl, hdd, _⟩ := S1.own i _ e1 hiO
  have hdd : H1 dd = some (.dT []) := by rw [hdd]; rfl
  have ddA : OA O σ dd := ⟨i, hiO, hv⟩
  have q : ∀ σ' H', Sim X.K P0 O W (wipeE (ρ1.set i (some (dGrp (grp ts)))) [a, b, s]) σ' H' → Tr O U σ H σ' H' → σ'.length = σ.length → D.nx σ' H' := q
  let I : Nat → L2.St → Hp → Prop := fun t σx Hx => t ≤ ds.length ∧ (∀ j, j ∉ [a, b, s] → σx[j]? = σ[j]?) ∧ σx.length = σ.length ∧ (∀ b o, H1 b = some o → b ≠ dd → Hx b = some o) ∧
    ∃ bs, GOk H1 Hx (grp (ts.take t)) bs ∧ Hx dd = some (.dT (kvG (grp (ts.take t)) bs)) ∧ (grp (ts.take t)).length ≤ t ∧ ∀ p ∈ grp (ts.take t), p.2.length ≤ t
  refine ⟨fun t k σx Hx => k = ds.length - t ∧ I t σx Hx, ⟨ds.length, by simp, Nat.zero_le _, fun _ _ => rfl, rfl, fun _ _ e _ => e, [], rfl, hdd, Nat.le_refl _, fun p hp => by simp [grp] at hp⟩, ?_⟩
  rintro t k σx Hx ⟨rfl, htl, hσ, hl, kp, bs, gok, hdx, g1, g2⟩
  have Sx : Sim X.K P0 O W (wipeE (ρ1.set i none) [a, b, s]) σx Hx := S1.group hiO hv kp (by rw [hdx]; trivial) ho hσ hl none fun d e => by cases e
  have sO : ∀ j ∈ O, σx[j]? = σ[j]? := fun j hj => hσ j fun z => ho j z hj
  have okx := src.keep P0 ρ1 σ H1 (wipeE (ρ1.set i none) [a, b, s]) σx Hx S1 (fun b o e n => kp b o e fun z => n (by rw [z]; exact .inr ddA)) (fun b z => .inl (z.imp id (OA_of sO b).mp)) (fun w hw => nomatch hw) ok
  by_cases hlt : t < ds.length
  · right
    refine ⟨src.go P0 t _ σx Hx Sx okx hlt, I (t + 1), fun σ' H' p' => ⟨ds.length - (t + 1), by omega, rfl, p'⟩, fun x' H' y => ?_⟩
    have gd : ds[t]? = some ds[t] := List.getElem?_eq_getElem hlt
    obtain ⟨sm, rx⟩ := src.yld P0 t _ σx Hx x' H' ds[t] Sx okx gd y
    obtain ⟨tt, et, etr⟩ := trips_get e2 gd
    obtain ⟨A, B, Sg, ed, ett⟩ := trip_of etr
    rw [ed] at rx
    subst ett
    have lρ : (wipeE (ρ1.set i none) [a, b, s]).length = ρ1.length := by rw [wipeE_length, List.length_set]
    refine ⟨wipeE (ρ1.set i none) [a, b, s], .tup [.int A, .int B, .int Sg], setAll (wipeE (ρ1.set i none) [a, b, s]) [a, b, s] [.int A, .int B, .int Sg], Sx.same sm, rx, rfl, fun σ2 S2 l2 ag => ?_⟩
    obtain ⟨ga, gb, gs⟩ := set3 (x := .int A) (y := .int B) (z := .int Sg) hnd (by rw [lρ]; exact lt a (by simp)) (by rw [lρ]; exact lt b (by simp)) (by rw [lρ]; exact lt s (by simp))
    obtain ⟨va, ea, ra⟩ := S2.val a _ ga (ho a (by simp))
    obtain ⟨vb, eb, rb⟩ := S2.val b _ gb (ho b (by simp))
    obtain ⟨vs, es, rs⟩ := S2.val s _ gs (ho s (by simp))
    unfold Rep at ra rb rs
    subst ra rb rs
    have ni : i ∉ [a, b, s] := fun z => ho i z hiO
    have hv2 : σ2[i]? = some (some (.ref dd)) := by rw [ag i ni, hσ i ni]; exact hv
    have hd' : H' dd = some (.dT (kvG (grp (ts.take t)) bs)) := sm dd _ hdx
    have gl := gok.len
    have gm := gok.mem
    refine ⟨.ref dd, hv2, dd, rfl, .inr ⟨_, .inl hd'⟩, .int A, ea, .int B, eb, by show 2 ≤ sizeLine; decide, fun q1 hq1 => ⟨by show 0 ≤ sizeLine; decide, fun q2 hq2 => ?_⟩⟩
    have n1 : dd ≠ q1 := ne_of_none hd' hq1
    have hq2' : H' q2 = none := by
      by_cases z : q2 = q1
      · rw [z]; exact hq1
      · rwa [upd_ne z] at hq2
    have n2 : dd ≠ q2 := ne_of_none hd' hq2'
    have n12 : q1 ≠ q2 := fun z => by rw [← z, upd_same] at hq2; cases hq2
    have old : ∀ c o, H' c = some o → upd (upd H' q1 (.tup [.int A, .int B])) q2 (.lst []) c = some o := fun c o e => by
      rw [upd_ne (ne_of_none e hq2'), upd_ne (ne_of_none e hq1)]; exact e
    have sz : sizeLine = 16777216 := by decide
    have hH1 : ∀ c, H1 c ≠ none → c ≠ dd → H' c ≠ none := fun c hc nc => by
      cases z : H1 c with
      | none => exact absurd z hc
      | some o => rw [sm c o (kp c o z nc)]; intro y; cases y
    have hq1n : H1 q1 = none := Classical.byContradiction fun z => hH1 q1 z (Ne.symm n1) hq1
    have hq2n : H1 q2 = none := Classical.byContradiction fun z => hH1 q2 z (Ne.symm n2) hq2'
    have bdd : ∀ c ∈ bs, c ≠ dd := fun c hc z => by
      have := (gm c hc).1
      rw [z, hdd] at this
      cases this
    have ts1 : ts[t]? = some ([.inl A, .inl B], Sg) := et
    have snoc := grp_snoc ts1
    have kpH : ∀ (Hn : Hp), (∀ c o, H' c = some o → H1 c ≠ none → c ≠ dd → Hn c = some o) → ∀ c o, H1 c = some o → c ≠ dd → Hn c = some o := fun Hn hk c o e nc => hk c o (sm c o (kp c o e nc)) (by rw [e]; intro z; cases z) nc
    refine ⟨kvG (grp (ts.take t)) bs, [.inl A, .inl B], q1, old dd _ hd', rfl, by rw [upd_ne n12, upd_same]; rfl, by rw [gl.1, sz]; omega, fun w hw => ?_, fun hn => ?_⟩
    · obtain ⟨b0, l0, rfl, b1, b2, ⟨k0, hk0⟩, _, _⟩ := gok.get (s := Sg) hw
      have gokP : GOk H1 (upd (upd H' q1 (.tup [.int A, .int B])) q2 (.lst [])) (grp (ts.take t)) bs := gok.keep fun c hc => by
        obtain ⟨_, l, e⟩ := gm c hc
        rw [e]; exact old c _ (sm c _ e)
      obtain ⟨b0', l0', eb0, b1', b2', ⟨k0', hk0'⟩, g3, g4⟩ := gokP.get (s := Sg) hw
      cases eb0
      have ll := g2 _ hk0'
      refine ⟨.inl ⟨rfl, _, SqL.of b2'⟩, .int Sg, es, b0, _, .int Sg, rfl, rfl, b2', by rw [List.length_map, sz]; have := ll; simp only at this; omega, ?_⟩
      refine ⟨by omega, fun j hj => by rw [ag j hj, hσ j hj], by rw [l2, hl], kpH _ fun c o e hc nc => ?_, bs, by rw [snoc]; exact g3, ?_, ?_, ?_⟩
      · rw [upd_ne fun z => hc (by rw [z]; exact (gm b0 b1).1)]
        exact old c o e
      · rw [snoc, g4, upd_ne (Ne.symm (bdd b0 b1))]
        exact old dd _ hd'
      · rw [snoc]; exact Nat.le_trans gAdd_len (by omega)
      · rw [snoc]; exact gAdd_le g2
    · have e4 : upd (upd (upd H' q1 (.tup [.int A, .int B])) q2 (.lst [])) dd (.dT (putK (kvG (grp (ts.take t)) bs) [.inl A, .inl B] (.ref q2))) q2 = some (.lst []) := by rw [upd_ne (Ne.symm n2), upd_same]
      refine ⟨.inl ⟨rfl, _, SqL.of e4⟩, .int Sg, es, q2, [], .int Sg, rfl, rfl, e4, by show 0 < sizeLine; decide, ?_⟩
      have gokP : GOk H1 (upd (upd (upd (upd H' q1 (.tup [.int A, .int B])) q2 (.lst [])) dd (.dT (putK (kvG (grp (ts.take t)) bs) [.inl A, .inl B] (.ref q2)))) q2 (.lst ([] ++ [.int Sg]))) (grp (ts.take t)) bs := gok.keep fun c hc => by
        obtain ⟨_, l, e⟩ := gm c hc
        rw [e, upd_ne (ne_of_none (sm c _ e) hq2'), upd_ne (bdd c hc)]
        exact old c _ (sm c _ e)
      have nq : q2 ∉ bs := fun z => by
        obtain ⟨_, l, e⟩ := gm q2 z
        rw [sm q2 _ e] at hq2'
        cases hq2'
      obtain ⟨g3, g4⟩ := GOk.snoc (k := [.inl A, .inl B]) (s := Sg) hq2n (by rw [upd_same]; rfl) gokP nq hn
      refine ⟨by omega, fun j hj => by rw [ag j hj, hσ j hj], by rw [l2, hl], kpH _ fun c o e hc nc => ?_, bs ++ [q2], by rw [snoc]; exact g3, ?_, ?_, ?_⟩
      · rw [upd_ne (ne_of_none e hq2'), upd_ne nc]
        exact old c o e
      · rw [snoc, g4, upd_ne n2, upd_same]
      · rw [snoc]; exact Nat.le_trans gAdd_len (by omega)
      · rw [snoc]; exact gAdd_le g2
  · left
    have et : t = ds.length := by omega
    have tk' : ts.take t = ts := List.take_of_length_le (by omega)
    rw [tk'] at gok hdx
    refine ⟨by rw [et]; exact src.stop P0 _ σx Hx Sx (by rw [et] at *; exact okx), ?_⟩
    have Sf : Sim X.K P0 O W (wipeE (ρ1.set i (some (dGrp (grp ts)))) [a, b, s]) σx Hx := S1.group hiO hv kp (by rw [hdx]; trivial) ho hσ hl _ fun d e => by
      cases e
      have gl := gok.len
      refine ⟨dd, bs.map V.ref, rfl, by rw [List.length_map, List.length_map, gl.2], by rw [hdx, kvG_zip gl.2], gok.reps fun b z => ?_⟩
      have := S1.dom b z
      intro y
      rw [y] at this
      exact this
    refine q σx Hx Sf ((Tr.of S.sub k1).trans ⟨fun b o e n => kp b o e fun z => n (by rw [z]; exact ddA), fun b e => ?_, fun b z => .inl ((OA_of sO b).mp z), fun j hj => sO j (hu' j hj)⟩) hl
    by_cases z : b = dd
    · rw [z, hdx]; intro y; cases y
    · cases w : H1 b with
      | none => exact absurd w e
      | some o => rw [kp b o w z]; intro y; cases y
end
@[simp] theorem e_group {i : Nat} {im : IM} {sl : List Nat} {ρ : Y.Env} : sGroup i im sl ρ = (im ρ >>= fun p => match p.1.2, p.2[i]?, trips p.1.1 with | [], some (some (.dit [] [])), some ts => if ts.length < 1000000 ∧ (sl.all fun j => decide (j < p.2.length)) = true then R.ok (.nx, wipeE (p.2.set i (some (dGrp (grp ts)))) sl) else .stk | _, _, _ => .stk) := id rfl
end Y

set_option Elab.async false
set_option linter.all false
set_option maxRecDepth 100000
namespace Y
open PySem PySem.Spec PyProof.Rows L2
section
variable {prog : Program} {w : World} {A : Around} {E : Value → Shared → Prop} {s : Shared}
end
section
variable {X : Cx}
end
end Y

set_option Elab.async false
set_option linter.all false
set_option maxRecDepth 100000
namespace Y
open PySem PySem.Spec PyProof.Rows L2
theorem SqL.laid {K : PySem.W.Frag} {H : Hp} {a D : Addr} {xs : List V} {o : HO} (h : SqL K H a xs) (n : H D = none) : SqL K (upd H D o) a xs := by
  rcases h with h | h
  · refine .inl (h.imp (fun e => ?_) fun ⟨o, e⟩ => ⟨o, ?_⟩)
    · rw [upd_ne (ne_of_none e n)]; exact e
    · rw [upd_ne (ne_of_none e n)]; exact e
  · exact .inr h
section
variable {X : Cx} {i j : Nat}
end
end Y

set_option Elab.async false
set_option linter.all false
set_option maxRecDepth 100000
namespace Y
open PySem PySem.Spec PyProof.Rows L2
theorem _root_.L2H.RoomH.units65 {k : Nat} {A : Around} (r : L2H.RoomH k A) : A.units + 65 < cLine := by have := r.un; omega
section
variable {X : Cx} {P0 : Pr} {O W U : List Nat} {i : Nat} {ad : Addr} {a b c e : Expr} {es : List Expr} {ma mb mc : EM} {ms : AM} {bm bn : BM} {pos : Pos}
end
end Y

set_option Elab.async false
set_option linter.all false
set_option maxRecDepth 100000
namespace Y
open PySem PySem.Spec PyProof.Rows L2
theorem _root_.L2H.RoomH.units {k : Nat} {A : Around} (r : L2H.RoomH k A) : A.units + 64 < cLine := by have := r.un; omega
section
variable {X : Cx} {P0 : Pr} {O W U : List Nat} {i j : Nat}
end
end Y

set_option Elab.async false
set_option linter.all false
set_option maxRecDepth 100000
namespace Y
open PySem PySem.Spec PyProof.Rows L2
section
variable {K : PySem.W.Frag} {O W : List Nat} {a : Addr} {o : Obj}
end
section
variable {X : Cx} {P0 : Pr} {O W U : List Nat} {E : EK} {tg e : Expr} {ma : EM}
end
variable {ρ : Env}
end Y

set_option Elab.async false
set_option linter.all false
set_option maxRecDepth 100000
namespace Y
open PySem PySem.Spec PyProof.Rows L2
section
variable {prog : Program} {w : World} {A : Around} {E : Value → Shared → Prop}
end
section
variable {X : Cx}
end
end Y

set_option Elab.async false
set_option linter.all false
set_option maxRecDepth 100000
namespace Y
open PySem PySem.Spec PyProof.Rows L2
section
variable {prog : Program} {w : World} {A : Around} {E : Value → Shared → Prop} {s : Shared} {z TI TO T i1 i2 : Addr} {fp1 fp2 : List Addr} {n1 n2 i : Nat} {P1 P2 : Nat → Value → Prop} {St1 St2 : Nat → Heap → Prop} {f : Bool} {oT : Obj}
theorem zipH_item {Q : Value → Shared → Prop} (S : ZipSep2 z TI TO i1 i2 fp1 fp2) (D1 : Draws prog w A i1 fp1 n1 P1 St1) (D2 : Draws prog w A i2 fp2 n2 P2 St2)
    (hz : IsZipHeld s.heap z TI TO T f) (hT : s.heap.get? T = some oT) (hTI : IsTupOf2 s.heap TI (.ref i1) (.ref i2)) (st1 : St1 i s.heap) (st2 : St2 i s.heap) (lt1 : i < n1) (lt2 : i < n2)
    (q : ∀ x1 x2 h' tk, P1 i x1 → P2 i x2 → IsZipHeld h' z TI TO T true → St1 (i + 1) h' → St2 (i + 1) h' → IsTupOf2 h' s.heap.objs.size x1 x2 → (∀ c o, c ≠ z → c ≠ i1 → c ≠ i2 → s.heap.get? c = some o → h'.get? c = some o) → Q (.ref s.heap.objs.size) { s with heap := h', toks := tk }) :
    wpAny (model prog w) A (Builtin.«zip.__next__» ⟨[.ref z], []⟩) (fun fin s' => ∃ v, fin = .done (.ret v) ∧ Q v s') E s := by
  obtain ⟨hp, g, d, tk0, os⟩ := s
  show wpAny _ _ (field (.ref z) 2 >>= _) _ _ _
  refine wpAny_bind (wpAny_field hz rfl (x := .bool false) rfl ?_)
  show wpAny _ _ (field (.ref z) 3 >>= _) _ _ _
  refine wpAny_bind (wpAny_field hz rfl (x := .ref TI) rfl ?_)
  refine wpAny_bind (wpAny_seqItems hTI rfl ?_)
  show wpAny _ _ (Builtin.SmallTypes.ownedTupleIsFree (.ref z) >>= _) _ _ _
  refine wpAny_bind (wpAny_tupleHeld_zip hz hT fun g0 hz0 hs0 => ?_)
  replace hs0 : Heap.SameBut z hp g0 := hs0
  simp only [Bool.false_eq_true, if_false]
  refine wpAny_bind ?_
  rw [← Array.forIn_toList]
  simp only [List.forIn_cons, List.forIn_nil]
  refine wpAny_bind (wpAny_bind (wpAny_holding ?_))
  show wpAny _ _ (Builtin.SmallTypes.nextOf (.ref i1) >>= _) _ _ ⟨g0, g, d, tk0, os⟩
  refine wpAny_bind (D1.item i _ _ _ lt1 (D1.over st1 hs0 S.zf1) fun x1 p1 tk1 y1 sn1 hp1 => wpAny_pure ?_)
  replace hp1 : Heap.SameBut i1 g0 p1 := hp1
  refine wpAny_pure ?_
  refine wpAny_bind (wpAny_bind (wpAny_holding ?_))
  show wpAny _ _ (Builtin.SmallTypes.nextOf (.ref i2) >>= _) _ _ ⟨p1, g, d, tk1, os⟩
  refine wpAny_bind (D2.item i _ _ _ lt2 (D2.over (D2.over st2 hs0 S.zf2) hp1 S.sep1_2) fun x2 p2 tk2 y2 sn2 hp2 => wpAny_pure ?_)
  replace hp2 : Heap.SameBut i2 p1 p2 := hp2
  refine wpAny_pure (wpAny_pure ?_)
  show wpAny _ _ (newTuple [x1, x2] >>= _) _ _ ⟨p2, g, d, tk2, os⟩
  refine wpAny_bind (wpAny_newTuple ?_)
  have es : p2.objs.size = hp.objs.size := by rw [hp2.1, hp1.1, hs0.1]
  have hz3 : IsZipHeld p2 z TI TO T true := hp2.extBut _ _ S.zi2 (hp1.extBut _ _ S.zi1 hz0)
  have hk : ∀ c o, c ≠ z → c ≠ i1 → c ≠ i2 → hp.get? c = some o → p2.get? c = some o := fun c o c1 c2 c3 e => hp2.extBut _ _ c3 (hp1.extBut _ _ c2 (hs0.extBut _ _ c1 e))
  have j1 : St1 (i + 1) p2 := D1.over sn1 hp2 S.sep2_1
  refine wpAny_pure ⟨_, rfl, ?_⟩
  show Q (.ref p2.objs.size) _
  have hT2 : IsTupOf2 (p2.push { cls := .type "tuple", data := .seq #[x1, x2] }) p2.objs.size x1 x2 := Heap.get?_push_size _ rfl
  rw [es] at hT2 ⊢
  exact q x1 x2 _ tk2 y1 y2 (Heap.get?_push_of_some _ hz3) (D1.frame _ _ _ j1 fun b _ o e => Heap.get?_push_of_some _ e) (D2.frame _ _ _ sn2 fun b _ o e => Heap.get?_push_of_some _ e) hT2 fun c o c1 c2 c3 e => Heap.get?_push_of_some _ (hk c o c1 c2 c3 e)
theorem zipH_end {Q : PySem.Fin → Shared → Prop} (S : ZipSep2 z TI TO i1 i2 fp1 fp2) (D1 : Draws prog w A i1 fp1 n1 P1 St1) (D2 : Draws prog w A i2 fp2 n2 P2 St2)
    (hz : IsZipHeld s.heap z TI TO T f) (hT : s.heap.get? T = some oT) (hTI : IsTupOf2 s.heap TI (.ref i1) (.ref i2)) (st1 : St1 i s.heap) (st2 : St2 i s.heap) (le1 : i ≤ n1) (le2 : i ≤ n2) (hend : i = n1 ∨ i = n2)
    (q : ∀ h' tk e, (∀ c o, c ≠ z → c ≠ i1 → c ≠ i2 → s.heap.get? c = some o → h'.get? c = some o) → (∃ o, h'.get? e = some o ∧ o.cls = .type "StopIteration") → E (.ref e) { s with heap := h', toks := tk }) :
    wpAny (model prog w) A (Builtin.«zip.__next__» ⟨[.ref z], []⟩) Q E s := by
  obtain ⟨hp, g, d, tk0, os⟩ := s
  show wpAny _ _ (field (.ref z) 2 >>= _) _ _ _
  refine wpAny_bind (wpAny_field hz rfl (x := .bool false) rfl ?_)
  show wpAny _ _ (field (.ref z) 3 >>= _) _ _ _
  refine wpAny_bind (wpAny_field hz rfl (x := .ref TI) rfl ?_)
  refine wpAny_bind (wpAny_seqItems hTI rfl ?_)
  show wpAny _ _ (Builtin.SmallTypes.ownedTupleIsFree (.ref z) >>= _) _ _ _
  refine wpAny_bind (wpAny_tupleHeld_zip hz hT fun g0 hz0 hs0 => ?_)
  replace hs0 : Heap.SameBut z hp g0 := hs0
  simp only [Bool.false_eq_true, if_false]
  refine wpAny_bind ?_
  rw [← Array.forIn_toList]
  simp only [List.forIn_cons, List.forIn_nil]
  refine wpAny_bind (wpAny_bind (wpAny_holding ?_))
  show wpAny _ _ (Builtin.SmallTypes.nextOf (.ref i1) >>= _) _ _ ⟨g0, g, d, tk0, os⟩
  by_cases lt1 : i < n1
  · refine wpAny_bind (D1.item i _ _ _ lt1 (D1.over st1 hs0 S.zf1) fun x1 p1 tk1 y1 sn1 hp1 => wpAny_pure ?_)
    replace hp1 : Heap.SameBut i1 g0 p1 := hp1
    have e2 : i = n2 := by omega
    refine wpAny_pure ?_
    refine wpAny_bind (wpAny_bind (wpAny_holding ?_))
    show wpAny _ _ (Builtin.SmallTypes.nextOf (.ref i2) >>= _) _ _ ⟨p1, g, d, tk1, os⟩
    refine wpAny_bind (D2.done ⟨p1, g, d, tk1, os⟩ _ _ (by rw [← e2]; exact D2.over (D2.over st2 hs0 S.zf2) hp1 S.sep1_2) fun h' e hq he => ?_)
    replace hq : Heap.ExtBut i2 p1 h' := hq
    exact q h' tk1 e (fun c o c1 c2 c3 x => hq _ _ c3 (hp1.extBut _ _ c2 (hs0.extBut _ _ c1 x))) he
  · have e1 : i = n1 := by omega
    refine wpAny_bind (D1.done ⟨g0, g, d, tk0, os⟩ _ _ (by rw [← e1]; exact D1.over st1 hs0 S.zf1) fun h' e hq he => ?_)
    replace hq : Heap.ExtBut i1 g0 h' := hq
    exact q h' tk0 e (fun c o c1 c2 c3 x => hq _ _ c2 (hs0.extBut _ _ c1 x)) he
theorem next_zipH_item {Q : Option Value → Shared → Prop} (S : ZipSep2 z TI TO i1 i2 fp1 fp2) (D1 : Draws prog w A.in1 i1 fp1 n1 P1 St1) (D2 : Draws prog w A.in1 i2 fp2 n2 P2 St2)
    (hz : IsZipHeld s.heap z TI TO T f) (hT : s.heap.get? T = some oT) (hTI : IsTupOf2 s.heap TI (.ref i1) (.ref i2)) (st1 : St1 i s.heap) (st2 : St2 i s.heap) (lt1 : i < n1) (lt2 : i < n2)
    (q : ∀ x1 x2 h' tk, P1 i x1 → P2 i x2 → IsZipHeld h' z TI TO T true → St1 (i + 1) h' → St2 (i + 1) h' → IsTupOf2 h' s.heap.objs.size x1 x2 → (∀ c o, c ≠ z → c ≠ i1 → c ≠ i2 → s.heap.get? c = some o → h'.get? c = some o) → Q (some (.ref s.heap.objs.size)) { s with heap := h', toks := tk }) :
    wpAny (model prog w) A (pyNext (.ref z)) Q E s := by
  have ty : s.TypeIs (.ref z) "zip" := ⟨_, hz, rfl⟩
  unfold pyNext
  exact wpAny_bind (wpAny_attempt (wpAny_callSpecial?_slot (name := Str.ofString "__next__") ty F.slot_zip_next (wpAny_call_entry F.slot_zip_next ty F.entry_zip_next
      (zipH_item S D1 D2 hz hT hTI st1 st2 lt1 lt2 fun x1 x2 h' tk y1 y2 a b c e k => wpAny_pure (q x1 x2 h' tk y1 y2 a b c e k)) (F.args_zip_next_1 _))))
theorem next_zipH_end {Q : Option Value → Shared → Prop} (S : ZipSep2 z TI TO i1 i2 fp1 fp2) (D1 : Draws prog w A.in1 i1 fp1 n1 P1 St1) (D2 : Draws prog w A.in1 i2 fp2 n2 P2 St2)
    (hz : IsZipHeld s.heap z TI TO T f) (hT : s.heap.get? T = some oT) (hTI : IsTupOf2 s.heap TI (.ref i1) (.ref i2)) (st1 : St1 i s.heap) (st2 : St2 i s.heap) (le1 : i ≤ n1) (le2 : i ≤ n2) (hend : i = n1 ∨ i = n2)
    (q : ∀ h' tk, (∀ c o, c ≠ z → c ≠ i1 → c ≠ i2 → s.heap.get? c = some o → h'.get? c = some o) → Q none { s with heap := h', toks := tk }) : wpAny (model prog w) A (pyNext (.ref z)) Q E s := by
  have ty : s.TypeIs (.ref z) "zip" := ⟨_, hz, rfl⟩
  unfold pyNext
  refine wpAny_bind (wpAny_attempt (wpAny_callSpecial?_slot (name := Str.ofString "__next__") ty F.slot_zip_next (wpAny_call_entry F.slot_zip_next ty F.entry_zip_next
    (zipH_end S D1 D2 hz hT hTI st1 st2 le1 le2 hend fun h' tk e hk he => ?_) (F.args_zip_next_1 _))))
  obtain ⟨o, ho, hc⟩ := he
  refine wpAny_bind (wpAny_isInstance (T := "StopIteration") (b := true) ⟨o, ho, hc⟩ isSubtype_stop ?_)
  exact wpAny_pure (q _ _ hk)
end
end Y

set_option Elab.async false
set_option linter.all false
set_option maxRecDepth 100000
namespace Y
open PySem PySem.Spec PyProof.Rows L2
theorem zip_no_len : typeLookup (.type "zip") "__len__" = pure none := am_miss_of_fast (by decide +kernel)
theorem zip_no_hint : typeLookup (.type "zip") "__length_hint__" = pure none := am_miss_of_fast (by decide +kernel)
section
variable {prog : Program} {w : World} {A : Around} {E : Value → Shared → Prop} {s : Shared}
theorem zip_hint {r : Addr} {Q : Bool → Shared → Prop} (hT : s.TypeIs (.ref r) "zip") (h : Q true s) : wpAny (model prog w) A (Builtin.List.listLengthHint (.ref r)) Q E s := by
  unfold Builtin.List.listLengthHint
  exact wpAny_bind (wpAny_specialOf hT zip_no_len (wpAny_bind (wpAny_specialOf hT zip_no_hint (wpAny_pure h))))
end
section
variable {prog : Program} {w : World} {A : Around} {E : Value → Shared → Prop} {s : Shared} {R : Result → Shared → Prop} {z TI TO i1 i2 S : Addr} {fp1 fp2 : List Addr} {n1 n2 i : Nat} {P1 P2 : Nat → Value → Prop} {St1 St2 : Nat → Heap → Prop}
/-- i pairs are out -/
def ZSt (z TI TO i1 i2 S : Addr) (St1 St2 : Nat → Heap → Prop) (i : Nat) (h : Heap) : Prop := IsTupOf2 h TI (.ref i1) (.ref i2) ∧ St1 i h ∧ St2 i h ∧
  ((IsZip h z TI TO .none ∧ ∃ a b, IsTupOf2 h TO a b) ∨ ∃ T f oT, IsZipHeld h z TI TO T f ∧ h.get? T = some oT ∧ T ≠ z ∧ T ≠ i1 ∧ T ≠ i2 ∧ T ≠ S)
theorem ZSt.ty {h : Heap} (x : ZSt z TI TO i1 i2 S St1 St2 i h) : ∃ o, h.get? z = some o ∧ o.cls = .type "zip" := by
  rcases x.2.2.2 with ⟨e, _⟩ | ⟨T, f, oT, e, _⟩
  · exact ⟨_, e, rfl⟩
  · exact ⟨_, e, rfl⟩
theorem ZSt.stay (Sp : ZipSep2 z TI TO i1 i2 fp1 fp2) (D1 : Draws prog w A i1 fp1 n1 P1 St1) (D2 : Draws prog w A i2 fp2 n2 P2 St2) {h h' : Heap} (x : ZSt z TI TO i1 i2 S St1 St2 i h) (nz : S ≠ z) (nI : S ≠ TI) (nO : S ≠ TO) (n1' : S ∉ fp1) (n2' : S ∉ fp2)
    (k : ∀ b o, b ≠ S → h.get? b = some o → h'.get? b = some o) : ZSt z TI TO i1 i2 S St1 St2 i h' := by
  obtain ⟨a, b, c, d⟩ := x
  refine ⟨k _ _ nI.symm a, D1.frame _ _ _ b fun q hq o e => k q o (fun e2 => n1' (e2 ▸ hq)) e, D2.frame _ _ _ c fun q hq o e => k q o (fun e2 => n2' (e2 ▸ hq)) e, ?_⟩
  rcases d with ⟨d1, y1, y2, d2⟩ | ⟨T, f, oT, d1, d2, d3, d4, d5, d6⟩
  · exact .inl ⟨k _ _ nz.symm d1, y1, y2, k _ _ nO.symm d2⟩
  · exact .inr ⟨T, f, oT, k _ _ nz.symm d1, k _ _ d6 d2, d3, d4, d5, d6⟩
theorem zl_item {Q : Option Value → Shared → Prop} (Sp : ZipSep2 z TI TO i1 i2 fp1 fp2) (D1 : Draws prog w A.in1 i1 fp1 n1 P1 St1) (D2 : Draws prog w A.in1 i2 fp2 n2 P2 St2) (x : ZSt z TI TO i1 i2 S St1 St2 i s.heap) (ls : S < s.heap.objs.size) (lt1 : i < n1) (lt2 : i < n2)
    (q : ∀ x1 x2 h' tk, P1 i x1 → P2 i x2 → ZSt z TI TO i1 i2 S St1 St2 (i + 1) h' → IsTupOf2 h' s.heap.objs.size x1 x2 → (∀ c o, c ≠ z → c ≠ TO → c ≠ i1 → c ≠ i2 → s.heap.get? c = some o → h'.get? c = some o) → Q (some (.ref s.heap.objs.size)) { s with heap := h', toks := tk }) :
    wpAny (model prog w) A (pyNext (.ref z)) Q E s := by
  obtain ⟨a, b, c, d⟩ := x
  have ne : ∀ {c : Addr} {o : Obj}, s.heap.get? c = some o → s.heap.objs.size ≠ c := fun e => Nat.ne_of_gt (Heap.lt_size e)
  obtain ⟨_, l1⟩ := D1.live _ _ b
  obtain ⟨_, l2⟩ := D2.live _ _ c
  rcases d with ⟨d1, y1, y2, d2⟩ | ⟨T, f, oT, d1, d2, d3, d4, d5, d6⟩
  · refine wpAny_pyNext_zipD2_item Sp D1 D2 d1 a d2 b c lt1 lt2 fun x1 x2 h' tk p1 p2 z' O' s1 s2 t' sz k => ?_
    exact q x1 x2 h' tk p1 p2 ⟨k _ _ Sp.TIz Sp.TITO Sp.TIi1 Sp.TIi2 a, s1, s2, .inr ⟨s.heap.objs.size, false, _, z', t', ne d1, ne l1, ne l2, Nat.ne_of_gt ls⟩⟩ t' k
  · refine next_zipH_item Sp D1 D2 d1 d2 a b c lt1 lt2 fun x1 x2 h' tk p1 p2 z' s1 s2 t' k => ?_
    exact q x1 x2 h' tk p1 p2 ⟨k _ _ Sp.TIz Sp.TIi1 Sp.TIi2 a, s1, s2, .inr ⟨T, true, oT, z', k _ _ d3 d4 d5 d2, d3, d4, d5, d6⟩⟩ t' fun c o c1 _ c3 c4 e => k c o c1 c3 c4 e
theorem zl_end {Q : Option Value → Shared → Prop} (Sp : ZipSep2 z TI TO i1 i2 fp1 fp2) (D1 : Draws prog w A.in1 i1 fp1 n1 P1 St1) (D2 : Draws prog w A.in1 i2 fp2 n2 P2 St2) (x : ZSt z TI TO i1 i2 S St1 St2 i s.heap) (le1 : i ≤ n1) (le2 : i ≤ n2) (hend : i = n1 ∨ i = n2)
    (q : ∀ h' tk, (∀ c o, c ≠ z → c ≠ TO → c ≠ i1 → c ≠ i2 → s.heap.get? c = some o → h'.get? c = some o) → Q none { s with heap := h', toks := tk }) : wpAny (model prog w) A (pyNext (.ref z)) Q E s := by
  obtain ⟨a, b, c, d⟩ := x
  rcases d with ⟨d1, y1, y2, d2⟩ | ⟨T, f, oT, d1, d2, d3, d4, d5, d6⟩
  · exact wpAny_pyNext_zipD2_end Sp D1 D2 d1 a d2 b c le1 le2 hend q
  · exact next_zipH_end Sp D1 D2 d1 d2 a b c le1 le2 hend fun h' tk k => q h' tk fun c o c1 _ c3 c4 e => k c o c1 c3 c4 e
/-- the pairs that are out -/
structure ZG (P1 P2 : Nat → Value → Prop) (lo : Addr) (h : Heap) (as : List Addr) : Prop where
  rise : as.Pairwise (· < ·)
  above : ∀ a ∈ as, lo < a
  pairs : ∀ (j : Nat) (a : Addr), as[j]? = some a → ∃ x y, P1 j x ∧ P2 j y ∧ IsTupOf2 h a x y
theorem ZG.there {lo : Addr} {h : Heap} {as : List Addr} (g : ZG P1 P2 lo h as) {a : Addr} (ha : a ∈ as) : a < h.objs.size := by
  obtain ⟨j, hj⟩ := List.mem_iff_getElem?.mp ha
  obtain ⟨_, _, _, _, e⟩ := g.pairs j a hj
  exact Heap.lt_size e
theorem zl_loop (Sp : ZipSep2 z TI TO i1 i2 fp1 fp2) (D1 : Draws prog w A.in1.in1 i1 fp1 n1 P1 St1) (D2 : Draws prog w A.in1.in1 i2 fp2 n2 P2 St2) (nz : S ≠ z) (nI : S ≠ TI) (nO : S ≠ TO) (n1' : S ∉ fp1) (n2' : S ∉ fp2) {lo : Addr} (lz : z ≤ lo) (lO : TO ≤ lo) (l1 : i1 ≤ lo) (l2 : i2 ≤ lo) (lS : S ≤ lo) (hn : min n1 n2 ≤ sizeLine) (res : Value) {h₁ : Heap}
    (hR : ∀ h' tk acc c as, (∀ b o, b ≠ S → b ≠ z → b ≠ TO → b ≠ i1 → b ≠ i2 → h₁.get? b = some o → h'.get? b = some o) → h'.get? S = some { cls := .type "list", dict := none, data := .seq acc c, slots := #[] } → as.length = min n1 n2 → ZG P1 P2 lo h' as → acc.toList = as.map Value.ref → R (.ok (.ret res)) { s with heap := h', toks := tk }) :
    ∀ (k i : Nat) (h : Heap) (tk c : Nat) (acc : Array Value) (as : List Addr), min n1 n2 - i = k → i ≤ min n1 n2 → ZSt z TI TO i1 i2 S St1 St2 i h → (∀ b o, b ≠ S → b ≠ z → b ≠ TO → b ≠ i1 → b ≠ i2 → h₁.get? b = some o → h.get? b = some o) →
      h.get? S = some { cls := .type "list", dict := none, data := .seq acc c, slots := #[] } → acc.toList = as.map Value.ref → as.length = i → ZG P1 P2 lo h as → lo < h.objs.size →
      codeAny (model prog w) A (.builtin "list.extend.loop" ⟨[.ref S, .ref z, res], []⟩) R { s with heap := h, toks := tk } := by
  have nf1 : S ≠ i1 := fun e => n1' (e ▸ Sp.mem1)
  have nf2 : S ≠ i2 := fun e => n2' (e ▸ Sp.mem2)
  intro k
  induction k with
  | zero =>
    intro i h tk c acc as hk hi hst hkeep hS hacc hal hG hlo
    refine codeAny_builtin PySem.F.entry_extend_loop ?_
    rw [Around.under_plainId PySem.F.plain_extend_loop _]
    show wpAny _ A.in1 (pyNext (.ref z) >>= _) _ _ _
    refine wpAny_bind (zl_end (s := { s with heap := h, toks := tk }) (A := A.in1) Sp D1 D2 hst (by omega) (by omega) (by omega) fun h' tk' he => ?_)
    refine wpAny_pure (hR h' tk' acc c as (fun b o h1 h2 h3 h4 h5 e => he b o h2 h3 h4 h5 (hkeep b o h1 h2 h3 h4 h5 e)) (he S _ nz nO nf1 nf2 hS) (by omega) ⟨hG.rise, hG.above, fun j a hj => ?_⟩ hacc)
    obtain ⟨x, y, e1, e2, e3⟩ := hG.pairs j a hj
    have ab := hG.above a (List.mem_of_getElem? hj)
    exact ⟨x, y, e1, e2, he a _ (Nat.ne_of_gt (Nat.lt_of_le_of_lt lz ab)) (Nat.ne_of_gt (Nat.lt_of_le_of_lt lO ab)) (Nat.ne_of_gt (Nat.lt_of_le_of_lt l1 ab)) (Nat.ne_of_gt (Nat.lt_of_le_of_lt l2 ab)) e3⟩
  | succ k ih =>
    intro i h tk c acc as hk hi hst hkeep hS hacc hal hG hlo
    have hsz : acc.size = i := by rw [← Array.length_toList, hacc, List.length_map, hal]
    refine codeAny_builtin PySem.F.entry_extend_loop ?_
    rw [Around.under_plainId PySem.F.plain_extend_loop _]
    show wpAny _ A.in1 (pyNext (.ref z) >>= _) _ _ _
    refine wpAny_bind (zl_item (s := { s with heap := h, toks := tk }) (A := A.in1) Sp D1 D2 hst (Heap.lt_size hS) (by omega) (by omega) fun x1 x2 h' tk' p1 p2 hst' ht hkp => ?_)
    dsimp only at ht hkp ⊢
    have hS' := hkp S _ nz nO nf1 nf2 hS
    have up : ∀ b o, b ≠ S → h'.get? b = some o → (h'.update S (Obj.mapSeq (·.push (Value.ref h.objs.size)))).get? b = some o := fun b o hb e => (Heap.get?_update_other _ _ (Ne.symm hb)).trans e
    have hSl : S < h.objs.size := Heap.lt_size hS
    show wpAny _ A.in1 (updateSeq S (·.push (Value.ref h.objs.size)) >>= _) _ _ _
    refine wpAny_bind ?_
    refine wpAny_updateSeq hS' rfl (wpAny_pure ⟨plainId_quiet PySem.F.plain_extend_loop _, ih (i + 1) _ tk' _ (acc.push (Value.ref h.objs.size)) (as ++ [h.objs.size]) (by omega) (by omega) (hst'.stay Sp D1 D2 nz nI nO n1' n2' up)
      (fun b o h1 h2 h3 h4 h5 e => up b o h1 (hkp b o h2 h3 h4 h5 (hkeep b o h1 h2 h3 h4 h5 e))) (Heap.get?_update_self _ hS' rfl) (by rw [Array.toList_push, hacc, List.map_append]; rfl) (by rw [List.length_append, hal]; rfl) ⟨?_, ?_, ?_⟩ ?_⟩) (by rw [hsz]; omega) (by show (acc.push (Value.ref h.objs.size)).size ≤ sizeLine + 1; rw [Array.size_push, hsz]; omega)
    · refine List.pairwise_append.mpr ⟨hG.rise, List.pairwise_singleton _ _, fun a ha b hb => ?_⟩
      rw [List.mem_singleton.mp hb]
      exact hG.there ha
    · intro a ha
      rcases List.mem_append.mp ha with ha | ha
      · exact hG.above a ha
      · rw [List.mem_singleton.mp ha]; exact hlo
    · intro j b hj
      rcases Nat.lt_trichotomy j as.length with h1 | h1 | h1
      · rw [List.getElem?_append_left h1] at hj
        obtain ⟨x, y, e1, e2, e3⟩ := hG.pairs j b hj
        have ab := hG.above b (List.mem_of_getElem? hj)
        exact ⟨x, y, e1, e2, up b _ (Nat.ne_of_gt (Nat.lt_of_le_of_lt lS ab)) (hkp b _ (Nat.ne_of_gt (Nat.lt_of_le_of_lt lz ab)) (Nat.ne_of_gt (Nat.lt_of_le_of_lt lO ab)) (Nat.ne_of_gt (Nat.lt_of_le_of_lt l1 ab)) (Nat.ne_of_gt (Nat.lt_of_le_of_lt l2 ab)) e3)⟩
      · subst h1
        have hb : h.objs.size = b := by simpa using hj
        subst hb
        subst hal
        exact ⟨x1, x2, p1, p2, up _ _ (Nat.ne_of_gt hSl) ht⟩
      · have hnone : (as ++ [h.objs.size])[j]? = none := List.getElem?_eq_none (by rw [List.length_append, List.length_singleton]; omega)
        rw [hnone] at hj; cases hj
    · have e : (h'.update S (Obj.mapSeq (·.push (Value.ref h.objs.size)))).get? h.objs.size = _ := up _ _ (Nat.ne_of_gt hSl) ht
      exact Nat.lt_trans hlo (Heap.lt_size e)
theorem zl_extend (Sp : ZipSep2 z TI TO i1 i2 fp1 fp2) (D1 : Draws prog w A.in1.in1 i1 fp1 n1 P1 St1) (D2 : Draws prog w A.in1.in1 i2 fp2 n2 P2 St2) (nI : S ≠ TI) (n1' : S ∉ fp1) (n2' : S ∉ fp2) (lz : z < S) (lO : TO < S) (hn : min n1 n2 ≤ sizeLine) (res : Value)
    (hz : IsZip s.heap z TI TO .none) (hI : IsTupOf2 s.heap TI (.ref i1) (.ref i2)) (hO : ∃ a b, IsTupOf2 s.heap TO a b) (s1 : St1 0 s.heap) (s2 : St2 0 s.heap) (l1 : i1 ≤ S) (l2 : i2 ≤ S) (c₀ : Nat) (hS : s.heap.get? S = some { cls := .type "list", data := .seq #[] c₀ })
    (hR : ∀ h' tk acc c as, (∀ b o, b ≠ S → b ≠ z → b ≠ TO → b ≠ i1 → b ≠ i2 → s.heap.get? b = some o → h'.get? b = some o) → h'.get? S = some { cls := .type "list", dict := none, data := .seq acc c, slots := #[] } → as.length = min n1 n2 → ZG P1 P2 S h' as → acc.toList = as.map Value.ref → R (.ok (.ret res)) { s with heap := h', toks := tk }) :
    wpAny (model prog w) A.in1 (Builtin.List.listExtendWith (.ref S) (.ref z) res)
      (fun fin s' => match fin with | .done f => R (.ok f) s' | .again c' => c'.quiet = true ∧ codeAny (model prog w) A c' R s') (fun e s' => R (.error e) s') s := by
  have nz : S ≠ z := Nat.ne_of_gt lz
  have nO : S ≠ TO := Nat.ne_of_gt lO
  have key : ∀ (h : Heap) (c₁ tk : Nat), (∀ b o, b ≠ S → s.heap.get? b = some o → h.get? b = some o) → h.get? S = some { cls := .type "list", data := .seq #[] c₁ } → codeAny (model prog w) A (.builtin "list.extend.loop" ⟨[.ref S, .ref z, res], []⟩) R { s with heap := h, toks := tk } := by
    intro h c₁ tk hk hS₁
    have st0 : ZSt z TI TO i1 i2 S St1 St2 0 s.heap := ⟨hI, s1, s2, .inl ⟨hz, hO⟩⟩
    exact zl_loop (s := s) (h₁ := s.heap) Sp D1 D2 nz nI nO n1' n2' (lo := S) (Nat.le_of_lt lz) (Nat.le_of_lt lO) l1 l2 (Nat.le_refl _) hn res hR
      (min n1 n2) 0 h tk c₁ #[] [] (Nat.sub_zero _) (Nat.zero_le _) (st0.stay Sp D1 D2 nz nI nO n1' n2' hk) (fun b o hb _ _ _ _ e => hk b o hb e) hS₁ rfl rfl
      ⟨List.Pairwise.nil, (fun _ ha => nomatch ha), (fun j a hj => by simp at hj)⟩ (Heap.lt_size hS₁)
  have ty : s.TypeIs (.ref z) "zip" := ⟨_, hz, rfl⟩
  unfold Builtin.List.listExtendWith
  refine wpAny_bind (wpAny_typeOf (T := "zip") ty ?_)
  have h1 : Builtin.List.listSameRef (.ref S) (.ref z) = false := by simp [Builtin.List.listSameRef, nz]
  have h2 : (Value.type "zip" == Value.type "list") = false := by decide
  have h3 : (Value.type "zip" == Value.type "tuple") = false := by decide
  simp only [h1, h2, h3, Bool.or_false, Bool.false_eq_true, if_false]
  refine wpAny_bind (wpAny_pyIter_zip hz ?_)
  refine wpAny_bind (wpAny_holding (zip_hint ty ?_))
  simp only [Bool.true_or, if_true]
  refine wpAny_bind (wpAny_rule ?_)
  refine wpAny_bind ?_
  show wpAny _ _ (updateSeq S (·.push .none) >>= fun _ => updateSeq S (·.pop)) _ _ _
  refine wpAny_bind (wpAny_updateSeq hS rfl ?_)
  have hS₂ := Heap.get?_update_self (Obj.mapSeq (·.push Value.none)) hS rfl
  refine wpAny_updateSeq (hz := by seq_fits) hS₂ rfl ?_
  have hS₃ := Heap.get?_update_self (Obj.mapSeq (·.pop)) hS₂ rfl
  refine wpAny_pure ⟨plainId_quiet PySem.F.plain_extend_loop _, key _ _ _ (fun b o hb e => ?_) hS₃⟩
  exact (Heap.get?_update_other _ _ (Ne.symm hb)).trans ((Heap.get?_update_other _ _ (Ne.symm hb)).trans e)
theorem zl_call {Q : Value → Shared → Prop} (Sp : ZipSep2 z TI TO i1 i2 fp1 fp2) (D1 : Draws prog w A.in1.in1.in1 i1 fp1 n1 P1 St1) (D2 : Draws prog w A.in1.in1.in1 i2 fp2 n2 P2 St2) (f1 : ∀ b ∈ fp1, b < s.heap.objs.size) (f2 : ∀ b ∈ fp2, b < s.heap.objs.size) (hn : min n1 n2 ≤ sizeLine)
    (hz : IsZip s.heap z TI TO .none) (hI : IsTupOf2 s.heap TI (.ref i1) (.ref i2)) (hO : ∃ a b, IsTupOf2 s.heap TO a b) (s1 : St1 0 s.heap) (s2 : St2 0 s.heap)
    (hQ : ∀ h' tk acc c as, (∀ b o, b ≠ z → b ≠ TO → b ≠ i1 → b ≠ i2 → s.heap.get? b = some o → h'.get? b = some o) → h'.get? s.heap.objs.size = some { cls := .type "list", dict := none, data := .seq acc c, slots := #[] } → as.length = min n1 n2 → ZG P1 P2 s.heap.objs.size h' as →
      acc.toList = as.map Value.ref → Q (.ref s.heap.objs.size) { s with heap := h', toks := tk }) : wpAny (model prog w) A (call (.type "list") [.ref z]) Q E s := by
  refine callType_codes (Q₁ := fun obj s₁ => obj = .ref s.heap.objs.size ∧ s₁ = { s with heap := s.heap.push { cls := .type "list", data := .seq #[] } }) PySem.F.called_list (PySem.F.typeCall_list_1 _) PySem.F.entry_list_init
    (code_list_new _ ⟨rfl, rfl⟩) fun obj s₁ h₁ => ?_
  obtain ⟨rfl, rfl⟩ := h₁
  have hS : (s.heap.push { cls := .type "list", data := .seq #[] }).get? s.heap.objs.size = some { cls := .type "list", data := .seq #[] } := Heap.get?_push_size _ rfl
  have lz : z < s.heap.objs.size := Heap.lt_size hz
  have lI : TI < s.heap.objs.size := Heap.lt_size hI
  have lO : TO < s.heap.objs.size := by obtain ⟨_, _, e⟩ := hO; exact Heap.lt_size e
  have up : ∀ b o, s.heap.get? b = some o → (s.heap.push { cls := .type "list", data := .seq #[] }).get? b = some o := fun b o e => Heap.get?_push_of_some _ e
  refine ⟨⟨_, hS, rfl⟩, PySem.F.args_list_init_2 _ _, ?_⟩
  show wpAny _ _ (do let old ← Builtin.List.listItems (.ref s.heap.objs.size); Builtin.List.listUpdate (.ref s.heap.objs.size) (fun _ => #[]); letGo old.toList.reverse; Builtin.List.listExtendWith (.ref s.heap.objs.size) (.ref z) .none) _ _ _
  refine wpAny_bind ?_
  unfold Builtin.List.listItems
  refine wpAny_bind (wpAny_seqItems hS rfl (wpAny_pure ?_))
  show wpAny _ _ (updateSeq s.heap.objs.size (fun _ => #[]) >>= fun _ => letGo (#[] : Array Value).toList.reverse >>= fun _ => Builtin.List.listExtendWith (.ref s.heap.objs.size) (.ref z) .none) _ _ _
  refine wpAny_bind (wpAny_updateSeq hS rfl ?_)
  have hS₂ := Heap.get?_update_self (Obj.mapSeq (fun _ => (#[] : Array Value))) hS rfl
  have oth : ∀ b o, b ≠ s.heap.objs.size → (s.heap.push { cls := .type "list", data := .seq #[] }).get? b = some o → ((s.heap.push { cls := .type "list", data := .seq #[] }).update s.heap.objs.size (Obj.mapSeq (fun _ => (#[] : Array Value)))).get? b = some o :=
    fun b o hb e => (Heap.get?_update_other _ _ (Ne.symm hb)).trans e
  have go : ∀ b o, b < s.heap.objs.size → s.heap.get? b = some o → ((s.heap.push { cls := .type "list", data := .seq #[] }).update s.heap.objs.size (Obj.mapSeq (fun _ => (#[] : Array Value)))).get? b = some o := fun b o l e => oth b o (Nat.ne_of_lt l) (up b o e)
  refine wpAny_bind (wpAny_letGo ?_)
  obtain ⟨oa, ob, hO⟩ := hO
  refine zl_extend (A := A.in1) Sp D1 D2 (Nat.ne_of_gt lI) (fun q => Nat.lt_irrefl _ (f1 _ q)) (fun q => Nat.lt_irrefl _ (f2 _ q)) lz lO hn .none (go _ _ lz hz) (go _ _ lI hI) ⟨oa, ob, go _ _ lO hO⟩ (D1.frame _ _ _ s1 fun b hb o e => go b o (f1 b hb) e) (D2.frame _ _ _ s2 fun b hb o e => go b o (f2 b hb) e)
    (Nat.le_of_lt (f1 _ Sp.mem1)) (Nat.le_of_lt (f2 _ Sp.mem2)) _ hS₂ fun h' tk acc c as hk hS' hl hG hacc => ?_
  exact ⟨rfl, hQ h' tk acc c as (fun b o b1 b2 b3 b4 e => hk b o (Nat.ne_of_lt (Heap.lt_size e)) b1 b2 b3 b4 (go b o (Heap.lt_size e) e)) hS' hl hG hacc⟩
end
end Y

set_option Elab.async false
set_option linter.all false
set_option maxRecDepth 100000
namespace Y
open PySem PySem.Spec PyProof.Rows L2
def putP : Hp → List Addr → List (V × V) → Hp
  | H, a :: as, p :: ps => putP (upd H a (.tup [p.1, p.2])) as ps
  | H, _, _ => H
theorem putP_off {b : Addr} : ∀ {as : List Addr} {ps : List (V × V)} {H : Hp}, b ∉ as → putP H as ps b = H b
  | [], _, _, _ => rfl
  | _ :: _, [], _, _ => rfl
  | a :: as, p :: ps, H, h => (putP_off (fun z => h (List.mem_cons_of_mem _ z))).trans (upd_ne fun z => h (by rw [z]; exact List.mem_cons_self))
theorem putP_at : ∀ {as : List Addr} {ps : List (V × V)} {H : Hp} {j : Nat} {a : Addr}, as.length = ps.length → as.Nodup → as[j]? = some a → ∃ q, ps[j]? = some q ∧ putP H as ps a = some (.tup [q.1, q.2])
  | [], _, _, j, a, _, _, e => by simp at e
  | _ :: _, [], _, _, _, l, _, _ => by simp at l
  | x :: as, p :: ps, H, 0, a, l, nd, e => by
    simp at e
    subst e
    exact ⟨p, rfl, (putP_off (List.nodup_cons.mp nd).1).trans upd_same⟩
  | x :: as, p :: ps, H, j + 1, a, l, nd, e => putP_at (H := upd H x (.tup [p.1, p.2])) (by simpa using l) (List.nodup_cons.mp nd).2 (by simpa using e)
def tListZip (K : PySem.W.Frag) (ta : TA) : TE := fun σ H Q => ta σ H fun vs H1 => ∃ k1 k2 xs ys, vs = [Kd.val k1, Kd.val k2] ∧ k1.has K H1 xs ∧ k2.has K H1 ys ∧ (xs.zip ys).length ≤ sizeLine ∧
  ∀ (H' : Hp) (p : Addr) (as : List Addr), (∀ b o, H1 b = some o → H' b = some o) → H1 p = none → H' p = some (.lst (as.map V.ref)) → as.length = (xs.zip ys).length → (∀ (j : Nat) (a : Addr), as[j]? = some a → ∃ q, (xs.zip ys)[j]? = some q ∧ H' a = some (.tup [q.1, q.2])) → Q (.ref p) H'
section
variable {X : Cx} {pins : List (Addr × Obj)} {σ : L2.St} {H : Hp} {s : Shared}
theorem zip_laid {h' : Heap} {tk : Nat} {xs ys : List V} {acc : Array Value} {c : Nat} {as : List Addr} {p : Addr} (I : Inv X pins σ H s) (hp : s.heap.objs.size ≤ p) (hz : (xs.zip ys).length ≤ sizeLine) (hk : ∀ b o, s.heap.get? b = some o → h'.get? b = some o)
    (hS : h'.get? p = some { cls := .type "list", dict := none, data := .seq acc c, slots := #[] }) (hl : as.length = (xs.zip ys).length) (rise : as.Pairwise (· < ·)) (above : ∀ a ∈ as, p < a)
    (hG : ∀ (j : Nat) (a : Addr), as[j]? = some a → ∃ u v x y, IsTupOf2 h' a u v ∧ (xs.zip ys)[j]? = some (x, y) ∧ RelV x u ∧ RelV y v) (hacc : acc.toList = as.map Value.ref) :
    ∃ H' : Hp, (∀ b o, H b = some o → H' b = some o) ∧ H p = none ∧ H' p = some (.lst (as.map V.ref)) ∧ (∀ (j : Nat) (a : Addr), as[j]? = some a → ∃ q, (xs.zip ys)[j]? = some q ∧ H' a = some (.tup [q.1, q.2])) ∧ Inv X pins σ H' { s with heap := h', toks := tk } := by
  have nS : p ∉ as := fun z => Nat.lt_irrefl _ (above _ z)
  have nd : as.Nodup := rise.imp fun h => Nat.ne_of_lt h
  have new : ∀ t ∈ as, H t = none := fun t ht => I.hok.fresh (Nat.le_trans hp (Nat.le_of_lt (above t ht)))
  have newS : H p = none := I.hok.fresh hp
  have off : ∀ b, b ∉ as → b ≠ p → putP (upd H p (.lst (as.map V.ref))) as (xs.zip ys) b = H b := fun b h1 h2 => (putP_off h1).trans (upd_ne h2)
  have low : ∀ b o, s.heap.get? b = some o → b ∉ as ∧ b ≠ p := fun b o e => ⟨fun z => absurd (Nat.lt_of_lt_of_le (Heap.lt_size e) hp) (Nat.not_lt.mpr (Nat.le_of_lt (above b z))), Nat.ne_of_lt (Nat.lt_of_lt_of_le (Heap.lt_size e) hp)⟩
  have kp : ∀ b u, H b = some u → putP (upd H p (.lst (as.map V.ref))) as (xs.zip ys) b = some u := fun b u e => by
    rw [off b (fun z => by rw [new b z] at e; cases e) (fun z => by rw [z, newS] at e; cases e)]
    exact e
  have eS : putP (upd H p (.lst (as.map V.ref))) as (xs.zip ys) p = some (.lst (as.map V.ref)) := (putP_off nS).trans upd_same
  refine ⟨putP (upd H p (.lst (as.map V.ref))) as (xs.zip ys), kp, newS, eS, fun j a e => putP_at hl nd e, ?_⟩
  refine I.call' (ch := []) rfl ⟨fun b o q _ _ _ => hk b o q, fun b o q _ _ _ => ⟨o.slots, hk b o q⟩, fun b o q n _ => ?_, fun b o q _ => ⟨o, hk b o q⟩, fun b xs q => kp b _ q, fun b o u q => kp b _ q, fun b ps q => ⟨#[], by rw [kp b _ q]; simp⟩⟩ (fun b u q => ?_) I.bare fun b z => by simp at z
  · obtain ⟨z1, z2⟩ := low b o q
    rw [off b z1 z2]
    exact n
  · by_cases hb : b ∈ as
    · obtain ⟨j, e1⟩ := List.mem_iff_getElem?.mp hb
      obtain ⟨q2, e2, e3⟩ := putP_at (H := upd H p (.lst (as.map V.ref))) hl nd e1
      rw [e3] at q
      cases q
      obtain ⟨u1, u2, x, y, f1, f2, r1, r2⟩ := hG j b e1
      rw [f2] at e2
      cases e2
      exact ⟨by show 2 ≤ sizeLine; decide, [u1, u2], .cons r1 (.cons r2 .nil), ⟨_, f1, rfl, _, rfl⟩⟩
    · by_cases hb2 : b = p
      · rw [hb2] at q ⊢
        rw [eS] at q
        cases q
        refine ⟨by rw [List.length_map, hl]; exact hz, acc.toList, c, by rw [hacc]; exact LiI.vals_refs as, ?_⟩
        rw [Array.toArray_toList]
        exact hS
      · rw [off b hb hb2] at q
        exact (I.hok b u q).stay (fun d v _ y => hk d v y) (fun d y => kp d _ y) fun d xs y => kp d _ y
theorem pe_listZip {e e2 : Expr} {ta : TA} {p p2 q pos : Pos} (hc : X.calm = true) (hg : Gl X "list") (hm : X.mg "list" = none) (hg2 : Gl X "zip") (hm2 : X.mg "zip" = none) (ha : PA X [e, e2] ta)
    (hs : starEach [.Call (.Name "zip" p2) [e, e2] [] q] X.env = (false, eval (.Call (.Name "zip" p2) [e, e2] [] q) X.env) :: starEach [] X.env := by rfl)
    (hs2 : starEach [e, e2] X.env = (false, eval e X.env) :: starEach [e2] X.env := by rfl) (hpl : (backTo q (starEach [e2] X.env)).any (·.1) = false := by rfl) :
    PE X (.Call (.Name "list" p) [.Call (.Name "zip" p2) [e, e2] [] q] [] pos) (tListZip X.K ta) := by
  refine ⟨fun pins s σ H Q I h => ?_⟩
  refine wpAny_Call_Name_kw (ld_blt I hg hm bo_list ?_)
  refine PyProof.Rows.callWith_type1 ?_ hs rfl
  rw [hs]
  show wpAny _ _ (spliced ((false, eval (.Call (.Name "zip" p2) [e, e2] [] q) X.env) :: backTo pos (starEach [] X.env))) _ _ s
  refine Calls.spliced_cons ?_
  refine Call_ (ld_blt I hg2 hm2 PyProof.Rows.boot_zip (PyProof.Rows.callWith_type1 (thn (ha.run q pins s σ H _ I h) fun us s1 ⟨vs, H1, I1, r1, q1⟩ => ?_) hs2 hpl))
  obtain ⟨k1, k2, xs, ys, ex, h1, h2, hz, qq⟩ := q1
  subst ex
  obtain ⟨u1, us1, rfl, r2, r3⟩ : ∃ u us', us = u :: us' ∧ RelV k1.val u ∧ Vals [k2.val] us' := by cases r1 with | cons a b => exact ⟨_, _, rfl, a, b⟩
  obtain ⟨u2, rfl, r4⟩ := vals1 r3
  obtain ⟨o1, G1, tk1, b1, g1, l1, m1⟩ := Kd.begins I1 h1 r2
  obtain ⟨o2, G2, tk2, b2, g2, l2, m2⟩ := Kd.begins I1 h2 r4
  refine zip_begins2 b1 b2 g1 g2 fun h' hzz hI hO e1 e2 hsz hk => Calls.spliced_nil ?_
  have I2 : Inv X pins σ H1 { s1 with heap := h' } := I1.kept (t' := s1.toks) hk
  have hh : X.A.in1.in1.in1.handled = none := by simp [I1.ok.hd hc]
  have cc : Cells5 s1.heap.objs.size k1 k2 := ⟨l1, l2⟩
  obtain ⟨fp1, P1, S1, d1, s1'⟩ := Kd.draw (A := X.A.in1.in1.in1) hh I2 h1 (fun a e => ad (by have := Kd.lo_ne cc.lo1 a e; omega)) (m1 _ _ e1)
  obtain ⟨fp2, P2, S2, d2, s2'⟩ := Kd.draw (A := X.A.in1.in1.in1) hh I2 h2 (fun a e => ad (by have := Kd.lo_ne cc.lo2 a e; omega)) (m2 _ _ e2)
  have lz : (xs.zip ys).length = min xs.length ys.length := List.length_zip ..
  have f1 : ∀ b ∈ fp1, b < h'.objs.size := fun b hb => by
    rw [hsz]
    rcases d1.lo b hb with rfl | ⟨a, rfl, e⟩
    · exact Nat.lt_add_of_pos_right (by decide)
    · exact Nat.lt_of_lt_of_le (Kd.lo_ne cc.lo1 _ e) (Nat.le_add_right _ _)
  have f2 : ∀ b ∈ fp2, b < h'.objs.size := fun b hb => by
    rw [hsz]
    rcases d2.lo b hb with rfl | ⟨a, rfl, e⟩
    · exact Nat.add_lt_add_left (by decide) _
    · exact Nat.lt_of_lt_of_le (Kd.lo_ne cc.lo2 _ e) (Nat.le_add_right _ _)
  refine zl_call (s := { s1 with heap := h' }) (sep5 cc d1 d2) d1.dr d2.dr f1 f2 (by rw [← lz]; exact hz) hzz hI ⟨_, _, hO⟩ s1' s2' fun h3 tk acc c as hk3 hS3 hl3 hG3 hacc => ?_
  have kk : ∀ b o, s1.heap.get? b = some o → h3.get? b = some o := fun b o e => by
    have lb := Heap.lt_size e
    exact hk3 b o (Nat.ne_of_lt (Nat.lt_of_lt_of_le lb (Nat.le_add_right _ _))) (Nat.ne_of_lt (Nat.lt_of_lt_of_le lb (Nat.le_add_right _ _))) (Nat.ne_of_lt lb) (Nat.ne_of_lt (Nat.lt_of_lt_of_le lb (Nat.le_add_right _ _))) (hk b o e)
  obtain ⟨H', g1', g2', g3', g4', J⟩ := zip_laid (tk := tk) (xs := xs) (ys := ys) (p := h'.objs.size) I1 (by rw [hsz]; exact Nat.le_add_right _ _) hz kk hS3 (by rw [lz]; exact hl3) hG3.rise hG3.above (fun j a e => by
    obtain ⟨u, v, y1, y2, y3⟩ := hG3.pairs j a e
    obtain ⟨x, ex, rx⟩ := d1.item _ _ y1
    obtain ⟨y, ey, ry⟩ := d2.item _ _ y2
    exact ⟨u, v, x, y, y3, List.getElem?_zip_eq_some.mpr ⟨ex, ey⟩, rx, ry⟩) hacc
  exact ⟨.ref _, H', J, rfl, qq H' _ as g1' g2' g3' (by rw [lz]; exact hl3) g4'⟩
end
def cListZip (m : AM) : EM := fun ρ => do
  let (hs, ρ1) ← m ρ
  match hs with
  | [h, h2] => do
    let x ← (h.d ρ1).nox
    let y ← (h2.d ρ1).nox
    let ps ← (zipGD x y).nox
    if szOk ps.length = true then pure (.fr (.lst ps), ρ1) else .stk
  | _ => .stk
theorem reps_pairs {K : PySem.W.Frag} {H' : Hp} {P : Pr} : ∀ {ds es : List D} {xs ys : List V} {as : List Addr}, Reps K H' ds P xs → Reps K H' es P ys → as.length = (xs.zip ys).length → (∀ (j : Nat) (a : Addr), as[j]? = some a → ∃ q, (xs.zip ys)[j]? = some q ∧ H' a = some (.tup [q.1, q.2])) → Reps K H' (pairsD ds es) P (as.map V.ref) := by
  intro ds
  induction ds with
  | nil =>
    intro es xs ys as r1 r2 l h
    obtain rfl := r1.nil_iff
    have : as = [] := List.length_eq_zero_iff.mp (by rw [l]; rfl)
    subst this
    exact Reps.nil
  | cons d ds ih =>
    intro es xs ys as r1 r2 l h
    obtain ⟨v, vs, rfl, a1, a2⟩ := r1.cons_iff
    cases es with
    | nil =>
      obtain rfl := r2.nil_iff
      have : as = [] := List.length_eq_zero_iff.mp (by rw [l]; rfl)
      subst this
      exact Reps.nil
    | cons e es =>
      obtain ⟨w, ws, rfl, b1, b2⟩ := r2.cons_iff
      cases as with
      | nil => simp at l
      | cons a as =>
        obtain ⟨q, e1, e2⟩ := h 0 a rfl
        simp at e1
        subst e1
        refine Reps.cons ?_ (ih a2 b2 (by simpa using l) fun j a' e => by simpa using h (j + 1) a' (by simpa using e))
        unfold Rep
        exact ⟨a, _, rfl, e2, Reps.cons a1 (Reps.cons b1 Reps.nil)⟩
section
variable {X : Cx} {P0 : Pr} {O W : List Nat} {E : EK} {a b : Expr} {ms : AM} {pos : Pos}
theorem ce_listZip {p p2 q : Pos} (hc : X.calm = true) (hm : X.mg "list" = none) (hm2 : X.mg "zip" = none) (ha : CA X P0 O W E [a, b] ms) (hg : Gl X "list" := by rfl) (hg2 : Gl X "zip" := by rfl)
    (hs : starEach [.Call (.Name "zip" p2) [a, b] [] q] X.env = (false, eval (.Call (.Name "zip" p2) [a, b] [] q) X.env) :: starEach [] X.env := by rfl)
    (hs2 : starEach [a, b] X.env = (false, eval a X.env) :: starEach [b] X.env := by rfl) (hpl : (backTo q (starEach [b] X.env)).any (·.1) = false := by rfl) :
    CEx X P0 O W E (.Call (.Name "list" p) [.Call (.Name "zip" p2) [a, b] [] q] [] pos) (cListZip ms) := PE.imp (pe_listZip hc hg hm hg2 hm2 ha hs hs2 hpl) fun σ H Q ⟨ρ, S, h⟩ => by
  refine ⟨ρ, S, h.of_bind.mono fun ⟨hs, ρ1⟩ q vs H1 S1 k1 r1 => ?_⟩
  match hs, r1, q with
  | [h, h2], r1, q =>
    obtain ⟨v, ws, rfl, t1, t2⟩ := r1
    obtain ⟨w, us, rfl, t3, t4⟩ := t2
    have t4 : us = [] := t4
    subst t4
    obtain ⟨x, ex, q1⟩ := Res.of_nox (show Res E W σ H ((h.d ρ1).nox >>= _) _ from q)
    obtain ⟨y, ey, q2⟩ := q1.of_nox
    obtain ⟨ps, ep, q3⟩ := q2.of_nox
    clear q q1 q2
    obtain ⟨xs, ys, e1, e2, rfl⟩ := zipGD_ok ep
    by_cases c : szOk (pairsD xs ys).length = true
    · rw [if_pos c] at q3
      obtain ⟨c1, vs1, rfl, f1, g1, _⟩ := (t1.d S1 ex).kd e1
      obtain ⟨c2, vs2, rfl, f2, g2, _⟩ := (t3.d S1 ey).kd e2
      have lz : (vs1.zip vs2).length = (pairsD xs ys).length := by rw [pairsD_len, List.length_zip, g1.length, g2.length]
      refine ⟨c1, c2, vs1, vs2, rfl, f1, f2, by rw [lz]; exact of_decide_eq_true c, fun H' p as kp np hp hl hG => ?_⟩
      have sm : Same H1 H' := kp
      have m1 := g1.mono xs S1.dom (fun b o e _ => kp b o e) (P' := fun b => FA P0 O σ b ∨ b = p) (fun b z => z.elim .inl fun z => .inr (by rw [z]; exact np))
      have m2 := g2.mono ys S1.dom (fun b o e _ => kp b o e) (P' := fun b => FA P0 O σ b ∨ b = p) (fun b z => z.elim .inl fun z => .inr (by rw [z]; exact np))
      refine out_of (K := X.K) S1 k1 q3 _ _ sm ?_ fun _ a e => by cases e; exact np
      unfold Rep
      exact ⟨p, _, rfl, fun z => (S1.dom p z).some np, hp, reps_pairs m1 m2 hl hG⟩
    · rw [if_neg c] at q3
      exact q3.elim
  | [], _, q => exact q.elim
  | [_], _, q => exact q.elim
  | _ :: _ :: _ :: _, _, q => exact q.elim
end
variable {ρ : Y.Env}
@[simp] theorem e_listZip {m : AM} : cListZip m ρ = (m ρ >>= fun p => match p.1 with | [h, h2] => ((h.d p.2).nox >>= fun x => (h2.d p.2).nox >>= fun y => (zipGD x y).nox >>= fun ps => if szOk ps.length = true then R.ok (.fr (.lst ps), p.2) else .stk) | _ => .stk) := by
  unfold cListZip; congr
end Y

set_option Elab.async false
set_option linter.all false
set_option maxRecDepth 100000
namespace Y
open PySem PySem.Spec PyProof.Rows L2
def minSD : List D → R D
  | [d] => match seqI d with
    | some (n :: ms) => .ok (.int (minI n ms))
    | _ => .stk
  | _ => .stk
theorem minI_fold : ∀ {ms : List Int} {n : Int}, minI n ms = ms.foldl min n
  | [], n => rfl
  | m :: ms, n => by rw [minI, List.foldl_cons]; exact minI_fold
theorem reads_ints {h : Heap} : ∀ {ns : List Int} {us : List Value}, Vals (ns.map V.int) us → ReadsAll h us (ns.map PyData.int) []
  | [], us, r => by
    rw [List.map_nil] at r
    cases r
    exact .nil
  | n :: ns, us, r => by
    rw [List.map_cons] at r
    cases r with
    | cons r t =>
      obtain ⟨k, rfl⟩ := r
      exact .cons (as := []) (.int n k) (reads_ints t)
theorem alike_ints {ns : List Int} : PySem.W.AlikeAll (ns.map PyData.int) := ⟨fun x hx y hy => by
  obtain ⟨i, _, rfl⟩ := List.mem_map.mp hx
  obtain ⟨j, _, rfl⟩ := List.mem_map.mp hy
  simp [PySem.W.alike], fun x hx z => by
  obtain ⟨i, _, rfl⟩ := List.mem_map.mp hx
  cases z⟩
theorem depth_ints : ∀ {ns : List Int}, PyData.depthAll (ns.map PyData.int) = 0
  | [] => rfl
  | n :: ns => by
    rw [List.map_cons, PyData.depthAll, depth_ints]
    rfl
section
variable {X : Cx}
def rMinT (K : PySem.W.Frag) : List V → Hp → VK → Prop := fun vs H Q => ∃ (a : Addr) (n : Int) (ns : List Int), vs = [V.ref a] ∧ SqT K H a ((n :: ns).map V.int) ∧ Q (.int (minI n ns)) H
theorem cr_minT (hc : X.calm = true) (hu : X.A.units + 1 < cLine) : CallR X (.builtin "min") (rMinT X.K) := by
  intro pins s σ H vs us Q I r h
  obtain ⟨a, n, ns, rfl, hs, q⟩ := h
  obtain ⟨its, rv, hl, _⟩ := I.tuple hs
  rw [Vals.ref1 r]
  refine PySem.W.min_tuple_data (x := .int n) (xs := ns.map PyData.int) (I.ok.hd hc) hl (by simpa using reads_ints (h := s.heap) rv) (alike_ints (ns := n :: ns)) (by
    have := depth_ints (ns := n :: ns)
    rw [List.map_cons] at this
    rw [this]; exact hu) fun i v h' tk bs _ hr hk => ?_
  rw [PySem.W.minD_ints, ← minI_fold] at hr
  cases hr
  exact ⟨.int _, H, I.kept hk, ⟨_, rfl⟩, q⟩
theorem cd_minS (hc : X.calm = true) (hu : X.A.units + 64 < cLine) : CallR X (.builtin "min") (rDs X.K minSD) := by
  intro pins s σ H xs us Q I r ⟨P, ds, dz, hm, rs, e, out⟩
  unfold minSD at e
  split at e
  · split at e
    · rename_i n ms ei
      cases e
      obtain ⟨v, rfl, r1⟩ := rs.get1
      obtain ⟨a, rfl, h1 | h1⟩ := r1.seqI ei
      · refine cr_min hc pins s σ H _ us Q I r ⟨a, n :: ms, rfl, h1, by simp, fun m hm' hb => ?_⟩
        rw [show m = minI n ms from Int.le_antisymm (hb _ minI_mem) (minI_le hm')]
        exact out.int
      · exact cr_minT hc (by omega) pins s σ H _ us Q I r ⟨a, n, ms, rfl, h1, out.int⟩
    · cases e
  · cases e
end
theorem d_minS {d : D} {n : Int} {ms : List Int} (h : seqI d = some (n :: ms)) : minSD [d] = .ok (.int (minI n ms)) := by
  show (match seqI d with | some (n :: ms) => R.ok (D.int (minI n ms)) | _ => .stk) = _
  rw [h]
end Y

set_option Elab.async false
set_option linter.all false
set_option maxRecDepth 100000
namespace Y
open PySem PySem.Spec PyProof.Rows L2
section
variable {κ : Type} [DecidableEq κ]
end
section
variable {X : Cx} {pins : List (Addr × Obj)} {σ : L2.St} {H : Hp} {s : Shared}
end
end Y

set_option Elab.async false
set_option linter.all false
set_option maxRecDepth 100000
namespace Y
open PySem PySem.Spec PyProof.Rows L2
def RT (H : Hp) (kvs : List (List Key × V)) (ps : List (V × V)) : Prop := Paired (fun (p : List Key × V) (q : V × V) => p.2 = q.2 ∧ ∃ b, q.1 = .ref b ∧ H b = some (.tup (p.1.map kV))) kvs ps
section
variable {X : Cx} {pins : List (Addr × Obj)} {σ : L2.St} {H : Hp} {s : Shared}
end
section
variable {X : Cx} {P0 : Pr} {O W : List Nat} {E : EK} {a b : Expr} {ms : AM} {pos : Pos}
end
variable {ρ : Y.Env}
end Y

set_option Elab.async false
set_option linter.all false
set_option maxRecDepth 100000
namespace Y
open PySem PySem.Spec PyProof.Rows L2
section
variable {X : Cx} {P0 : Pr} {O W U : List Nat} {E : EK} {e : Expr} {ma : EM} {K : PySem.W.Frag} {pos : Pos}
end
variable {ρ : Y.Env}
end Y

set_option Elab.async false
set_option linter.all false
set_option maxRecDepth 100000
namespace Y
open PySem PySem.Spec PyProof.Rows L2
section
variable {K : PySem.W.Frag} {O W : List Nat} {a : Addr} {o : Obj}
end
section
variable {K : PySem.W.Frag} {P0 : Pr} {O W : List Nat} {E : EK} {ρ : Y.Env} {σ : L2.St} {H : Hp} {m : EM} {Q : VK} {a : Addr} {u : HO}
end
section
variable {X : Cx} {P0 : Pr} {O W : List Nat} {E : EK} {tg : Expr} {pos : Pos}
end
variable {ρ : Y.Env}
end Y

set_option Elab.async false
set_option linter.all false
set_option maxRecDepth 100000
namespace Y.HR
open PySem PySem.Spec PyProof.Rows L2 _root_.HT PySem.W PySem.SeqAt PySem.AutoSeq1 PySem.MeetsSeq PySem.MeetsSeq2 PySem.MeetsSeq3
section
variable {prog : Program} {w : World} {A : Around} {E : Value → Shared → Prop} {s : Shared}
end
end Y.HR
namespace Y
open PySem PySem.Spec PyProof.Rows L2
section
variable {X : Cx} {e k : Expr} {te : TE} {p2 pos : Pos}
end
section
variable {X : Cx} {P0 : Pr} {O W : List Nat} {E : EK} {e k : Expr} {ma : EM} {mk : OM} {p2 pos : Pos}
end
variable {ρ : Y.Env}
end Y

set_option Elab.async false
set_option linter.all false
set_option maxRecDepth 100000
namespace Y
open PySem PySem.Spec PyProof.Rows L2
section
variable {X : Cx} {P0 : Pr} {O W : List Nat} {pos : Pos}
end
end Y

set_option Elab.async false
set_option linter.all false
set_option maxRecDepth 100000
namespace Y
open PySem PySem.Spec PyProof.Rows L2
section
variable {X : Cx} {P0 : Pr} {O W : List Nat} {E : EK} {a : Expr} {ma : EM} {pos : Pos}
end
variable {ρ : Y.Env}
end Y

set_option Elab.async false
set_option linter.all false
set_option maxRecDepth 100000
namespace Y
open PySem PySem.Spec PyProof.Rows L2
section
variable {X : Cx}
end
end Y

set_option Elab.async false
set_option linter.all false
set_option maxRecDepth 100000
namespace Y
open PySem PySem.Spec PyProof.Rows L2
section
variable {K : PySem.W.Frag} {P0 : Pr} {O W U : List Nat} {ρ : Y.Env} {σ : L2.St} {H : Hp} {i : Nat}
theorem Sim.shut (S : Sim K P0 (i :: O) W ρ σ H) {a : Addr} {ds : List D} {vs : List V} (hW : ∀ j ∈ W, j ∈ O) (hi : i ∉ O) (hρ : ρ[i]? = some (some (.lst ds))) (ha : σ[i]? = some (some (.ref a))) (hH : H a = some (.lst vs)) (hr : Reps K H ds (FA P0 (i :: O) σ) vs) :
    Sim K P0 O W ρ σ H := by
  have fa : ∀ b, FA P0 O σ b → FA P0 (i :: O) σ b := fun b z => by
    rcases z with z | ⟨j, hj, e⟩
    · exact .inl z
    · exact .inr ⟨j, List.mem_cons_of_mem _ hj, e⟩
  have oa : OA (i :: O) σ a := ⟨i, by simp, ha⟩
  have na : ¬ FA P0 O σ a := fun z => by
    rcases z with z | ⟨j, hj, e⟩
    · exact S.sep0 a oa z
    · exact hi (by rw [← S.sep j i a (List.mem_cons_of_mem _ hj) (by simp) e ha]; exact hj)
  refine ⟨hW, S.len, fun b z => S.dom b (fa b z), fun j d e n => ?_, fun j d e n => ?_, fun j k b hj hk e1 e2 => ?_, fun b z => ?_⟩
  · by_cases hij : i = j
    · subst hij
      rw [hρ] at e
      cases e
      refine ⟨_, ha, ?_⟩
      unfold Rep
      exact ⟨a, vs, rfl, na, hH, hr.less S.dom fun b z => z.elim (fa b) fun z => .inr (by rw [z]; exact oa)⟩
    · obtain ⟨v, h1, h2⟩ := S.val j d e fun z => (List.mem_cons.mp z).elim (fun q => hij q.symm) n
      exact ⟨v, h1, h2.less S.dom fa⟩
  · obtain ⟨v, h1, h2⟩ := S.own j d e (List.mem_cons_of_mem _ n)
    exact ⟨v, h1, h2.less2 S.dom fa⟩
  · exact S.sep j k b (List.mem_cons_of_mem _ hj) (List.mem_cons_of_mem _ hk) e1 e2
  · obtain ⟨j, hj, e⟩ := z
    exact S.sep0 b ⟨j, List.mem_cons_of_mem _ hj, e⟩
end
section
variable {X : Cx} {P0 : Pr} {O W U : List Nat} {E : EK} {st2 : Stmt} {sts : List Stmt} {m mr : SM}
end
end Y

set_option Elab.async false
set_option linter.all false
set_option maxRecDepth 100000
namespace Y
open PySem PySem.Spec PyProof.Rows L2
section
variable {X : Cx} {P0 : Pr} {O W : List Nat} {E : EK} {e f : Expr} {mk mv : EM}
end
variable {ρ : Y.Env}
end Y

set_option Elab.async false
set_option linter.all false
set_option maxRecDepth 100000
namespace Y
open PySem PySem.Spec PyProof.Rows L2
section
variable {prog : Program} {w : World} {d r : Addr} {es : Array DictEntry} {ep : Nat}
end
section
variable {X : Cx} {o : Expr} {td : TE} {p pos apos mpos : Pos}
end
section
variable {X : Cx} {P0 : Pr} {O W : List Nat} {E : EK}
end
variable {ρ : Y.Env}
end Y

set_option Elab.async false
set_option linter.all false
set_option maxRecDepth 100000
namespace Y
open PySem PySem.Spec PyProof.Rows L2
end Y

set_option Elab.async false
set_option linter.all false
set_option maxRecDepth 100000
namespace Y
open PySem PySem.Spec PyProof.Rows L2
section
variable {K : PySem.W.Frag} {P0 : Pr} {O W U : List Nat} {ρ : Y.Env} {σ : L2.St} {H : Hp} {i : Nat}
end
section
variable {X : Cx} {P0 : Pr} {O W U : List Nat} {E : EK} {st2 : Stmt} {sts : List Stmt} {m mr : SM}
end
section
variable {X : Cx} {P0 : Pr} {O W : List Nat} {E : EK} {pos : Pos}
end
end Y

set_option Elab.async false
set_option linter.all false
set_option maxRecDepth 100000
namespace Y
open PySem PySem.Spec PyProof.Rows L2
section
variable {X : Cx} {P0 : Pr} {O W : List Nat} {E : EK} {a e f : Expr} {ma mb mc : EM}
end
section
variable {K : PySem.W.Frag} {X : Cx} {P0 : Pr} {O W U : List Nat} {E : EK} {e f : Expr} {mi mx : EM} {pos : Pos}
end
variable {ρ : Y.Env}
end Y

set_option Elab.async false
set_option linter.all false
set_option maxRecDepth 100000
namespace Y
open PySem PySem.Spec PyProof.Rows L2
theorem PGs.imp {X : Cx} {e : List Expr} {t t' : TGs} (h : PGs X e t) (i : ∀ v σ H Q, t' v σ H Q → t v σ H Q) : PGs X e t' := by
  cases h with
  | mk h => exact ⟨fun pins s σ H v u Q I r q => h pins s σ H v u Q I r (i v σ H Q q)⟩
section
variable {X : Cx} {P0 : Pr} {O W : List Nat} {pos : Pos}
end
section
variable {κ : Type} [DecidableEq κ]
end
end Y

set_option Elab.async false
set_option linter.all false
set_option maxRecDepth 100000
namespace Y
open PySem PySem.Spec PyProof.Rows L2 RT
section
variable {prog : Program} {w : World} {A : Around} {E : Value → Shared → Prop} {s : Shared}
theorem rl_extend {it l S : Addr} {items : Array Value} {R : Result → Shared → Prop} (hh : A.in1.handled = none) (hit : s.heap.IsRevIter it l ((items.size : Int) - 1)) (hl : s.heap.IsList l items) (hne : l ≠ it) (hn : items.size ≤ sizeLine) (hSi : S ≠ it) (hSl : S ≠ l) (res : Value) {c₀ : Nat} (hS : s.heap.get? S = some { cls := .type "list", data := .seq #[] c₀ })
    (hR : ∀ (h' : Heap) (tk c : Nat) (acc : Array Value), (∀ b o, b ≠ S → b ≠ it → s.heap.get? b = some o → h'.get? b = some o) → ItemsOf (fun i v => items[items.size - 1 - i]? = some v) acc items.size → h'.get? S = some { cls := .type "list", dict := none, data := .seq acc c, slots := #[] } → R (.ok (.ret res)) { s with heap := h', toks := tk }) :
    wpAny (model prog w) A.in1 (Builtin.List.listExtendWith (.ref S) (.ref it) res)
      (fun fin s' => match fin with | .done f => R (.ok f) s' | .again c' => c'.quiet = true ∧ codeAny (model prog w) A c' R s') (fun e s' => R (.error e) s') s := by
  have W := (Walks.listRev (prog := prog) (w := w) (A := A.in1) hh it l hne items).toS
  have hSf : S ∉ [it, l] := by simp only [List.mem_cons, List.not_mem_nil, or_false, not_or]; exact ⟨hSi, hSl⟩
  have hT : s.TypeIs (.ref it) "list_reverseiterator" := hit.typeIs
  have h1 : Builtin.List.listSameRef (.ref S) (.ref it) = false := by simp [Builtin.List.listSameRef, hSi]
  unfold Builtin.List.listExtendWith
  refine wpAny_bind (wpAny_typeOf hT ?_)
  rw [if_neg (by rw [h1]; decide)]
  refine wpAny_bind (wpAny_pyIter_revIter hit ?_)
  refine wpAny_bind (wpAny_holding ?_)
  unfold Builtin.List.listLengthHint
  refine wpAny_bind (wpAny_specialOf hT nolen_lri ?_)
  show wpAny _ A.in1 (specialOf (Value.ref it) (Str.ofString "__length_hint__") >>= _) _ _ _
  refine wpAny_bind (wpAny_specialOf hT hint_lri ?_)
  generalize hid : ("list_reverseiterator.__length_hint__" : String) = id0
  wp_delta
  rw [show splitId id0 = some ("list_reverseiterator", "__length_hint__") from by subst hid; decide +kernel]
  subst hid
  refine wpAny_bind (wpAny_isInstance (b := true) hT (by rw [isSubtype_type]; kernel_rfl) ?_)
  refine wpAny_pure ?_
  rw [if_neg (by decide)]
  have e0 : ((items.size : Nat) : Int) - 1 - ((0 : Nat) : Int) = (items.size : Int) - 1 := by omega
  refine wpAny_pure ⟨plainId_quiet F.plain_extend_loop _, codeAny_extend_loopS W hn _ hSf _ items.size 0 _ _ _ rfl (Nat.zero_le _) ⟨Nat.zero_le _, by rw [e0]; exact hit, hl⟩ hS (ItemsOf.nil _) fun s' acc' c' hm hS' hacc => ?_⟩
  rw [Moved.eq_with hm]
  refine hR s'.heap s'.toks c' acc' (fun b o hbS hb e => hm.heap b o (fun hmem => ?_) e) hacc hS'
  rcases List.mem_cons.mp hmem with e' | hmem
  · exact hbS e'
  · exact hb (List.mem_singleton.mp hmem)
theorem rl_call {it l : Addr} {items : Array Value} {Q : Value → Shared → Prop} (hh : A.handled = none) (hit : s.heap.IsRevIter it l ((items.size : Int) - 1)) (hl : s.heap.IsList l items) (hne : l ≠ it) (hn : items.size ≤ sizeLine)
    (hQ : ∀ (h' : Heap) (tk c : Nat) (acc : Array Value), (∀ b o, b ≠ it → s.heap.get? b = some o → h'.get? b = some o) → ItemsOf (fun i v => items[items.size - 1 - i]? = some v) acc items.size → h'.get? s.heap.objs.size = some { cls := .type "list", dict := none, data := .seq acc c, slots := #[] } → Q (.ref s.heap.objs.size) { s with heap := h', toks := tk }) :
    wpAny (model prog w) A (call (.type "list") [.ref it]) Q E s := by
  refine callType_codes (Q₁ := fun obj s₁ => obj = .ref s.heap.objs.size ∧ s₁ = { s with heap := s.heap.push { cls := .type "list", data := .seq #[] } }) PySem.F.called_list (PySem.F.typeCall_list_1 _) PySem.F.entry_list_init
    (code_list_new _ ⟨rfl, rfl⟩) fun obj s₁ h₁ => ?_
  obtain ⟨rfl, rfl⟩ := h₁
  have hS : (s.heap.push { cls := .type "list", data := .seq #[] }).get? s.heap.objs.size = some { cls := .type "list", data := .seq #[] } := Heap.get?_push_size _ rfl
  obtain ⟨oi, hoi, _⟩ := id hit
  obtain ⟨ol, hol, _⟩ := id hl
  have li : it < s.heap.objs.size := Heap.lt_size hoi
  have ll : l < s.heap.objs.size := Heap.lt_size hol
  have up : ∀ b o, s.heap.get? b = some o → (s.heap.push { cls := .type "list", data := .seq #[] }).get? b = some o := fun b o e => Heap.get?_push_of_some _ e
  refine ⟨⟨_, hS, rfl⟩, PySem.F.args_list_init_2 _ _, ?_⟩
  show wpAny _ _ (do let old ← Builtin.List.listItems (.ref s.heap.objs.size); Builtin.List.listUpdate (.ref s.heap.objs.size) (fun _ => #[]); letGo old.toList.reverse; Builtin.List.listExtendWith (.ref s.heap.objs.size) (.ref it) .none) _ _ _
  refine wpAny_bind ?_
  unfold Builtin.List.listItems
  refine wpAny_bind (wpAny_seqItems hS rfl (wpAny_pure ?_))
  show wpAny _ _ (updateSeq s.heap.objs.size (fun _ => #[]) >>= fun _ => letGo (#[] : Array Value).toList.reverse >>= fun _ => Builtin.List.listExtendWith (.ref s.heap.objs.size) (.ref it) .none) _ _ _
  refine wpAny_bind (wpAny_updateSeq hS rfl ?_)
  have hS₂ := Heap.get?_update_self (Obj.mapSeq (fun _ => (#[] : Array Value))) hS rfl
  have oth : ∀ b o, b ≠ s.heap.objs.size → (s.heap.push { cls := .type "list", data := .seq #[] }).get? b = some o → ((s.heap.push { cls := .type "list", data := .seq #[] }).update s.heap.objs.size (Obj.mapSeq (fun _ => (#[] : Array Value)))).get? b = some o :=
    fun b o hb e => (Heap.get?_update_other _ _ (Ne.symm hb)).trans e
  have go : ∀ b o, s.heap.get? b = some o → ((s.heap.push { cls := .type "list", data := .seq #[] }).update s.heap.objs.size (Obj.mapSeq (fun _ => (#[] : Array Value)))).get? b = some o := fun b o e => oth b o (Nat.ne_of_lt (Heap.lt_size e)) (up b o e)
  refine wpAny_bind (wpAny_letGo ?_)
  have hit2 := hit.at fun o e => go it o e
  have hl2 := hl.at fun o e => go l o e
  refine rl_extend (A := A.in1) hh hit2 hl2 hne hn (Nat.ne_of_gt li) (Nat.ne_of_gt ll) .none hS₂ fun h' tk c acc hk hacc hS' => ?_
  exact ⟨rfl, hQ h' tk c acc (fun b o hb e => hk b o (Nat.ne_of_lt (Heap.lt_size e)) hb (go b o e)) hacc hS'⟩
end
def tListRev (K : PySem.W.Frag) (te : TE) : TE := fun σ H Q => te σ H fun v H1 => ∃ (a : Addr) (xs : List V), v = .ref a ∧ SqL K H1 a xs ∧ ∀ q, H1 q = none → Q (.ref q) (upd H1 q (.lst xs.reverse))
section
variable {X : Cx}
theorem pe_listRev {e : Expr} {te : TE} {p p2 pos pos2 : Pos} (hc : X.calm = true) (hg : Gl X "list") (hm : X.mg "list" = none) (hg2 : Gl X "reversed") (hm2 : X.mg "reversed" = none) (he : PE X e te)
    (hs : starEach [e] X.env = (false, eval e X.env) :: starEach [] X.env := by rfl)
    (hs2 : starEach [.Call (.Name "reversed" p2) [e] [] pos2] X.env = (false, eval (.Call (.Name "reversed" p2) [e] [] pos2) X.env) :: starEach [] X.env := by rfl) :
    PE X (.Call (.Name "list" p) [.Call (.Name "reversed" p2) [e] [] pos2] [] pos) (tListRev X.K te) := by
  refine ⟨fun pins s σ H Q I h => ?_⟩
  refine Call_ (ld_blt I hg hm bo_list (PyProof.Rows.callWith_type1 (args_cons (Call_ (ld_blt I hg2 hm2 PyProof.Rows.boot_reversed (PyProof.Rows.callWith_type1 (args_cons (thn (he.run pins s σ H _ I h) fun u s1 ⟨v, H1, I1, r1, q1⟩ => args_nil ?_) hs) hs rfl))) hs2) hs2 rfl))
  obtain ⟨a, xs, ev, hq, q⟩ := q1
  subst ev
  obtain rfl : u = Value.ref a := r1
  obtain ⟨its, rv, p', hz⟩ := I1.list hq
  refine call_reversed_list p'.isList (args_nil ?_)
  have k0 : ∀ b o, s1.heap.get? b = some o → (s1.heap.push (revObj a ((its.toArray.size : Int) - 1))).get? b = some o := fun b o e => Heap.get?_push_of_some _ e
  have hl := p'.isList
  obtain ⟨ol, hol, _⟩ := id hl
  have hne : a ≠ s1.heap.objs.size := Nat.ne_of_lt (Heap.lt_size hol)
  have hn : its.toArray.size ≤ sizeLine := by rw [List.size_toArray, ← rv.length]; exact hz
  refine rl_call (s := { s1 with heap := s1.heap.push (revObj a ((its.toArray.size : Int) - 1)) }) (I1.ok.hd hc) ⟨_, Heap.get?_push_size _ rfl, rfl, rfl⟩ (hl.push _) hne hn fun h' tk c acc hk hi hS => ?_
  have hk2 : ∀ b o, s1.heap.get? b = some o → h'.get? b = some o := fun b o e => hk b o (Nat.ne_of_lt (Heap.lt_size e)) (k0 b o e)
  have hsz : s1.heap.objs.size ≤ (s1.heap.push (revObj a ((its.toArray.size : Int) - 1))).objs.size := by rw [Heap.size_push]; exact Nat.le_succ _
  refine ⟨.ref _, upd H1 _ (.lst xs.reverse), I1.laid (t' := tk) hk2 hsz (show ObjOk X.prog X.w _ _ _ (.lst xs.reverse) from ⟨by rw [List.length_reverse]; exact hz, acc.toList, c, vals_rev rv hi, ?_⟩), rfl, q _ (I1.hok.fresh hsz)⟩
  rw [Array.toArray_toList]
  exact hS
end
def cListRev (m : EM) : EM := fun ρ => do
  let (h, ρ1) ← m ρ
  let d ← (h.d ρ1).nox
  match d with
  | .lst ds => pure (.fr (.lst ds.reverse), ρ1)
  | _ => .stk
theorem reps_rev {K : PySem.W.Frag} {H : Hp} {P : Pr} : ∀ {ds : List D} {vs : List V}, Reps K H ds P vs → Reps K H ds.reverse P vs.reverse
  | [], vs, h => by rw [h.nil_iff]; exact Reps.nil
  | d :: ds, vs, h => by
    obtain ⟨v, ws, rfl, h1, h2⟩ := h.cons_iff
    rw [List.reverse_cons, List.reverse_cons]
    exact (reps_rev h2).append (Reps.cons h1 Reps.nil)
section
variable {X : Cx} {P0 : Pr} {O W : List Nat} {E : EK} {e : Expr} {me : EM} {pos : Pos}
theorem ce_listRev {p p2 pos2 : Pos} (hc : X.calm = true) (hm : X.mg "list" = none) (hm2 : X.mg "reversed" = none) (he : CEx X P0 O W E e me) (hg : Gl X "list" := by rfl) (hg2 : Gl X "reversed" := by rfl)
    (hs : starEach [e] X.env = (false, eval e X.env) :: starEach [] X.env := by rfl)
    (hs2 : starEach [.Call (.Name "reversed" p2) [e] [] pos2] X.env = (false, eval (.Call (.Name "reversed" p2) [e] [] pos2) X.env) :: starEach [] X.env := by rfl) :
    CEx X P0 O W E (.Call (.Name "list" p) [.Call (.Name "reversed" p2) [e] [] pos2] [] pos) (cListRev me) := PE.imp (pe_listRev hc hg hm hg2 hm2 he hs hs2) fun σ H Q ⟨ρ, S, h⟩ => by
  refine ⟨ρ, S, h.of_bind.mono fun ⟨hd, ρ1⟩ q v H1 S1 k1 r1 => ?_⟩
  obtain ⟨d, e1, q⟩ := q.of_nox
  have rd := r1.d S1 e1
  cases d with
  | lst ds =>
    obtain ⟨a, vs, rfl, h1, h2⟩ := rd.lst
    exact ⟨a, vs, rfl, SqL.of h1, fun p np => (out_of S1 k1 q).newL S1.dom (reps_rev h2) np⟩
  | _ => exact q.elim
end
variable {ρ : Y.Env}
@[simp] theorem e_listRev {m : EM} : cListRev m ρ = (m ρ >>= fun p => (p.1.d p.2).nox >>= fun d => match d with | .lst ds => R.ok (.fr (.lst ds.reverse), p.2) | _ => .stk) := by
  unfold cListRev; congr
end Y

set_option Elab.async false
set_option linter.all false
set_option maxRecDepth 100000
namespace Y
open PySem PySem.Spec PyProof.Rows L2
end Y

set_option Elab.async false
set_option linter.all false
set_option maxRecDepth 100000
namespace Y
open PySem PySem.Spec PyProof.Rows L2
abbrev PrT := Addr × List Int
/-- what a set holds of the first i things -/
structure Has (ks : List PrT) (i : Nat) (L : List PrT) : Prop where
  low : ∀ q ∈ L, q ∈ ks.take i
  top : ∀ q ∈ ks.take i, q.2 ∈ L.map (·.2)
theorem Has.none (ks : List PrT) : Has ks 0 [] := ⟨fun q z => (nomatch z), fun q z => by simp at z⟩
theorem take_more {α : Type} {l : List α} {i : Nat} {x : α} (h : l[i]? = some x) : l.take (i + 1) = l.take i ++ [x] := by rw [List.take_add_one, h]; rfl
theorem Has.stay {ks L : List PrT} {i : Nat} {x : PrT} (g : Has ks i L) (h : ks[i]? = some x) (m : x.2 ∈ L.map (·.2)) : Has ks (i + 1) L := by
  refine ⟨fun q z => ?_, fun q z => ?_⟩
  · rw [take_more h]; exact List.mem_append_left _ (g.low q z)
  · rw [take_more h] at z
    rcases List.mem_append.mp z with z | z
    · exact g.top q z
    · rw [List.mem_singleton] at z; rw [z]; exact m
theorem Has.grow {ks L M : List PrT} {i : Nat} {x : PrT} (g : Has ks i L) (h : ks[i]? = some x) (pm : M.Perm (x :: L)) : Has ks (i + 1) M := by
  refine ⟨fun q z => ?_, fun q z => ?_⟩
  · rw [take_more h]
    rcases List.mem_cons.mp (pm.mem_iff.mp z) with rfl | z
    · exact List.mem_append_right _ (by simp)
    · exact List.mem_append_left _ (g.low q z)
  · refine (pm.map (·.2)).mem_iff.mpr ?_
    rw [take_more h] at z
    rcases List.mem_append.mp z with z | z
    · exact List.mem_cons_of_mem _ (g.top q z)
    · rw [List.mem_singleton] at z; rw [z]; exact List.mem_cons_self
section
variable {P : Program} {w : World} {A : Around} {E : Value → Shared → Prop} {s : Shared}
end
section
variable {K : PySem.W.Frag} {X : Cx} {P0 : Pr} {O W : List Nat} {E : EK} {a e : Expr} {ma : EM} {pos : Pos}
end
end Y

set_option Elab.async false
set_option linter.all false
set_option maxRecDepth 100000
namespace Y
open PySem PySem.Spec PyProof.Rows L2
end Y

set_option Elab.async false
set_option linter.all false
set_option maxRecDepth 100000
namespace Y
open PySem PySem.Spec PyProof.Rows L2
section
variable {X : Cx}
end
end Y

set_option Elab.async false
set_option linter.all false
set_option maxRecDepth 100000
namespace Y
open PySem PySem.Spec PyProof.Rows L2
section
variable {X : Cx}
end
end Y

set_option Elab.async false
set_option linter.all false
set_option maxRecDepth 100000
namespace Y
open PySem PySem.Spec PyProof.Rows L2
section
variable {X : Cx} {e k : Expr} {te : TE} {p2 pos : Pos}
end
section
variable {X : Cx} {P0 : Pr} {O W : List Nat} {E : EK} {e k : Expr} {ma : EM} {mk : OM} {p2 pos : Pos}
end
variable {ρ : Y.Env}
end Y

set_option Elab.async false
set_option linter.all false
set_option maxRecDepth 100000
namespace Y
open PySem PySem.Spec PyProof.Rows L2
variable {K : PySem.W.Frag} {P0 : Pr} {O W U : List Nat} {E : EK} {ms : AM}
section
variable {X : Cx}
end
variable {ρ : Y.Env}
end Y

set_option Elab.async false
set_option linter.all false
set_option maxRecDepth 100000
namespace Y
open PySem PySem.Spec PyProof.Rows L2
def sGrowR (i : Nat) (m mr : SM) : SM := fun ρ =>
  if i < ρ.length then do
    let (f, ρ2) ← m (ρ.set i (some (.lst [])))
    match f with
    | .nx => do
      let _ ← (lstAt i ρ2).nox
      mr ρ2
    | .rt (.fr d) => do
      let _ ← (lstAt i ρ2).nox
      R.ok (Fl.rt (.fr d), ρ2)
    | _ => .stk
  else .stk
section
variable {X : Cx} {P0 : Pr} {O W U : List Nat} {E : EK} {st2 : Stmt} {sts : List Stmt} {m mr : SM}
theorem cs_growR {i : Nat} {x : Str} {p1 p2 p3 : Pos} (hN : X.N.Nodup) (h2 : CS X P0 (i :: O) W U E st2 m) (h3 : CSs X P0 O W U E sts mr) (hW : ∀ j ∈ W, j ∈ O := by decide) (hi : i ∉ O := by decide) (hu : i ∉ U := by decide)
    (hx : X.N[i]? = some x := by rfl) (hl : Loc X.env.scope x := by first | exact Or.inl rfl | exact Or.inr rfl)
    (hf : X.fn x = true ∨ X.env.scope.names.lookup x = some .local := by first | exact .inl rfl | exact .inr rfl)
    (hs : swapsWithSole [.Name x p1] (.List [] p2) p3.line X.env = pure false := by rfl) (hw : swappedStores [.Name x p1] (.List [] p2) X.env = pure none := by rfl) :
    CSs X P0 O W U E (.Assign [.Name x p1] (.List [] p2) p3 :: st2 :: sts) (sGrowR i m mr) :=
  PSs.imp (pss_cons (ps_asg (pe_lst pa_nil) (pg_name hN hx hl hf) hs hw) (pss_cons h2 h3)) fun D σ H ⟨ρ, S, h⟩ => by
    have h : Res E O σ H (if i < ρ.length then (m (ρ.set i (some (.lst []))) >>= fun q => match q.1 with | .nx => ((lstAt i q.2).nox >>= fun _ => mr q.2) | .rt (.fr d) => ((lstAt i q.2).nox >>= fun _ => R.ok (Fl.rt (.fr d), q.2)) | _ => .stk) else .stk) _ := h
    by_cases hlen : i < ρ.length
    · rw [if_pos hlen] at h
      refine ⟨Nat.zero_le _, fun p hp => ?_⟩
      have S1 := S.openL hi hlen hp
      have hs1 : i < σ.length := Nat.lt_of_lt_of_le hlen S.len
      have g1 : ∀ {j : Nat}, j ∈ O → (σ.set i (some (V.ref p)))[j]? = σ[j]? := fun {j} hj => List.getElem?_set_ne fun q => hi (by rw [q]; exact hj)
      have o1 : ∀ {b : Addr}, OA (i :: O) (σ.set i (some (V.ref p))) b → OA O σ b ∨ b = p := fun {b} ⟨j, hj, e⟩ => by
        by_cases hij : i = j
        · subst hij
          rw [List.getElem?_set_self hs1] at e
          cases e
          exact .inr rfl
        · rw [List.getElem?_set_ne hij] at e
          exact .inl ⟨j, (List.mem_cons.mp hj).resolve_left fun q => hij q.symm, e⟩
      have np : ∀ {b : Addr} {o : HO}, H b = some o → b ≠ p := fun e q => by rw [q, hp] at e; cases e
      refine ⟨ρ.set i (some (.lst [])), S1, ?_⟩
      have h0 := h.of_bind
      have h1 := h0.chg (O1 := i :: O) (σ1 := σ.set i (some (V.ref p))) (H1 := upd H p (.lst [])) fun H' k => ⟨fun b o e n => k.keep b o (by rw [upd_ne (np e)]; exact e) fun q => (o1 q).elim n fun q => np e q, fun b e => k.some b (by
        by_cases hb : b = p
        · rw [hb, upd_same]; intro q; cases q
        · rw [upd_ne hb]; exact e)⟩
      refine h1.mono fun ⟨f, ρ2⟩ q σ2 H2 S2 t2 l2 => ?_
      cases f with
      | bk => exact q.elim
      | ct => exact q.elim
      | rt hd =>
        cases hd with
        | vl d => exact q.elim
        | ow j => exact q.elim
        | fr d =>
          obtain ⟨ds, e1, q⟩ := Res.of_nox (show Res E O σ H ((lstAt i ρ2).nox >>= fun _ => R.ok (Fl.rt (.fr d), ρ2)) _ from q)
          obtain ⟨a, vs, ha, hH, hr⟩ := S2.lst (i := i) (by simp) (lstAt_ok e1)
          have S3 := S2.shut hW hi (lstAt_ok e1) ha hH hr
          have t3 : Tr O U σ H σ2 H2 := by
            refine ⟨fun b o e n => ?_, fun b e => ?_, fun b ⟨j, hj, e⟩ => ?_, fun j hj => ?_⟩
            · exact t2.keep b o (by rw [upd_ne (np e)]; exact e) fun q => (o1 q).elim n fun q => np e q
            · refine t2.some b ?_
              by_cases hb : b = p
              · rw [hb, upd_same]; intro q; cases q
              · rw [upd_ne hb]; exact e
            · rcases t2.own b ⟨j, List.mem_cons_of_mem _ hj, e⟩ with z | z
              · rcases o1 z with z | z
                · exact .inl z
                · exact .inr (by rw [z]; exact hp)
              · refine .inr ?_
                by_cases hb : b = p
                · rw [hb]; exact hp
                · rw [upd_ne hb] at z; exact z
            · rw [t2.unch j hj, List.getElem?_set_ne fun q => hu (by rw [q]; exact hj)]
          have l3 : σ2.length = σ.length := by rw [l2, List.length_set]
          have q3 := q σ2 H2 S3 t3 l3
          refine fun v r => q3 v ?_
          obtain ⟨r1, r2⟩ := r
          refine ⟨r1.less S2.dom (fun b z => ?_), fun mu a ea => ?_⟩
          · rcases z with z | ⟨j, hj, e⟩
            · exact .inl z
            · exact .inr ⟨j, List.mem_cons_of_mem _ hj, e⟩
          · have := r2 mu a ea
            by_cases hb : a = p
            · rw [hb, upd_same] at this; cases this
            · rw [upd_ne hb] at this; exact this
      | nx =>
        obtain ⟨ds, e1, q⟩ := Res.of_nox (show Res E O σ H ((lstAt i ρ2).nox >>= fun _ => mr ρ2) _ from q)
        obtain ⟨a, vs, ha, hH, hr⟩ := S2.lst (i := i) (by simp) (lstAt_ok e1)
        have S3 := S2.shut hW hi (lstAt_ok e1) ha hH hr
        have t3 : Tr O U σ H σ2 H2 := by
          refine ⟨fun b o e n => ?_, fun b e => ?_, fun b ⟨j, hj, e⟩ => ?_, fun j hj => ?_⟩
          · exact t2.keep b o (by rw [upd_ne (np e)]; exact e) fun q => (o1 q).elim n fun q => np e q
          · refine t2.some b ?_
            by_cases hb : b = p
            · rw [hb, upd_same]; intro q; cases q
            · rw [upd_ne hb]; exact e
          · rcases t2.own b ⟨j, List.mem_cons_of_mem _ hj, e⟩ with z | z
            · rcases o1 z with z | z
              · exact .inl z
              · exact .inr (by rw [z]; exact hp)
            · refine .inr ?_
              by_cases hb : b = p
              · rw [hb]; exact hp
              · rw [upd_ne hb] at z; exact z
          · rw [t2.unch j hj, List.getElem?_set_ne fun q => hu (by rw [q]; exact hj)]
        have l3 : σ2.length = σ.length := by rw [l2, List.length_set]
        refine ⟨ρ2, S3, (Res.keepT q t3).mono fun ⟨f2, ρ3⟩ q2 σ3 H3 S4 t4 l4 => ?_⟩
        have q3 := q2 σ3 H3 S4 (t3.trans t4) (l4.trans l3)
        cases f2 with
        | nx => exact q3
        | bk => exact q3
        | ct => exact q3
        | rt hd => exact fun v r => q3 v (r.back t3.some)
    · rw [if_neg hlen] at h
      exact h.elim
end
@[simp] theorem e_growR {i : Nat} {m mr : SM} {ρ : Y.Env} : sGrowR i m mr ρ = if i < ρ.length then (m (ρ.set i (some (.lst []))) >>= fun q => match q.1 with | .nx => ((lstAt i q.2).nox >>= fun _ => mr q.2) | .rt (.fr d) => ((lstAt i q.2).nox >>= fun _ => R.ok (Fl.rt (.fr d), q.2)) | _ => .stk) else .stk := id rfl
end Y

set_option Elab.async false
set_option linter.all false
set_option maxRecDepth 100000
namespace C
open PySem PySem.Spec PyProof.Rows L2 Y
/-- slots: 0:thing -/
noncomputable def m_is_whole : SM := sRet (cAnd (cIsi isInt (cVar 0)) (cNot (cIsi isBl (cVar 0))))
noncomputable def g_is_whole : List D → R Hd := fnP 1 1 m_is_whole
/-- slots: 0:thing 1:many -/
noncomputable def m_is_upto : SM := sRet (cAnd (cCallF g_is_whole (cCons (cVar 0) (cNil))) (cChain leD ltD (cC (.int 0)) (cVar 0) (cVar 1)))
noncomputable def g_is_upto : List D → R Hd := fnP 2 2 m_is_upto
/-- slots: 0:thing 1:many 2:one -/
noncomputable def e_are_bits_1 : EM := cCallF g_is_upto (cCons (cVar 2) (cCons (cC (.int 2)) (cNil)))
noncomputable def m_are_bits : SM := sRet (cAnd (cIsi isTup (cVar 0)) (cAnd (cOp eqD (cCall lenD (cCons (cVar 0) (cNil))) (cVar 1)) (cCall allD (cCons (cComp (cIter (cVar 0)) (tmName 2) (cYes) (e_are_bits_1) [2]) (cNil)))))
noncomputable def g_are_bits : List D → R Hd := fnP 2 3 m_are_bits
/-- slots: 0:net 1:thing -/
noncomputable def m_is_stand : SM := sRet (cCallF g_are_bits (cCons (cVar 1) (cCons (cCall lenD (cCons (cVar 0) (cNil))) (cNil))))
noncomputable def g_is_stand : List D → R Hd := fnP 2 2 m_is_stand
/-- slots: 0:net 1:thing -/
noncomputable def m_look_at_stand : SM := sIf (cNotT (cTru (cCallF g_is_stand (cCons (cVar 0) (cCons (cVar 1) (cNil)))))) (sRaise "NoStand") (sSkip)
noncomputable def g_look_at_stand : List D → R Hd := fnP 2 2 m_look_at_stand
/-- slots: 0:many 1:found 2:k 3:stand -/
noncomputable def e_stands_of_1 : EM := cOp addD (cTup (cCons (cC (.int 0)) (cNil))) (cVar 3)
noncomputable def e_stands_of_2 : EM := cOp addD (cTup (cCons (cC (.int 1)) (cNil))) (cVar 3)
noncomputable def b_stands_of_1 : SM := sAsg (cOp addD (cComp (cIter (cVar 1)) (tmName 3) (cYes) (e_stands_of_1) [3]) (cComp (cIter (cVar 1)) (tmName 3) (cYes) (e_stands_of_2) [3])) (tmName 1)
noncomputable def m_stands_of : SM := sSeq (sAsg (cLst (cCons (cTup (cNil)) (cNil))) (tmName 1)) (sSeq (sFor [] (cRange rng1D (cCons (cVar 0) (cNil))) (tmName 2) (b_stands_of_1) [2]) (sRet (cVar 1)))
noncomputable def g_stands_of : List D → R Hd := fnP 1 4 m_stands_of
/-- slots: 0:bits 1:place 2:bit -/
noncomputable def b_place_of_1 : SM := sAsg (cOp addD (cOp mulD (cC (.int 2)) (cVar 1)) (cVar 2)) (tmName 1)
noncomputable def m_place_of : SM := sSeq (sAsg (cC (.int 0)) (tmName 1)) (sSeq (sFor [] (cIter (cVar 0)) (tmName 2) (b_place_of_1) [2]) (sRet (cVar 1)))
noncomputable def g_place_of : List D → R Hd := fnP 1 3 m_place_of
/-- slots: 0:net 1:stand 2:k 3:ears 4:table 5:ear -/
noncomputable def e_ought_1 : EM := cIx (cVar 1) (cVar 5)
noncomputable def m_ought : SM := sSeq (sAsg (cIx (cVar 0) (cVar 2)) (tmTup [3, 4])) (sRet (cIx (cVar 4) (cCallF g_place_of (cCons (cComp (cIter (cVar 3)) (tmName 5) (cYes) (e_ought_1) [5]) (cNil)))))
noncomputable def g_ought : List D → R Hd := fnP 3 6 m_ought
/-- slots: 0:net 1:stand 2:k -/
noncomputable def t_wrong_ones_1 : BM := cBl (cOp neD (cCallF g_ought (cCons (cVar 0) (cCons (cVar 1) (cCons (cVar 2) (cNil))))) (cIx (cVar 1) (cVar 2)))
noncomputable def e_wrong_ones_1 : EM := cVar 2
noncomputable def m_wrong_ones : SM := sSeq (sExpr (cCallF g_look_at_stand (cCons (cVar 0) (cCons (cVar 1) (cNil))))) (sRet (cComp (cRange rng1D (cCons (cCall lenD (cCons (cVar 0) (cNil))) (cNil))) (tmName 2) (t_wrong_ones_1) (e_wrong_ones_1) [2]))
noncomputable def g_wrong_ones : List D → R Hd := fnP 2 3 m_wrong_ones
/-- slots: 0:net 1:stand -/
noncomputable def t_rests_of_1 : BM := cBl (cOp eqD (cCallF g_wrong_ones (cCons (cVar 0) (cCons (cVar 1) (cNil)))) (cLst (cNil)))
noncomputable def e_rests_of_1 : EM := cVar 1
noncomputable def m_rests_of : SM := sRet (cComp (cIter (cCallF g_stands_of (cCons (cCall lenD (cCons (cVar 0) (cNil))) (cNil)))) (tmName 1) (t_rests_of_1) (e_rests_of_1) [1])
noncomputable def g_rests_of : List D → R Hd := fnP 1 2 m_rests_of
/-- slots: 0:script 1:k -/
noncomputable def m__law_cell : SM := sSeq (sIf (cBl (cOp ltD (cVar 1) (cCall lenD (cCons (cVar 0) (cNil))))) (sRet (cIx (cVar 0) (cVar 1))) (sSkip)) (sRet (cOp addD (cOp mulD (cC (.int 6151)) (cVar 1)) (cC (.int 29))))
noncomputable def g__law_cell : List D → R Hd := fnP 2 2 m__law_cell
/-- slots: 0:rule 1:reading -/
noncomputable def m_told_at : SM := sRet (cIx (cIx (cVar 0) (cC (.int 1))) (cCallF g_place_of (cCons (cVar 1) (cNil))))
noncomputable def g_told_at : List D → R Hd := fnP 2 2 m_told_at
/-- slots: 0:script 1:k 2:cell 3:number 4:mixed 5:j -/
noncomputable def b__law_box_2_1 : SM := sSeq (sAsg (cOp modD (cOp addD (cOp addD (cOp addD (cOp mulD (cVar 4) (cC (.int 48271))) (cOp mulD (cOp mulD (cC (.int 7)) (cVar 5)) (cVar 5))) (cOp mulD (cC (.int 11)) (cVar 1))) (cC (.int 1))) (cC (.int 2147483647))) (tmName 4)) (sAsg (cOp addD (cOp mulD (cVar 3) (cC (.int 2147483647))) (cVar 4)) (tmName 3))
noncomputable def m__law_box_2 : SM := sSeq (sAsg (cCallF g__law_cell (cCons (cVar 0) (cCons (cVar 1) (cNil)))) (tmName 2)) (sSeq (sIf (cBl (cOp eqD (cOp modD (cVar 2) (cC (.int 2))) (cC (.int 0)))) (sRet (cLst (cCons (cOp fdivD (cVar 2) (cC (.int 2))) (cNil)))) (sSkip)) (sSeq (sAsg (cC (.int 0)) (tmName 3)) (sSeq (sAsg (cOp modD (cVar 2) (cC (.int 2147483647))) (tmName 4)) (sSeq (sFor [] (cRange rng1D (cCons (cC (.int 24)) (cNil))) (tmName 5) (b__law_box_2_1) [5]) (sRet (cLst (cCons (cVar 3) (cNil))))))))
noncomputable def g__law_box_2 : List D → R Hd := fnP 2 6 m__law_box_2
/-- slots: 0:box 1:many 2:digit -/
noncomputable def m__law_take_2 : SM := sSeq (sAsg (cOp modD (cIx (cOwn 0) (cC (.int 0))) (cVar 1)) (tmName 2)) (sSeq (sSetIx 0 (cC (.int 0)) (cOp fdivD (cIx (cOwn 0) (cC (.int 0))) (cVar 1))) (sRet (cVar 2)))
noncomputable def g__law_take_2 : Fn := fnD 2 3 [0] m__law_take_2
/-- slots: 0:many 1:found 2:k 3:row -/
noncomputable def e__law_readings_1 : EM := cOp addD (cVar 3) (cTup (cCons (cC (.int 0)) (cNil)))
noncomputable def e__law_readings_2 : EM := cOp addD (cVar 3) (cTup (cCons (cC (.int 1)) (cNil)))
noncomputable def b__law_readings_1 : SM := sAsg (cOp addD (cComp (cIter (cVar 1)) (tmName 3) (cYes) (e__law_readings_1) [3]) (cComp (cIter (cVar 1)) (tmName 3) (cYes) (e__law_readings_2) [3])) (tmName 1)
noncomputable def m__law_readings : SM := sSeq (sAsg (cLst (cCons (cTup (cNil)) (cNil))) (tmName 1)) (sSeq (sFor [] (cRange rng1D (cCons (cVar 0) (cNil))) (tmName 2) (b__law_readings_1) [2]) (sRet (cCall sortD (cCons (cVar 1) (cNil)))))
noncomputable def g__law_readings : List D → R Hd := fnP 1 4 m__law_readings
/-- slots: 0:box 1:many 2:left 3:ears 4:k 5:rows 6:way 7:signs 8:least 9:table 10:ear 11:row -/
noncomputable def b__law_rule_2_1 : SM := sAppend 3 (cPopAt 2 (cCallIO [(0, 0)] g__law_take_2 (cCons (cOwn 0) (cCons (cCall lenD (cCons (cOwn 2) (cNil))) (cNil)))))
noncomputable def e__law_rule_2_1 : EM := cCallIO [(0, 0)] g__law_take_2 (cCons (cOwn 0) (cCons (cC (.int 2)) (cNil)))
noncomputable def e__law_rule_2_2 : EM := cC (.int 1)
noncomputable def e__law_rule_2_3 : EM := cCallIO [(0, 0)] g__law_take_2 (cCons (cOwn 0) (cCons (cC (.int 2)) (cNil)))
noncomputable def t__law_rule_2_4 : BM := cBl (cOp eqD (cIx (cVar 11) (cVar 4)) (cIx (cVar 7) (cVar 4)))
noncomputable def e__law_rule_2_4 : EM := cVar 4
noncomputable def e__law_rule_2_5 : EM := cCall intOfD (cCons (cOp geD (cCall lenD (cCons (cComp (cRange rng1D (cCons (cCall lenD (cCons (cOwn 3) (cNil))) (cNil))) (tmName 4) (t__law_rule_2_4) (e__law_rule_2_4) [4]) (cNil))) (cVar 8)) (cNil))
noncomputable def m__law_rule_2 : SM := sSeq (sOwn [0, 2, 3] [0, 2] (cRg1 true (cVar 1)) 2) (sSeq (sOwn [0, 2, 3] [0, 2] (cLst (cNil)) 3) (sSeq (sFor [0] (cRange rng1D (cCons (cCall min2D (cCons (cCallIO [(0, 0)] g__law_take_2 (cCons (cOwn 0) (cCons (cC (.int 5)) (cNil)))) (cCons (cVar 1) (cNil)))) (cNil))) (tmName 4) (b__law_rule_2_1) []) (sSeq (sAsg (cCallF g__law_readings (cCons (cCall lenD (cCons (cOwn 3) (cNil))) (cNil))) (tmName 5)) (sSeq (sAsg (cCallIO [(0, 0)] g__law_take_2 (cCons (cOwn 0) (cCons (cC (.int 3)) (cNil)))) (tmName 6)) (sSeq (sIf (cBl (cOp eqD (cVar 6) (cC (.int 0)))) (sRet (cTup (cCons (cCall tupleD (cCons (cCall sortD (cCons (cOwn 3) (cNil))) (cNil))) (cCons (cCall tupleD (cCons (cComp (cIter (cVar 5)) (tmName 11) (cYes) (e__law_rule_2_1) [11]) (cNil))) (cNil))))) (sSkip)) (sSeq (sAsg (cComp (cIter (cOwn 3)) (tmName 10) (cYes) (e__law_rule_2_2) [10]) (tmName 7)) (sSeq (sIf (cBl (cOp eqD (cVar 6) (cC (.int 1)))) (sAsg (cComp (cIter (cOwn 3)) (tmName 10) (cYes) (e__law_rule_2_3) [10]) (tmName 7)) (sSkip)) (sSeq (sAsg (cCallIO [(0, 0)] g__law_take_2 (cCons (cOwn 0) (cCons (cOp addD (cCall lenD (cCons (cOwn 3) (cNil))) (cC (.int 2))) (cNil)))) (tmName 8)) (sSeq (sAsg (cComp (cIter (cVar 5)) (tmName 11) (cYes) (e__law_rule_2_5) [11]) (tmName 9)) (sRet (cTup (cCons (cCall tupleD (cCons (cCall sortD (cCons (cOwn 3) (cNil))) (cNil))) (cCons (cCall tupleD (cCons (cVar 9) (cNil))) (cNil))))))))))))))
noncomputable def g__law_rule_2 : Fn := fnD 2 12 [0] m__law_rule_2
/-- slots: 0:stand 1:k 2:bit -/
noncomputable def m_with_bit : SM := sRet (cOp addD (cOp addD (cSlice (cVar 0) (cNoPart) (cPart (cVar 1))) (cTup (cCons (cVar 2) (cNil)))) (cSlice (cVar 0) (cPart (cOp addD (cVar 1) (cC (.int 1)))) (cNoPart)))
noncomputable def g_with_bit : List D → R Hd := fnP 3 3 m_with_bit
/-- slots: 0:net 1:stand 2:k 3:ears 4:table 5:place 6:ear -/
noncomputable def b__law_told_1 : SM := sAsg (cOp addD (cOp mulD (cC (.int 2)) (cVar 5)) (cIx (cVar 1) (cVar 6))) (tmName 5)
noncomputable def m__law_told : SM := sSeq (sAsg (cIx (cVar 0) (cVar 2)) (tmTup [3, 4])) (sSeq (sAsg (cC (.int 0)) (tmName 5)) (sSeq (sFor [] (cIter (cVar 3)) (tmName 6) (b__law_told_1) [6]) (sRet (cIx (cVar 4) (cVar 5)))))
noncomputable def g__law_told : List D → R Hd := fnP 3 7 m__law_told
/-- slots: 0:stand 1:k -/
noncomputable def m_changed : SM := sRet (cCallF g_with_bit (cCons (cVar 0) (cCons (cVar 1) (cCons (cOp subD (cC (.int 1)) (cIx (cVar 0) (cVar 1))) (cNil)))))
noncomputable def g_changed : List D → R Hd := fnP 2 2 m_changed
/-- slots: 0:net 1:stand 2:k -/
noncomputable def e_steps_from_1 : EM := cTup (cCons (cVar 2) (cCons (cCallF g_changed (cCons (cVar 1) (cCons (cVar 2) (cNil)))) (cNil)))
noncomputable def m_steps_from : SM := sRet (cComp (cIter (cCallF g_wrong_ones (cCons (cVar 0) (cCons (cVar 1) (cNil))))) (tmName 2) (cYes) (e_steps_from_1) [2])
noncomputable def g_steps_from : List D → R Hd := fnP 2 3 m_steps_from
/-- slots: 0:net 1:stand 2:came 3:line 4:at 5:k 6:there -/
noncomputable def b_search_from_1 : SM := sIf (cBl (cDIn true (cVar 6) (cOwn 2))) (sSeq (sDPutS 2 (cVar 6) (cTup (cCons (cVar 5) (cCons (cIx (cOwn 3) (cVar 4)) (cNil))))) (sAppend 3 (cVar 6))) (sSkip)
noncomputable def b_search_from_2 : SM := sSeq (sFor [] (cIter (cCallF g_steps_from (cCons (cVar 0) (cCons (cIx (cOwn 3) (cVar 4)) (cNil))))) (tmTup [5, 6]) (b_search_from_1) [5, 6]) (sAsg (cOp addD (cVar 4) (cC (.int 1))) (tmName 4))
noncomputable def m_search_from : SM := sSeq (sDic1 2 1) (sSeq (sOwn [2, 3] [] (cLst (cCons (cVar 1) (cNil))) 3) (sSeq (sAsg (cC (.int 0)) (tmName 4)) (sSeq (sWhile (cBl (cOp ltD (cVar 4) (cCall lenD (cCons (cOwn 3) (cNil))))) (b_search_from_2) [5, 6]) (sRet (cOwn 2)))))
noncomputable def g_search_from : List D → R Hd := fnP 2 7 m_search_from
/-- slots: 0:net 1:stand -/
noncomputable def m_comes_to : SM := sSeq (sExpr (cCallF g_look_at_stand (cCons (cVar 0) (cCons (cVar 1) (cNil))))) (sRet (cCall sortDD (cCons (cCallF g_search_from (cCons (cVar 0) (cCons (cVar 1) (cNil)))) (cNil))))
noncomputable def g_comes_to : List D → R Hd := fnP 2 2 m_comes_to
/-- slots: 0:net 1:found 2:stand -/
noncomputable def b_reached_1 : SM := sDPutS 1 (cVar 2) (cCallF g_comes_to (cCons (cVar 0) (cCons (cVar 2) (cNil))))
noncomputable def m_reached : SM := sSeq (sDicNew true 1) (sSeq (sFor [] (cIter (cCallF g_stands_of (cCons (cCall lenD (cCons (cVar 0) (cNil))) (cNil)))) (tmName 2) (b_reached_1) [2]) (sRet (cOwn 1)))
noncomputable def g_reached : List D → R Hd := fnP 1 3 m_reached
/-- slots: 0:reach 1:found 2:stand 3:some 4:there -/
noncomputable def e_dens_among_1 : EM := cOp eqD (cCall lenD (cCons (cDGet (cVar 0) (cVar 4)) (cNil))) (cCall lenD (cCons (cVar 3) (cNil)))
noncomputable def b_dens_among_1 : SM := sIf (cAndT (cBl (cOp eqD (cIx (cVar 3) (cC (.int 0))) (cVar 2))) (cTru (cCall allD (cCons (cComp (cIter (cVar 3)) (tmName 4) (cYes) (e_dens_among_1) [4]) (cNil))))) (sAppend 1 (cCall listD (cCons (cVar 3) (cNil)))) (sSkip)
noncomputable def m_dens_among : SM := sSeq (sOwn [1] [] (cLst (cNil)) 1) (sSeq (sForD (sFor [] (cItems 0) (tmTup [2, 3]) (b_dens_among_1) [2, 3])) (sRet (cCall sortGD (cCons (cOwn 1) (cNil)))))
noncomputable def g_dens_among : List D → R Hd := fnP 1 5 m_dens_among
/-- slots: 0:net -/
noncomputable def m_dens_of : SM := sRet (cCallF g_dens_among (cCons (cCallF g_reached (cCons (cVar 0) (cNil))) (cNil)))
noncomputable def g_dens_of : List D → R Hd := fnP 1 1 m_dens_of
/-- slots: 0:rule 1:at 2:found 3:reading 4:low 5:high -/
noncomputable def b_signs_at_1 : SM := sSeq (sAsg (cCallF g_told_at (cCons (cVar 0) (cCons (cCallF g_with_bit (cCons (cVar 3) (cCons (cVar 1) (cCons (cC (.int 0)) (cNil))))) (cNil)))) (tmName 4)) (sSeq (sAsg (cCallF g_told_at (cCons (cVar 0) (cCons (cCallF g_with_bit (cCons (cVar 3) (cCons (cVar 1) (cCons (cC (.int 1)) (cNil))))) (cNil)))) (tmName 5)) (sIf (cAndT (cBl (cOp neD (cVar 4) (cVar 5))) (cBl (cOp ninD (cOp subD (cVar 5) (cVar 4)) (cOwn 2)))) (sAppend 2 (cOp subD (cVar 5) (cVar 4))) (sSkip)))
noncomputable def m_signs_at : SM := sSeq (sOwn [2] [] (cLst (cNil)) 2) (sSeq (sFor [] (cIter (cCallF g_stands_of (cCons (cCall lenD (cCons (cIx (cVar 0) (cC (.int 0))) (cNil))) (cNil)))) (tmName 3) (b_signs_at_1) [3, 4, 5]) (sRet (cOwn 2)))
noncomputable def g_signs_at : List D → R Hd := fnP 2 6 m_signs_at
/-- slots: 0:net 1:found 2:switch 3:rule 4:at 5:ear 6:sign -/
noncomputable def e_wires_of_1 : EM := cTup (cCons (cVar 5) (cCons (cVar 2) (cCons (cVar 6) (cNil))))
noncomputable def b_wires_of_1 : SM := sExt 1 (cComp (cIter (cCallF g_signs_at (cCons (cVar 3) (cCons (cVar 4) (cNil))))) (tmName 6) (cYes) (e_wires_of_1) [6])
noncomputable def b_wires_of_2 : SM := sFor [] (cEnumG (cCons (cIx (cVar 3) (cC (.int 0))) (cNil))) (tmTup [4, 5]) (b_wires_of_1) [4, 5]
noncomputable def m_wires_of : SM := sSeq (sOwn [1] [] (cLst (cNil)) 1) (sSeq (sFor [] (cEnumG (cCons (cVar 0) (cNil))) (tmTup [2, 3]) (b_wires_of_2) [2, 3, 4, 5]) (sRet (cCall sortD (cCons (cOwn 1) (cNil)))))
noncomputable def g_wires_of : List D → R Hd := fnP 1 7 m_wires_of
/-- slots: 0:box 1:most 2:many 3:way 4:rules 5:k 6:ears 7:table 8:ear -/
noncomputable def e__law_drawn_1 : EM := cCallIO [(0, 0)] g__law_rule_2 (cCons (cOwn 0) (cCons (cVar 2) (cNil)))
noncomputable def e__law_drawn_2 : EM := cCallIO [(0, 0)] g__law_rule_2 (cCons (cOwn 0) (cCons (cVar 5) (cNil)))
noncomputable def e__law_drawn_3 : EM := cOp subD (cOp subD (cVar 2) (cC (.int 1))) (cVar 8)
noncomputable def e__law_drawn_4 : EM := cTup (cCons (cCall tupleD (cCons (cCall sortD (cCons (cComp (cIter (cVar 6)) (tmName 8) (cYes) (e__law_drawn_3) [8]) (cNil))) (cNil))) (cCons (cVar 7) (cNil)))
noncomputable def m__law_drawn : SM := sSeq (sAsg (cOp addD (cC (.int 1)) (cCallIO [(0, 0)] g__law_take_2 (cCons (cOwn 0) (cCons (cVar 1) (cNil))))) (tmName 2)) (sSeq (sAsg (cCallIO [(0, 0)] g__law_take_2 (cCons (cOwn 0) (cCons (cC (.int 4)) (cNil)))) (tmName 3)) (sSeq (sIf (cBl (cOp gtD (cVar 3) (cC (.int 1)))) (sRet (cCall tupleD (cCons (cComp (cRange rng1D (cCons (cVar 2) (cNil))) (tmName 5) (cYes) (e__law_drawn_1) [5]) (cNil)))) (sSkip)) (sSeq (sAsg (cComp (cRange rng1D (cCons (cVar 2) (cNil))) (tmName 5) (cYes) (e__law_drawn_2) [5]) (tmName 4)) (sSeq (sIf (cBl (cOp eqD (cVar 3) (cC (.int 1)))) (sAsg (cComp (cIter (cRev (cVar 4) (cPart (cNeg (cC (.int 1)))))) (tmTup [6, 7]) (cYes) (e__law_drawn_4) [6, 7]) (tmName 4)) (sSkip)) (sRet (cCall tupleD (cCons (cVar 4) (cNil))))))))
noncomputable def g__law_drawn : Fn := fnD 2 9 [0] m__law_drawn
/-- slots: 0:net 1:found 2:stand 3:j 4:other 5:k 6:change -/
noncomputable def b__law_wires_1 : SM := sSeq (sAsg (cOp subD (cCallF g__law_told (cCons (cVar 0) (cCons (cVar 4) (cCons (cVar 5) (cNil))))) (cCallF g__law_told (cCons (cVar 0) (cCons (cVar 2) (cCons (cVar 5) (cNil)))))) (tmName 6)) (sIf (cBl (cOp neD (cVar 6) (cC (.int 0)))) (sDPutS 1 (cTup (cCons (cVar 3) (cCons (cVar 5) (cCons (cVar 6) (cNil))))) (cC (.bl true))) (sSkip))
noncomputable def b__law_wires_2 : SM := sSeq (sAsg (cOp addD (cOp addD (cSlice (cVar 2) (cNoPart) (cPart (cVar 3))) (cTup (cCons (cC (.int 1)) (cNil)))) (cSlice (cVar 2) (cPart (cOp addD (cVar 3) (cC (.int 1)))) (cNoPart))) (tmName 4)) (sFor [] (cRange rng1D (cCons (cCall lenD (cCons (cVar 0) (cNil))) (cNil))) (tmName 5) (b__law_wires_1) [5, 6])
noncomputable def b__law_wires_3 : SM := sFor [] (cRange rng1D (cCons (cCall lenD (cCons (cVar 0) (cNil))) (cNil))) (tmName 3) (b__law_wires_2) [3, 4, 5, 6]
noncomputable def m__law_wires : SM := sSeq (sDicNew true 1) (sSeq (sFor [] (cIter (cCallF g__law_readings (cCons (cCall lenD (cCons (cVar 0) (cNil))) (cNil)))) (tmName 2) (b__law_wires_3) [2, 3, 4, 5, 6]) (sRet (cCall sortDD (cCons (cOwn 1) (cNil)))))
noncomputable def g__law_wires : List D → R Hd := fnP 1 7 m__law_wires
/-- slots: 0:net 1:found 2:one 3:other 4:sign -/
noncomputable def m_signs_between : SM := sSeq (sDicNew true 1) (sSeq (sGroup 1 (cIter (cCallF g_wires_of (cCons (cVar 0) (cNil)))) [2, 3, 4]) (sRet (cOwn 1)))
noncomputable def g_signs_between : List D → R Hd := fnP 1 5 m_signs_between
/-- slots: 0:things 1:many 2:found 3:thing 4:others 5:other 6:rest -/
noncomputable def t_in_rows_1 (G : List D → R Hd) : BM := cBl (cOp neD (cVar 5) (cVar 3))
noncomputable def e_in_rows_1 (G : List D → R Hd) : EM := cVar 5
noncomputable def e_in_rows_2 (G : List D → R Hd) : EM := cOp addD (cTup (cCons (cVar 3) (cNil))) (cVar 6)
noncomputable def b_in_rows_1 (G : List D → R Hd) : SM := sSeq (sAsg (cComp (cIter (cVar 0)) (tmName 5) (t_in_rows_1 G) (e_in_rows_1 G) [5]) (tmName 4)) (sExt 2 (cComp (cIter (cCallF G (cCons (cVar 4) (cCons (cOp subD (cVar 1) (cC (.int 1))) (cNil))))) (tmName 6) (cYes) (e_in_rows_2 G) [6]))
noncomputable def m_in_rows (G : List D → R Hd) : SM := sSeq (sIf (cBl (cOp eqD (cVar 1) (cC (.int 0)))) (sRet (cLst (cCons (cTup (cNil)) (cNil)))) (sSkip)) (sSeq (sOwn [2] [] (cLst (cNil)) 2) (sSeq (sFor [] (cIter (cVar 0)) (tmName 3) ((b_in_rows_1 G)) [3, 4]) (sRet (cOwn 2))))
noncomputable def r_in_rows : Nat → List D → R Hd
  | 0 => fnP 2 7 (fun _ => .stk)
  | n + 1 => fnP 2 7 (m_in_rows (r_in_rows n))
noncomputable def g_in_rows : List D → R Hd := r_in_rows 40
/-- slots: 0:net -/
noncomputable def m_need_few : SM := sIf (cBl (cOp gtD (cCall lenD (cCons (cVar 0) (cNil))) (cC (.int 6)))) (sRaise "TooMany") (sSkip)
noncomputable def g_need_few : List D → R Hd := fnP 1 1 m_need_few
/-- slots: 0:ring -/
noncomputable def m_steps_round : SM := sRet (cListZip (cCons (cVar 0) (cCons (cOp addD (cSlice (cVar 0) (cPart (cC (.int 1))) (cNoPart)) (cSlice (cVar 0) (cNoPart) (cPart (cC (.int 1))))) (cNil))))
noncomputable def g_steps_round : List D → R Hd := fnP 1 1 m_steps_round
/-- slots: 0:pairs 1:ring 2:step -/
noncomputable def e_is_round_1 : EM := cDIn false (cVar 2) (cVar 0)
noncomputable def m_is_round : SM := sRet (cAnd (cOp eqD (cIx (cVar 1) (cC (.int 0))) (cCall minSD (cCons (cVar 1) (cNil)))) (cCall allD (cCons (cComp (cIter (cCallF g_steps_round (cCons (cVar 1) (cNil)))) (tmName 2) (cYes) (e_is_round_1) [2]) (cNil))))
noncomputable def g_is_round : List D → R Hd := fnP 2 3 m_is_round
/-- slots: 0:net 1:many 2:pairs 3:ring -/
noncomputable def t_rings_with_1 : BM := cTru (cCallF g_is_round (cCons (cVar 2) (cCons (cVar 3) (cNil))))
noncomputable def e_rings_with_1 : EM := cVar 3
noncomputable def m_rings_with : SM := sSeq (sAsg (cCallF g_signs_between (cCons (cVar 0) (cNil))) (tmName 2)) (sRet (cComp (cIter (cCallF g_in_rows (cCons (cRg1 true (cCall lenD (cCons (cVar 0) (cNil)))) (cCons (cVar 1) (cNil))))) (tmName 3) (t_rings_with_1) (e_rings_with_1) [3]))
noncomputable def g_rings_with : List D → R Hd := fnP 2 4 m_rings_with
/-- slots: 0:net 1:found 2:many -/
noncomputable def b_rings_of_1 : SM := sExt 1 (cCallF g_rings_with (cCons (cVar 0) (cCons (cVar 2) (cNil))))
noncomputable def m_rings_of : SM := sSeq (sExpr (cCallF g_need_few (cCons (cVar 0) (cNil)))) (sSeq (sOwn [1] [] (cLst (cNil)) 1) (sSeq (sFor [] (cRange rng2D (cCons (cC (.int 1)) (cCons (cOp addD (cCall lenD (cCons (cVar 0) (cNil))) (cC (.int 1))) (cNil)))) (tmName 2) (b_rings_of_1) [2]) (sRet (cCall sortD (cCons (cOwn 1) (cNil))))))
noncomputable def g_rings_of : List D → R Hd := fnP 1 3 m_rings_of
/-- slots: 0:net 1:found 2:j 3:k 4:sign -/
noncomputable def m__law_pairs_2 : SM := sSeq (sDicNew true 1) (sSeq (sGroup 1 (cIter (cCallF g__law_wires (cCons (cVar 0) (cNil)))) [2, 3, 4]) (sRet (cOwn 1)))
noncomputable def g__law_pairs_2 : List D → R Hd := fnP 1 5 m__law_pairs_2
/-- slots: 0:net 1:thing 2:one -/
noncomputable def e_are_switches_1 : EM := cCallF g_is_upto (cCons (cVar 2) (cCons (cCall lenD (cCons (cVar 0) (cNil))) (cNil)))
noncomputable def m_are_switches : SM := sRet (cAnd (cCall allD (cCons (cComp (cIter (cVar 1)) (tmName 2) (cYes) (e_are_switches_1) [2]) (cNil))) (cOp eqD (cLenSet (cVar 1)) (cCall lenD (cCons (cVar 1) (cNil)))))
noncomputable def g_are_switches : List D → R Hd := fnP 2 3 m_are_switches
/-- slots: 0:net 1:thing -/
noncomputable def m_is_ring : SM := sSeq (sIf (cOrT (cNotT (cTru (cIsi isTup (cVar 1)))) (cOrT (cBl (cOp eqD (cVar 1) (cTup (cNil)))) (cNotT (cTru (cCallF g_are_switches (cCons (cVar 0) (cCons (cVar 1) (cNil)))))))) (sRet (cC (.bl false))) (sSkip)) (sRet (cCallF g_is_round (cCons (cCallF g_signs_between (cCons (cVar 0) (cNil))) (cCons (cVar 1) (cNil)))))
noncomputable def g_is_ring : List D → R Hd := fnP 2 2 m_is_ring
/-- slots: 0:pairs 1:ring 2:found 3:step 4:sign -/
noncomputable def e_signs_on_1 : EM := cOp mulD (cVar 4) (cIx (cDGet (cVar 0) (cVar 3)) (cC (.int 0)))
noncomputable def e_signs_on_2 : EM := cOp mulD (cVar 4) (cIx (cDGet (cVar 0) (cVar 3)) (cNeg (cC (.int 1))))
noncomputable def b_signs_on_1 : SM := sAsg (cSetSort (cOp addD (cComp (cIter (cVar 2)) (tmName 4) (cYes) (e_signs_on_1) [4]) (cComp (cIter (cVar 2)) (tmName 4) (cYes) (e_signs_on_2) [4]))) (tmName 2)
noncomputable def m_signs_on : SM := sSeq (sAsg (cLst (cCons (cC (.int 1)) (cNil))) (tmName 2)) (sSeq (sFor [] (cIter (cCallF g_steps_round (cCons (cVar 1) (cNil)))) (tmName 3) (b_signs_on_1) [3]) (sRet (cVar 2)))
noncomputable def g_signs_on : List D → R Hd := fnP 2 5 m_signs_on
/-- slots: 0:net 1:ring -/
noncomputable def m_signs_of : SM := sSeq (sIf (cNotT (cTru (cCallF g_is_ring (cCons (cVar 0) (cCons (cVar 1) (cNil)))))) (sRaise "NoOrder") (sSkip)) (sRet (cCallF g_signs_on (cCons (cCallF g_signs_between (cCons (cVar 0) (cNil))) (cCons (cVar 1) (cNil)))))
noncomputable def g_signs_of : List D → R Hd := fnP 2 2 m_signs_of
/-- slots: 0:net 1:one 2:other 3:came 4:found 5:k -/
noncomputable def b_way_of_1 : SM := sSeq (sAsg (cDGet (cVar 3) (cVar 2)) (tmTup [5, 2])) (sAppend 4 (cVar 5))
noncomputable def m_way_of : SM := sSeq (sExpr (cCallF g_look_at_stand (cCons (cVar 0) (cCons (cVar 1) (cNil))))) (sSeq (sExpr (cCallF g_look_at_stand (cCons (cVar 0) (cCons (cVar 2) (cNil))))) (sSeq (sAsg (cCallF g_search_from (cCons (cVar 0) (cCons (cVar 1) (cNil)))) (tmName 3)) (sSeq (sIf (cBl (cDIn true (cVar 2) (cVar 3))) (sRet (cC .non)) (sSkip)) (sSeq (sOwn [4] [] (cLst (cNil)) 4) (sSeq (sWhile (cBl (cOp isNotD (cDGet (cVar 3) (cVar 2)) (cC .non))) (b_way_of_1) [5]) (sRet (cListRev (cOwn 4))))))))
noncomputable def g_way_of : List D → R Hd := fnP 3 6 m_way_of
/-- slots: 0:net 1:row 2:pairs 3:left 4:switch 5:other -/
noncomputable def t_next_free_1 : BM := cBl (cOp ninD (cVar 4) (cVar 1))
noncomputable def e_next_free_1 : EM := cVar 4
noncomputable def e_next_free_2 : EM := cDIn false (cTup (cCons (cVar 5) (cCons (cVar 4) (cNil)))) (cVar 2)
noncomputable def b_next_free_1 : SM := sIf (cNotT (cTru (cCall anyD (cCons (cComp (cIter (cVar 3)) (tmName 5) (cYes) (e_next_free_2) [5]) (cNil))))) (sRet (cVar 4)) (sSkip)
noncomputable def m_next_free : SM := sSeq (sAsg (cCallF g_signs_between (cCons (cVar 0) (cNil))) (tmName 2)) (sSeq (sAsg (cComp (cRange rng1D (cCons (cCall lenD (cCons (cVar 0) (cNil))) (cNil))) (tmName 4) (t_next_free_1) (e_next_free_1) [4]) (tmName 3)) (sSeq (sFor [] (cIter (cVar 3)) (tmName 4) (b_next_free_1) [4]) (sRet (cC .non))))
noncomputable def g_next_free : List D → R Hd := fnP 2 6 m_next_free
/-- slots: 0:net 1:row 2:switch 3:many -/
noncomputable def b_order_paper_1 : SM := sAug (fun i j => i + j) 3 (cC (.int 1))
noncomputable def b_order_paper_2 : SM := sSeq (sAsg (cCallR g_next_free (cCons (cVar 0) (cCons (cOwn 1) (cNil)))) (tmName 2)) (sSeq (sIf (cBl (cOp isD (cVar 2) (cC .non))) (sSeq (sAsg (cC (.int 1)) (tmName 3)) (sSeq (sWhile (cBl (cOp eqD (cCallF g_rings_with (cCons (cVar 0) (cCons (cVar 3) (cNil)))) (cLst (cNil)))) (b_order_paper_1) []) (sRet (cTup (cCons (cC (.str "ring")) (cCons (cIx (cCallF g_rings_with (cCons (cVar 0) (cCons (cVar 3) (cNil)))) (cC (.int 0))) (cNil))))))) (sSkip)) (sAppend 1 (cVar 2)))
noncomputable def m_order_paper : SM := sGrowR 1 (sWhile (cBl (cOp ltD (cCall lenD (cCons (cOwn 1) (cNil))) (cCall lenD (cCons (cVar 0) (cNil))))) (b_order_paper_2) [2, 3]) (sRet (cTup (cCons (cC (.str "order")) (cCons (cVar 1) (cNil)))))
noncomputable def g_order_paper : List D → R Hd := fnP 1 4 m_order_paper
/-- slots: 0:net 1:dens 2:rests 3:stand 4:way -/
noncomputable def b__law_ringless_1 : SM := sSeq (sAsg (cCallF g_way_of (cCons (cVar 0) (cCons (cVar 3) (cCons (cIx (cVar 2) (cC (.int 0))) (cNil))))) (tmName 4)) (sIf (cOrT (cBl (cOp isD (cVar 4) (cC .non))) (cBl (cOp gtD (cCall lenD (cCons (cVar 4) (cNil))) (cCall lenD (cCons (cVar 0) (cNil)))))) (sRet (cC (.bl false))) (sSkip))
noncomputable def m__law_ringless : SM := sSeq (sIf (cOrT (cBl (cOp neD (cIx (cCallF g_order_paper (cCons (cVar 0) (cNil))) (cC (.int 0))) (cC (.str "order")))) (cOrT (cBl (cOp neD (cCall lenD (cCons (cVar 2) (cNil))) (cC (.int 1)))) (cBl (cOp neD (cVar 1) (cLst (cCons (cVar 2) (cNil))))))) (sRet (cC (.bl false))) (sSkip)) (sSeq (sFor [] (cIter (cCallF g__law_readings (cCons (cCall lenD (cCons (cVar 0) (cNil))) (cNil)))) (tmName 3) (b__law_ringless_1) [3, 4]) (sRet (cC (.bl true))))
noncomputable def g__law_ringless : List D → R Hd := fnP 3 5 m__law_ringless
/-- slots: 0:script 1:k 2:net 3:rings 4:signs 5:ring 6:dens 7:rests 8:den -/
noncomputable def b_law_k27_1 : SM := sAsg (cOp addD (cVar 4) (cCallF g_signs_of (cCons (cVar 2) (cCons (cVar 5) (cNil))))) (tmName 4)
noncomputable def t_law_k27_1 : BM := cBl (cOp gtD (cCall lenD (cCons (cVar 8) (cNil))) (cC (.int 1)))
noncomputable def e_law_k27_1 : EM := cVar 8
noncomputable def t_law_k27_2 : BM := cBl (cOp eqD (cCall lenD (cCons (cVar 8) (cNil))) (cC (.int 1)))
noncomputable def e_law_k27_2 : EM := cIx (cVar 8) (cC (.int 0))
noncomputable def b_law_k27_2 : SM := sSeq (sAsg (cCallNew g__law_drawn (cCons (cCallF g__law_box_2 (cCons (cVar 0) (cCons (cVar 1) (cNil)))) (cCons (cC (.int 6)) (cNil)))) (tmName 2)) (sSeq (sAsg (cCallF g_rings_of (cCons (cVar 2) (cNil))) (tmName 3)) (sSeq (sAsg (cLst (cNil)) (tmName 4)) (sSeq (sFor [] (cIter (cVar 3)) (tmName 5) (b_law_k27_1) [5]) (sSeq (sAsg (cCallF g_dens_of (cCons (cVar 2) (cNil))) (tmName 6)) (sSeq (sAsg (cCallF g_rests_of (cCons (cVar 2) (cNil))) (tmName 7)) (sSeq (sIf (cOrT (cAndT (cBl (cOp gtD (cCall lenD (cCons (cVar 6) (cNil))) (cC (.int 1)))) (cBl (cOp ninD (cC (.int 1)) (cVar 4)))) (cBl (cOp eqD (cVar 6) (cLst (cNil))))) (sRet (cC (.bl false))) (sSkip)) (sSeq (sIf (cAndT (cBl (cOp neD (cComp (cIter (cVar 6)) (tmName 8) (t_law_k27_1) (e_law_k27_1) [8]) (cLst (cNil)))) (cBl (cOp ninD (cNeg (cC (.int 1))) (cVar 4)))) (sRet (cC (.bl false))) (sSkip)) (sSeq (sIf (cBl (cOp neD (cCall sortD (cCons (cComp (cIter (cVar 6)) (tmName 8) (t_law_k27_2) (e_law_k27_2) [8]) (cNil))) (cVar 7))) (sRet (cC (.bl false))) (sSkip)) (sSeq (sIf (cAndT (cBl (cOp eqD (cVar 3) (cLst (cNil)))) (cNotT (cTru (cCallF g__law_ringless (cCons (cVar 2) (cCons (cVar 6) (cCons (cVar 7) (cNil)))))))) (sRet (cC (.bl false))) (sSkip)) (sIf (cBl (cOp neD (cOp eqD (cIx (cCallF g_order_paper (cCons (cVar 2) (cNil))) (cC (.int 0))) (cC (.str "ring"))) (cOp neD (cVar 3) (cLst (cNil))))) (sRet (cC (.bl false))) (sSkip)))))))))))
noncomputable def m_law_k27 : SM := sSeq (sFor [] (cRange rng1D (cCons (cCall max2D (cCons (cC (.int 1)) (cCons (cCall min2D (cCons (cCall lenD (cCons (cVar 0) (cNil))) (cCons (cC (.int 3)) (cNil)))) (cNil)))) (cNil))) (tmName 1) (b_law_k27_2) [1, 2, 3, 4, 5, 6, 7]) (sRet (cC (.bl true)))
noncomputable def g_law_k27 : List D → R Hd := fnP 1 9 m_law_k27
end C

set_option Elab.async false
set_option linter.all false
set_option maxRecDepth 100000
namespace H
open PySem PySem.Spec PyProof.Rows L2 Y
abbrev ti (xs : List Int) : D := .tup (xs.map D.int)
abbrev dRule (r : List Int × List Int) : D := .tup [ti r.1, ti r.2]
abbrev dNet (ns : List (List Int × List Int)) : D := .tup (ns.map dRule)
@[simp] theorem is_whole_int {i : Int} : C.g_is_whole [.int i] = .ok (.fr (.bl true)) := by
  simp [C.g_is_whole, C.m_is_whole, e_fnP, noDit, Y.isInt, Y.isBl]
@[simp] theorem is_upto_int {i m : Int} : C.g_is_upto [.int i, .int m] = .ok (.fr (.bl (decide (0 ≤ i ∧ i < m)))) := by
  simp [C.g_is_upto, C.m_is_upto, e_fnP, is_whole_int]
  by_cases h : 0 ≤ i <;> simp [h]
def placeI (xs : List Int) : Int := xs.foldl (fun p b => 2 * p + b) 0
theorem place_of_lst {xs : List Int} (hx : xs.length ≤ 16777216) : C.g_place_of [.lst (xs.map D.int)] = .ok (.vl (.int (placeI xs))) := by
  have h := for_run (tm := tmName 2) (body := C.b_place_of_1) (vs := [2]) (ws := []) D.int (fun p : Int => [some (D.lst (xs.map D.int)), some (.int p), none]) (fun p x => 2 * p + x) (fun _ => True) xs 0 trivial (fun p x _ hx => by
    simp [turnF, C.b_place_of_1, mulOk_l])
  simp [C.g_place_of, C.m_place_of, e_fnP, szOk_of hx, h.1, placeI]
theorem place_of_tup {xs : List Int} (hx : xs.length ≤ 16777216) : C.g_place_of [ti xs] = .ok (.vl (.int (placeI xs))) := by
  have h := for_run (tm := tmName 2) (body := C.b_place_of_1) (vs := [2]) (ws := []) D.int (fun p : Int => [some (ti xs), some (.int p), none]) (fun p x => 2 * p + x) (fun _ => True) xs 0 trivial (fun p x _ hx => by
    simp [turnF, C.b_place_of_1, mulOk_l])
  simp [C.g_place_of, C.m_place_of, e_fnP, szOk_of hx, h.1, placeI]
/-- all bits -/
theorem are_bits_ti {xs : List Int} {m : Int} (hx : xs.length ≤ 16777216) (hb : ∀ x ∈ xs, 0 ≤ x ∧ x < 2) (hm : (xs.length : Int) = m) : C.g_are_bits [ti xs, .int m] = .ok (.fr (.bl true)) := by
  have h := comp_map (tm := tmName 2) (t := cYes) (e := C.e_are_bits_1) (vs := [2]) (ws := []) (ρ := [some (ti xs), some (.int m), none]) D.int (fun x => D.bl (decide (0 ≤ x) && decide (x < 2))) xs (fun x _ => by
    simp [turnC, C.e_are_bits_1])
  have h2 : xs.map (fun x => D.bl (decide (0 ≤ x) && decide (x < 2))) = (xs.map fun x => decide (0 ≤ x) && decide (x < 2)).map D.bl := by simp
  simp [C.g_are_bits, C.m_are_bits, e_fnP, noDit, Y.isTup, szOk_of hx, h, hm]
  rw [h2, d_all]
  simp
  intro x hx
  exact hb x hx
theorem is_stand_ok {n : List D} {xs : List Int} (hx : xs.length ≤ 16777216) (hb : ∀ x ∈ xs, 0 ≤ x ∧ x < 2) (hl : xs.length = n.length) : C.g_is_stand [.tup n, ti xs] = .ok (.fr (.bl true)) := by
  have := are_bits_ti (m := n.length) hx hb (by omega)
  simp [C.g_is_stand, C.m_is_stand, e_fnP, this]
theorem look_at_stand_ok {n : List D} {xs : List Int} (hx : xs.length ≤ 16777216) (hb : ∀ x ∈ xs, 0 ≤ x ∧ x < 2) (hl : xs.length = n.length) : C.g_look_at_stand [.tup n, ti xs] = .ok (.fr .non) := by
  simp [C.g_look_at_stand, C.m_look_at_stand, e_fnP, is_stand_ok hx hb hl]
end H

set_option Elab.async false
set_option linter.all false
set_option maxRecDepth 100000
namespace H
open PySem PySem.Spec PyProof.Rows L2 Y
theorem atI_nat' {α : Type} {xs : List α} {k : Nat} (h : k < xs.length) : atI xs (k : Int) = some xs[k] := atI_of (j := k) rfl (List.getElem?_eq_getElem h)
theorem atI_map {α β : Type} {f : α → β} {xs : List α} {i : Int} : atI (xs.map f) i = (atI xs i).map f := by
  unfold atI
  rw [List.length_map]
  cases ixN xs.length i with
  | none => rfl
  | some j => simp
theorem atI_int {xs : List Int} {i : Int} (h0 : 0 ≤ i) (h : i < xs.length) : atI xs i = some (xs.getD i.toNat 0) := by
  rw [atI_lt h0 h, List.getD_eq_getElem?_getD, List.getElem?_eq_getElem (by omega)]
  rfl
theorem atI_mapI {xs : List Int} {i : Int} (h0 : 0 ≤ i) (h : i < xs.length) : atI (xs.map D.int) i = some (.int (xs.getD i.toNat 0)) := by rw [atI_map, atI_int h0 h]; rfl
theorem place_go : ∀ {xs : List Int} {p : Int}, 0 ≤ p → (∀ x ∈ xs, 0 ≤ x ∧ x < 2) → 0 ≤ xs.foldl (fun p b => 2 * p + b) p ∧ xs.foldl (fun p b => 2 * p + b) p < (p + 1) * 2 ^ xs.length
  | [], p, hp, _ => by simp; omega
  | x :: xs, p, hp, h => by
    have hx := h x (by simp)
    have ih := place_go (xs := xs) (p := 2 * p + x) (by omega) fun y hy => h y (by simp [hy])
    rw [List.foldl_cons, List.length_cons, Int.pow_succ]
    refine ⟨ih.1, Int.lt_of_lt_of_le ih.2 ?_⟩
    have e : (p + 1) * (2 ^ xs.length * 2) = (2 * p + 2) * 2 ^ xs.length := by
      rw [Int.mul_comm (2 ^ xs.length) 2, ← Int.mul_assoc]
      congr 1
      omega
    rw [e]
    exact Int.mul_le_mul_of_nonneg_right (by omega) (Int.pow_nonneg (by omega))
theorem placeI_lt {xs : List Int} (h : ∀ x ∈ xs, 0 ≤ x ∧ x < 2) : 0 ≤ placeI xs ∧ placeI xs < 2 ^ xs.length := by
  have := place_go (xs := xs) (p := 0) (by omega) h
  simpa [placeI] using this
abbrev RuleT := List Int × List Int
structure GoodNet (ns : List RuleT) : Prop where
  sz : ns.length ≤ 100
  ear : ∀ r ∈ ns, r.1.length ≤ 100 ∧ (∀ e ∈ r.1, 0 ≤ e ∧ e < ns.length) ∧ r.2.length = 2 ^ r.1.length
structure IsSt (m : Nat) (st : List Int) : Prop where
  len : st.length = m
  bit : ∀ x ∈ st, 0 ≤ x ∧ x < 2
def tellI (r : RuleT) (st : List Int) : Int := r.2.getD (placeI (r.1.map fun e => st.getD e.toNat 0)).toNat 0
def oughtI (ns : List RuleT) (st : List Int) (k : Nat) : Int := tellI (ns.getD k ([], [])) st
theorem getD_bit {st : List Int} (h : ∀ x ∈ st, 0 ≤ x ∧ x < 2) (k : Nat) : 0 ≤ st.getD k 0 ∧ st.getD k 0 < 2 := by
  rw [List.getD_eq_getElem?_getD]
  cases e : st[k]? with
  | none => simp
  | some x => exact h x (List.mem_of_getElem? e)
theorem IsSt.get {m : Nat} {st : List Int} (h : IsSt m st) (k : Nat) : 0 ≤ st.getD k 0 ∧ st.getD k 0 < 2 := getD_bit h.bit k
theorem read_lt {m : Nat} {st : List Int} (h : IsSt m st) (es : List Int) : 0 ≤ placeI (es.map fun e => st.getD e.toNat 0) ∧ placeI (es.map fun e => st.getD e.toNat 0) < 2 ^ es.length := by
  have := placeI_lt (xs := es.map fun e => st.getD e.toNat 0) fun x hx => by
    obtain ⟨e, _, rfl⟩ := List.mem_map.mp hx
    exact h.get _
  rwa [List.length_map] at this
theorem net_at {ns : List RuleT} {k : Nat} (h : k < ns.length) : atI (ns.map dRule) (k : Int) = some (dRule (ns.getD k ([], []))) := by
  rw [atI_map, atI_nat' h, List.getD_eq_getElem?_getD, List.getElem?_eq_getElem h]
  rfl
theorem GoodNet.at {ns : List RuleT} (g : GoodNet ns) {k : Nat} (h : k < ns.length) : (ns.getD k ([], [])).1.length ≤ 100 ∧ (∀ e ∈ (ns.getD k ([], [])).1, 0 ≤ e ∧ e < ns.length) ∧ (ns.getD k ([], [])).2.length = 2 ^ (ns.getD k ([], [])).1.length := by
  rw [List.getD_eq_getElem?_getD, List.getElem?_eq_getElem h]
  exact g.ear _ (List.getElem_mem h)
theorem ought_ok {ns : List RuleT} {st : List Int} {k : Nat} (g : GoodNet ns) (hs : IsSt ns.length st) (hk : k < ns.length) : C.g_ought [dNet ns, ti st, .int k] = .ok (.vl (.int (oughtI ns st k))) := by
  obtain ⟨h1, h2, h3⟩ := g.at hk
  have h := comp_map (tm := tmName 5) (t := cYes) (e := C.e_ought_1) (vs := [5]) (ws := []) (ρ := [some (dNet ns), some (ti st), some (.int k), some (ti (ns.getD k ([], [])).1), some (ti (ns.getD k ([], [])).2), none]) D.int (fun e => D.int (st.getD e.toNat 0)) (ns.getD k ([], [])).1 (fun e he => by
    have := h2 e he
    simp [turnC, C.e_ought_1, atI_mapI this.1 (by rw [hs.len]; exact this.2)])
  have h4 := place_of_lst (xs := (ns.getD k ([], [])).1.map fun e => st.getD e.toNat 0) (by rw [List.length_map]; omega)
  rw [List.map_map] at h4
  have h5 := read_lt hs (ns.getD k ([], [])).1
  have h6 := atI_mapI (xs := (ns.getD k ([], [])).2) h5.1 (by rw [h3]; exact_mod_cast h5.2)
  simp only [Function.comp_def] at h4
  simp [C.g_ought, C.m_ought, e_fnP, net_at hk, szOk_of (show (ns.getD k ([], [])).1.length ≤ 16777216 by omega), h, h4, h6, -List.getD_eq_getElem?_getD]
  rfl
/-- the switches that are not as their rules tell -/
def wrongI (ns : List RuleT) (st : List Int) : List Nat := (List.range ns.length).filter fun k => !decide (oughtI ns st k = st.getD k 0)
abbrev ln' (xs : List Nat) : D := .lst (xs.map fun k => D.int (k : Nat))
theorem wrong_ones_ok {ns : List RuleT} {st : List Int} (g : GoodNet ns) (hs : IsSt ns.length st) : C.g_wrong_ones [dNet ns, ti st] = .ok (.fr (ln' (wrongI ns st))) := by
  have hz := g.sz
  have h : cCompL (tmName 2) C.t_wrong_ones_1 C.e_wrong_ones_1 [2] [] ((List.range ns.length).map fun k : Nat => D.int (k : Nat)) [some (dNet ns), some (ti st), none] = .ok ((wrongI ns st).map fun k => D.int (k : Nat), [some (dNet ns), some (ti st), none]) :=
    comp_filter (fun k : Nat => D.int (k : Nat)) (fun k => !decide (oughtI ns st k = st.getD k 0)) (fun k => D.int (k : Nat)) (List.range ns.length) (fun k hk => by
      have hk := List.mem_range.mp hk
      have a := atI_mapI (xs := st) (i := k) (by omega) (by rw [hs.len]; omega)
      simp only [turnC, C.t_wrong_ones_1, C.e_wrong_ones_1, Int.toNat_natCast] at a ⊢
      simp [ought_ok g hs hk, a, -List.getD_eq_getElem?_getD]
      by_cases c : oughtI ns st k = st.getD k 0 <;> simp [c, -List.getD_eq_getElem?_getD])
  have l := look_at_stand_ok (n := ns.map dRule) (xs := st) (by rw [hs.len]; omega) hs.bit (by rw [hs.len, List.length_map])
  have hr : rngOk ns.length = true := rngOk_of (by omega) (by omega)
  have hz2 : szOk ns.length = true := szOk_of (by omega)
  simp [C.g_wrong_ones, C.m_wrong_ones, e_fnP, l, hr, hz2, h]
def stands : Nat → List (List Int)
  | 0 => [[]]
  | m + 1 => (stands m).map (0 :: ·) ++ (stands m).map (1 :: ·)
theorem stands_len : ∀ m, (stands m).length = 2 ^ m
  | 0 => rfl
  | m + 1 => by simp [stands, stands_len m, Nat.pow_succ]; omega
theorem stands_st : ∀ {m : Nat} {st : List Int}, st ∈ stands m → IsSt m st
  | 0, st, h => by simp [stands] at h; subst h; exact ⟨rfl, by simp⟩
  | m + 1, st, h => by
    simp only [stands, List.mem_append, List.mem_map] at h
    rcases h with ⟨s, h, rfl⟩ | ⟨s, h, rfl⟩
    · exact ⟨by simp [(stands_st h).len], by simpa using (stands_st h).bit⟩
    · exact ⟨by simp [(stands_st h).len], by simpa using (stands_st h).bit⟩
abbrev lti (xs : List (List Int)) : D := .lst (xs.map ti)
theorem stands_of_ok {m : Nat} (hm : m ≤ 20) : C.g_stands_of [.int m] = .ok (.vl (lti (stands m))) := by
  have hp : ∀ k, k ≤ 20 → 2 ^ k ≤ 1048576 := fun k hk => Nat.pow_le_pow_right (by omega) hk
  have h := for_rng (tm := tmName 2) (body := C.b_stands_of_1) (vs := [2]) (ws := []) (n := m) (fun k : Nat => D.int (k : Nat)) (fun k => [some (.int m), some (lti (stands k)), none, none]) (fun i hi => by
    have hz := hp i (by omega)
    have hz2 := hp (i + 1) (by omega)
    have c1 : cCompL (tmName 3) cYes C.e_stands_of_1 [3] [] ((stands i).map ti) [some (.int m), some (lti (stands i)), some (.int (i : Nat)), none] = .ok (((stands i).map fun s => ti (0 :: s)), [some (.int m), some (lti (stands i)), some (.int (i : Nat)), none]) :=
      comp_map ti (fun s => ti (0 :: s)) (stands i) (fun s hs => by
        have := (stands_st hs).len
        simp [turnC, C.e_stands_of_1, szOk_of (show 1 + s.length ≤ 16777216 by omega)])
    have c2 : cCompL (tmName 3) cYes C.e_stands_of_2 [3] [] ((stands i).map ti) [some (.int m), some (lti (stands i)), some (.int (i : Nat)), none] = .ok (((stands i).map fun s => ti (1 :: s)), [some (.int m), some (lti (stands i)), some (.int (i : Nat)), none]) :=
      comp_map ti (fun s => ti (1 :: s)) (stands i) (fun s hs => by
        have := (stands_st hs).len
        simp [turnC, C.e_stands_of_2, szOk_of (show 1 + s.length ≤ 16777216 by omega)])
    have hl := stands_len i
    have z1 : szOk (stands i).length = true := szOk_of (by omega)
    have z2 : szOk ((stands i).length + (stands i).length) = true := szOk_of (by rw [Nat.pow_succ] at hz2; omega)
    refine ⟨by simp, ?_⟩
    simp only [turnF, C.b_stands_of_1]
    simp [c1, c2, z1, z2, stands, Function.comp_def])
  have hr : rngOk m = true := rngOk_of (by omega) (by omega)
  have hz2 : szOk m = true := szOk_of (by omega)
  have h : forL (tmName 2) C.b_stands_of_1 [2] [] ((List.range m).map fun k : Nat => D.int (k : Nat)) [some (.int m), some (.lst [.tup []]), none, none] = _ := h
  simp [C.g_stands_of, C.m_stands_of, e_fnP, hr, hz2, h]
def restsI (ns : List RuleT) : List (List Int) := (stands ns.length).filter fun st => (wrongI ns st).isEmpty
theorem fit_ln {n : Nat} {xs : List Nat} : Fit (n + 1) (ln' xs) := fun d h => by
  obtain ⟨x, _, rfl⟩ := List.mem_map.mp h
  exact fit_int
theorem fit_nil {n : Nat} : Fit (n + 1) (.lst []) := by
  unfold Fit
  intro d h
  cases h
theorem eqPs_nil {xs : List D} : eqPs xs [] = xs.isEmpty := by cases xs <;> rfl
theorem rests_of_ok {ns : List RuleT} (g : GoodNet ns) (hl : ns.length ≤ 20) : C.g_rests_of [dNet ns] = .ok (.fr (lti (restsI ns))) := by
  have h : cCompL (tmName 1) C.t_rests_of_1 C.e_rests_of_1 [1] [] ((stands ns.length).map ti) [some (dNet ns), none] = .ok ((restsI ns).map ti, [some (dNet ns), none]) :=
    comp_filter ti (fun st => (wrongI ns st).isEmpty) ti (stands ns.length) (fun st hs => by
      have e : eqD (ln' (wrongI ns st)) (.lst []) = .ok (.bl (wrongI ns st).isEmpty) := by
        rw [eqD_of (n := 2) fit_ln fit_nil, eqP_lst, eqPs_nil]; simp
      simp only [turnC, C.t_rests_of_1, C.e_rests_of_1]
      simp [wrong_ones_ok g (stands_st hs), e]
      split <;> rfl)
  have hz : szOk (stands ns.length).length = true := szOk_of (by
    rw [stands_len]
    exact Nat.le_trans (Nat.pow_le_pow_right (by omega) hl) (by omega))
  simp [C.g_rests_of, C.m_rests_of, e_fnP, stands_of_ok hl, h, hz]
end H

set_option Elab.async false
set_option linter.all false
set_option maxRecDepth 100000
set_option exponentiation.threshold 300
namespace H
open PySem PySem.Spec PyProof.Rows L2 Y
def cellI (ns : List Int) (k : Nat) : Int := if k < ns.length then ns.getD k 0 else 6151 * k + 29
def isOk (r : R Hd) (d : D) : Prop := r = .ok (.fr d) ∨ r = .ok (.vl d)
theorem cell_ok {ns : List Int} {k : Nat} : isOk (C.g__law_cell [.arg ns, .int k]) (.int (cellI ns k)) := by
  unfold cellI
  by_cases h : k < ns.length
  · right
    have a := atI_int (xs := ns) (i := k) (by omega) (by omega)
    simp only [Int.toNat_natCast] at a
    simp [C.g__law_cell, C.m__law_cell, e_fnP, h, a, -List.getD_eq_getElem?_getD]
  · left
    simp [C.g__law_cell, C.m__law_cell, e_fnP, h, mulOk_l]
/-- numbers that the machine bears as factors -/
def Big (n : Nat) (z : Int) : Prop := z.natAbs < 2 ^ n
theorem Big.add {a b : Int} {n : Nat} (h : Big n a) (h2 : Big n b) : Big (n + 1) (a + b) := by
  unfold Big at *
  rw [Nat.pow_succ]
  have := Int.natAbs_add_le a b
  omega
theorem Big.times {a b : Int} {n m : Nat} (h : Big n a) (h2 : Big m b) : Big (n + m) (a * b) := by
  unfold Big at *
  rw [Int.natAbs_mul, Nat.pow_add]
  exact Nat.mul_lt_mul'' h h2
theorem Big.up {a : Int} {n m : Nat} (h : Big n a) (hm : n ≤ m) : Big m a := Nat.lt_of_lt_of_le h (Nat.pow_le_pow_right (by omega) hm)
theorem cut_hi {ds : List D} {k : Nat} : Y.cutD ds none (some (k : Int)) = ds.take k := by
  unfold Y.cutD
  rw [HT.sIx_none, HT.sIx_nat]
  simp
/-- a rule for m switches -/
structure RuleOk (m : Nat) (r : RuleT) : Prop where
  len : r.1.length ≤ 4
  sub : ∃ es : List Nat, r.1 = es.map (fun j : Nat => (j : Int)) ∧ es.Sublist (List.range m)
  tab : r.2.length = 2 ^ r.1.length
  bit : ∀ x ∈ r.2, 0 ≤ x ∧ x < 2
end H

set_option Elab.async false
set_option linter.all false
set_option maxRecDepth 100000
namespace H
open PySem PySem.Spec PyProof.Rows L2 Y
structure NetOk (ns : List RuleT) (most : Nat) : Prop where
  pos : 1 ≤ ns.length
  le : ns.length ≤ most
  rule : ∀ r ∈ ns, RuleOk ns.length r
theorem NetOk.good {ns : List RuleT} {most : Nat} (h : NetOk ns most) (hm : most ≤ 100) : GoodNet ns where
  sz := Nat.le_trans h.le hm
  ear := fun r hr => by
    have k := h.rule r hr
    refine ⟨by have := k.len; omega, fun e he => ?_, k.tab⟩
    obtain ⟨es, e1, sub⟩ := k.sub
    rw [e1] at he
    obtain ⟨j, hj, rfl⟩ := List.mem_map.mp he
    have := List.mem_range.mp (sub.subset hj)
    omega
theorem fit_lti {n : Nat} {xs : List (List Int)} : Fit (n + 2) (lti xs) := fun d h => by
  obtain ⟨x, _, rfl⟩ := List.mem_map.mp h
  exact fit_tupI
end H

set_option Elab.async false
set_option linter.all false
set_option maxRecDepth 100000
namespace H
open PySem PySem.Spec PyProof.Rows L2 Y
theorem cut_to {ds : List D} {k : Nat} : Y.cutD ds none (some (k : Int)) = ds.take k := cut_hi
theorem cut_from {ds : List D} {k : Nat} : Y.cutD ds (some (k : Int)) none = ds.drop k := by
  unfold Y.cutD
  rw [HT.sIx_none, HT.sIx_nat]
  by_cases h : k ≤ ds.length
  · rw [Nat.min_eq_left h, List.take_of_length_le (by simp)]
  · rw [Nat.min_eq_right (by omega), List.drop_of_length_le (Nat.le_refl _), List.drop_of_length_le (by omega)]
    simp
def withI (st : List Int) (k : Nat) (b : Int) : List Int := st.take k ++ b :: st.drop (k + 1)
theorem with_bit_ok {st : List Int} {k : Nat} {b : Int} (hl : st.length ≤ 1000000) : C.g_with_bit [ti st, .int k, .int b] = .ok (.fr (ti (withI st k b))) := by
  have c1 := cut_to (ds := st.map D.int) (k := k)
  have c2 := cut_from (ds := st.map D.int) (k := k + 1)
  rw [show ((k + 1 : Nat) : Int) = (k : Int) + 1 by omega] at c2
  have z1 : szOk (min k st.length + 1) = true := szOk_of (by omega)
  have z2 : szOk (min k st.length + 1 + (st.length - (k + 1))) = true := szOk_of (by omega)
  simp only [C.g_with_bit, C.m_with_bit]
  simp [e_fnP, c1, c2, z1, z2, withI]
end H

set_option Elab.async false
set_option linter.all false
set_option maxRecDepth 100000
namespace H
open PySem PySem.Spec PyProof.Rows L2 Y
theorem ixN_nat {n k : Nat} (h : k < n) : ixN n (k : Int) = some k := by
  unfold ixN
  rw [if_pos (by omega), if_pos (by omega)]
  rfl
def TabBits (ns : List RuleT) : Prop := ∀ r ∈ ns, ∀ x ∈ r.2, 0 ≤ x ∧ x < 2
theorem NetOk.tab {ns : List RuleT} {most : Nat} (h : NetOk ns most) : TabBits ns := fun r hr => (h.rule r hr).bit
end H

set_option Elab.async false
set_option linter.all false
set_option maxRecDepth 100000
namespace H
open PySem PySem.Spec PyProof.Rows L2 Y
end H

set_option Elab.async false
set_option linter.all false
set_option maxRecDepth 100000
namespace H
open PySem PySem.Spec PyProof.Rows L2 Y
theorem pairsD_map {α β : Type} {f : α → D} {g : β → D} : ∀ {xs : List α} {ys : List β}, pairsD (xs.map f) (ys.map g) = (xs.zip ys).map fun p => .tup [f p.1, g p.2]
  | [], _ => by simp [pairsD]
  | _ :: _, [] => by simp [pairsD]
  | x :: xs, y :: ys => by simp [pairsD, pairsD_map (xs := xs) (ys := ys)]
theorem cut_one {ds : List D} : Y.cutD ds (some 1) none = ds.tail := by
  have := cut_from (ds := ds) (k := 1)
  rw [show ((1 : Nat) : Int) = 1 by rfl] at this
  rw [this, List.drop_one]
structure OrdOk (m : Nat) (o : List (List Nat)) : Prop where
  ne : ∀ b ∈ o, b ≠ []
  sub : ∀ b ∈ o, b.Sublist (List.range m)
  perm : o.flatten.Perm (List.range m)
theorem OrdOk.len {m : Nat} {o : List (List Nat)} (h : OrdOk m o) : o.length ≤ m := by
  have : ∀ o : List (List Nat), (∀ b ∈ o, b ≠ []) → o.length ≤ o.flatten.length := fun o => by
    induction o with
    | nil => simp
    | cons b o ih =>
      intro h
      have h1 := h b (by simp)
      have h2 := ih fun c hc => h c (by simp [hc])
      have : 0 < b.length := List.length_pos_iff.mpr h1
      rw [List.flatten_cons, List.length_append, List.length_cons]
      omega
  have h2 := this o h.ne
  rw [h.perm.length_eq, List.length_range] at h2
  exact h2
theorem OrdOk.apart {m : Nat} {o : List (List Nat)} (h : OrdOk m o) : o.Pairwise (fun b c => ∀ k ∈ b, k ∉ c) := by
  have : o.flatten.Nodup := h.perm.nodup_iff.mpr List.nodup_range
  have := (List.pairwise_flatten.mp this).2
  exact this.imp fun h k hk z => h k hk k z rfl
end H

set_option Elab.async false
set_option linter.all false
set_option maxRecDepth 100000
namespace H
open PySem PySem.Spec PyProof.Rows L2 Y
theorem with_same {st : List Int} {k : Nat} {b : Int} (hk : k < st.length) : withI st k b = st ↔ b = st.getD k 0 := by
  have e : st = st.take k ++ st.getD k 0 :: st.drop (k + 1) := by
    have := List.take_append_drop k st
    rw [List.drop_eq_getElem_cons hk] at this
    rw [List.getD_eq_getElem?_getD, List.getElem?_eq_getElem hk]
    exact this.symm
  unfold withI
  constructor
  · intro h
    rw [e] at h
    have e2 := List.append_cancel_left (show st.take k ++ (b :: st.drop (k + 1)) = st.take k ++ (st.getD k 0 :: st.drop (k + 1)) from by
      have h3 := h
      rw [← e] at h3
      exact h3.trans e)
    exact (List.cons.inj e2).1
  · intro h
    rw [h]
    exact e.symm
theorem eq_ti {a b : List Int} : eqD (ti a) (ti b) = .ok (.bl (decide (a = b))) := by
  rw [eqD_of (n := 1) fit_tupI fit_tupI, eqP_tup, eqPs_ints]
@[simp] theorem neD_bl {a b : Bool} : neD (.bl a) (.bl b) = .ok (.bl (a != b)) := by
  rw [neD_of (n := 0) fit_bl fit_bl, eqP_bl]
  cases a <;> cases b <;> rfl
theorem OrdOk.turn {m : Nat} {o : List (List Nat)} (h : OrdOk m o) (w : Nat) : OrdOk m (o.drop w ++ o.take w) := by
  have p : (o.drop w ++ o.take w).Perm o := by
    have := List.perm_append_comm (l₁ := o.drop w) (l₂ := o.take w)
    rwa [List.take_append_drop] at this
  exact ⟨fun b hb => h.ne b (p.mem_iff.mp hb), fun b hb => h.sub b (p.mem_iff.mp hb), p.flatten.trans h.perm⟩
end H

set_option Elab.async false
set_option linter.all false
set_option maxRecDepth 100000
namespace H
open PySem PySem.Spec PyProof.Rows L2 Y
def blk (ks : List Int) (m j : Nat) : List Nat := (List.range m).filter fun k => decide (ks.getD k 0 = (j : Nat))
end H

set_option Elab.async false
set_option linter.all false
set_option maxRecDepth 100000
set_option exponentiation.threshold 300
namespace H
open PySem PySem.Spec PyProof.Rows L2 Y
abbrev tx (l : List Nat) : Str := ⟨l.toArray⟩
abbrev dt (l : List Nat) : D := .str (tx l)
/-- signs that the machine bears -/
def SgOk (l : List Nat) : Prop := ∀ c ∈ l, c < 1114112
end H

set_option Elab.async false
set_option linter.all false
set_option maxRecDepth 100000
set_option exponentiation.threshold 300
namespace H
open PySem PySem.Spec PyProof.Rows L2 Y
theorem take2_ok {n m : Int} (h0 : 0 < m) (h1 : m < 1073741824) : C.g__law_take_2 [.lst [.int n], .int m] = .ok (.vl (.int (n % m)), [some (.lst [.int (n / m)]), none]) := by
  have a : atI [D.int n] 0 = some (.int n) := rfl
  have b : ixN 1 0 = some 0 := rfl
  simp only [C.g__law_take_2, C.m__law_take_2]
  simp [e_fnD, smallPos_of h0 h1, h0, a, b, ixD]
def box2N (c : Int) (k : Nat) : Nat → Int × Int
  | 0 => (0, c % 2147483647)
  | j + 1 =>
    let m := ((box2N c k j).2 * 48271 + 7 * (j : Int) * j + 11 * k + 1) % 2147483647
    ((box2N c k j).1 * 2147483647 + m, m)
theorem box2_ok {ns : List Int} {k : Nat} (hk : k < 1000) : ∃ b : Int, C.g__law_box_2 [.arg ns, .int k] = .ok (.fr (.lst [.int b])) := by
  have h : forL (tmName 5) C.b__law_box_2_1 [5] [] ((List.range 24).map fun j : Nat => D.int (j : Nat)) [some (.arg ns), some (.int k), some (.int (cellI ns k)), some (.int 0), some (.int (cellI ns k % 2147483647)), none] = .ok (.nx, [some (.arg ns), some (.int k), some (.int (cellI ns k)), some (.int (box2N (cellI ns k) k 24).1), some (.int (box2N (cellI ns k) k 24).2), none]) :=
    for_rng (fun j : Nat => D.int (j : Nat)) (fun j => [some (.arg ns), some (.int k), some (.int (cellI ns k)), some (.int (box2N (cellI ns k) k j).1), some (.int (box2N (cellI ns k) k j).2), none]) (fun j hj => by
      refine ⟨by simp, ?_⟩
      have b1 : ∀ p : Int, mulOk p 2147483647 = true := fun p => mulOk_r (by decide)
      have b2 : ∀ p : Int, mulOk p 48271 = true := fun p => mulOk_r (by decide)
      have b3 : mulOk 7 j = true := mulOk_l (by decide)
      have b4 : mulOk 11 k = true := mulOk_l (by decide)
      have b5 : mulOk (7 * (j : Int)) j = true := mulOk_l (by omega)
      simp only [turnF, C.b__law_box_2_1]
      simp [b1, b2, b3, b4, b5, box2N])
  have hr : rngOk 24 = true := by decide
  have hz : szOk 24 = true := by decide
  have r24 : rng1D [.int 24] = .ok ((List.range 24).map fun j : Nat => D.int (j : Nat)) := by rw [d_rng1, if_pos hr]; rfl
  have z24 : szOk ((List.range 24).map fun j : Nat => D.int (j : Nat)).length = true := by simp [hz]
  by_cases e : cellI ns k % 2 = 0
  · refine ⟨cellI ns k / 2, ?_⟩
    rcases cell_ok (ns := ns) (k := k) with c | c <;> simp only [C.g__law_box_2, C.m__law_box_2] <;> simp [e_fnP, c, e, smallPos_of]
  · refine ⟨(box2N (cellI ns k) k 24).1, ?_⟩
    rcases cell_ok (ns := ns) (k := k) with c | c <;> simp only [C.g__law_box_2, C.m__law_box_2] <;> generalize C.b__law_box_2_1 = B at h ⊢ <;> generalize (List.range 24).map (fun j : Nat => D.int (j : Nat)) = L24 at h r24 z24 <;> simp [e_fnP, c, e, r24, z24, h, -d_rng1]
theorem mem_stands : ∀ {m : Nat} {st : List Int}, st ∈ stands m ↔ IsSt m st
  | 0, st => by
    constructor
    · exact stands_st
    · intro h
      have := h.len
      cases st with
      | nil => simp [stands]
      | cons => simp at this
  | m + 1, st => by
    constructor
    · exact stands_st
    · intro h
      cases st with
      | nil => have := h.len; simp at this
      | cons x st =>
        have hx := h.bit x (by simp)
        have hs : IsSt m st := ⟨by have := h.len; simpa using this, fun y hy => h.bit y (by simp [hy])⟩
        have : st ∈ stands m := mem_stands.mpr hs
        have e : x = 0 ∨ x = 1 := by omega
        rcases e with rfl | rfl <;> simp [stands, this]
theorem stands_lt : ∀ m, (stands m).Pairwise fun a b => ltL a b = true
  | 0 => by simp [stands]
  | m + 1 => by
    have ih := stands_lt m
    unfold stands
    rw [List.pairwise_append]
    refine ⟨?_, ?_, ?_⟩
    · rw [List.pairwise_map]; exact ih.imp fun h => by simpa [ltL] using h
    · rw [List.pairwise_map]; exact ih.imp fun h => by simpa [ltL] using h
    · intro a ha b hb
      obtain ⟨x, _, rfl⟩ := List.mem_map.mp ha
      obtain ⟨y, _, rfl⟩ := List.mem_map.mp hb
      simp [ltL]
theorem stands_nodup (m : Nat) : (stands m).Nodup := (stands_lt m).imp fun {a b} h e => by
  subst e
  rw [ltL_asym h] at h
  cases h
theorem stands_sorted {m : Nat} {xs : List (List Int)} (p : xs.Perm (stands m)) : sortL xs = stands m :=
  (sortL_of p.symm ((stands_lt m).imp fun h => ltL_asym h)).symm
/-- readings, the last bit grown -/
def rowsR : Nat → List (List Int)
  | 0 => [[]]
  | m + 1 => (rowsR m).map (· ++ [0]) ++ (rowsR m).map (· ++ [1])
theorem rowsR_st : ∀ {m : Nat} {st : List Int}, st ∈ rowsR m → IsSt m st
  | 0, st, h => by simp [rowsR] at h; subst h; exact ⟨rfl, by simp⟩
  | m + 1, st, h => by
    simp only [rowsR, List.mem_append, List.mem_map] at h
    rcases h with ⟨s, h, rfl⟩ | ⟨s, h, rfl⟩
    · have := rowsR_st h
      refine ⟨by simp [this.len], fun x hx => ?_⟩
      rcases List.mem_append.mp hx with hx | hx
      · exact this.bit x hx
      · simp at hx; omega
    · have := rowsR_st h
      refine ⟨by simp [this.len], fun x hx => ?_⟩
      rcases List.mem_append.mp hx with hx | hx
      · exact this.bit x hx
      · simp at hx; omega
theorem rowsR_len : ∀ m, (rowsR m).length = 2 ^ m
  | 0 => rfl
  | m + 1 => by simp [rowsR, rowsR_len m, Nat.pow_succ]; omega
theorem rowsR_nodup : ∀ m, (rowsR m).Nodup
  | 0 => by simp [rowsR]
  | m + 1 => by
    have ih := rowsR_nodup m
    unfold rowsR
    refine List.pairwise_append.mpr ⟨?_, ?_, ?_⟩
    · rw [List.pairwise_map]; exact ih.imp fun h e => h (List.append_cancel_right e)
    · rw [List.pairwise_map]; exact ih.imp fun h e => h (List.append_cancel_right e)
    · intro a ha b hb e
      obtain ⟨x, _, rfl⟩ := List.mem_map.mp ha
      obtain ⟨y, _, rfl⟩ := List.mem_map.mp hb
      have := List.append_inj' e rfl
      simp at this
theorem mem_rowsR : ∀ {m : Nat} {st : List Int}, IsSt m st → st ∈ rowsR m
  | 0, st, h => by
    have := h.len
    cases st with
    | nil => simp [rowsR]
    | cons => simp at this
  | m + 1, st, h => by
    rcases List.eq_nil_or_concat st with rfl | ⟨s, b, rfl⟩
    · have := h.len; simp at this
    · have hs : IsSt m s := ⟨by have := h.len; simpa using this, fun y hy => h.bit y (by simp [hy])⟩
      have hb := h.bit b (by simp)
      have := mem_rowsR hs
      have e : b = 0 ∨ b = 1 := by omega
      rcases e with rfl | rfl <;> simp [rowsR, this]
theorem rowsR_perm (m : Nat) : (rowsR m).Perm (stands m) :=
  (List.perm_ext_iff_of_nodup (rowsR_nodup m) (stands_nodup m)).mpr fun st => ⟨fun h => mem_stands.mpr (rowsR_st h), fun h => mem_rowsR (stands_st h)⟩
theorem readings_ok {m : Nat} (hm : m ≤ 20) : C.g__law_readings [.int m] = .ok (.fr (lti (stands m))) := by
  have hp : ∀ k, k ≤ 20 → 2 ^ k ≤ 1048576 := fun k hk => Nat.pow_le_pow_right (by omega) hk
  have h := for_rng (tm := tmName 2) (body := C.b__law_readings_1) (vs := [2]) (ws := []) (n := m) (fun k : Nat => D.int (k : Nat)) (fun k => [some (.int m), some (lti (rowsR k)), none, none]) (fun i hi => by
    have hz := hp i (by omega)
    have hz2 := hp (i + 1) (by omega)
    have c1 : cCompL (tmName 3) cYes C.e__law_readings_1 [3] [] ((rowsR i).map ti) [some (.int m), some (lti (rowsR i)), some (.int (i : Nat)), none] = .ok (((rowsR i).map fun s => ti (s ++ [0])), [some (.int m), some (lti (rowsR i)), some (.int (i : Nat)), none]) :=
      comp_map ti (fun s => ti (s ++ [0])) (rowsR i) (fun s hs => by
        have := (rowsR_st hs).len
        simp only [turnC, C.e__law_readings_1]
        simp [szOk_of (show s.length + 1 ≤ 16777216 by omega)])
    have c2 : cCompL (tmName 3) cYes C.e__law_readings_2 [3] [] ((rowsR i).map ti) [some (.int m), some (lti (rowsR i)), some (.int (i : Nat)), none] = .ok (((rowsR i).map fun s => ti (s ++ [1])), [some (.int m), some (lti (rowsR i)), some (.int (i : Nat)), none]) :=
      comp_map ti (fun s => ti (s ++ [1])) (rowsR i) (fun s hs => by
        have := (rowsR_st hs).len
        simp only [turnC, C.e__law_readings_2]
        simp [szOk_of (show s.length + 1 ≤ 16777216 by omega)])
    have hl := rowsR_len i
    have z1 : szOk (rowsR i).length = true := szOk_of (by omega)
    have z2 : szOk ((rowsR i).length + (rowsR i).length) = true := szOk_of (by rw [Nat.pow_succ] at hz2; omega)
    refine ⟨by simp, ?_⟩
    simp only [turnF, C.b__law_readings_1]
    simp [c1, c2, z1, z2, rowsR, Function.comp_def])
  have hr : rngOk m = true := rngOk_of (by omega) (by omega)
  have hz2 : szOk m = true := szOk_of (by omega)
  have h : forL (tmName 2) C.b__law_readings_1 [2] [] ((List.range m).map fun k : Nat => D.int (k : Nat)) [some (.int m), some (.lst [.tup []]), none, none] = _ := h
  have hs : sortD [lti (rowsR m)] = .ok (lti (stands m)) := by
    cases e : rowsR m with
    | nil => have := rowsR_len m; rw [e] at this; have := Nat.pow_pos (n := m) (show 0 < 2 by omega); simp at *; omega
    | cons x xs =>
      have ok : sortOk (x :: xs) = true := by
        unfold sortOk
        cases m with
        | zero => simp [rowsR] at e; obtain ⟨rfl, rfl⟩ := e; rfl
        | succ m =>
          rw [Bool.or_eq_true]
          right
          rw [← e, List.all_eq_true]
          intro y hy
          have := (rowsR_st hy).len
          cases y with
          | nil => simp at this
          | cons => rfl
      have := sortD_tups ok
      rw [← e] at this
      rw [← e, this, stands_sorted (rowsR_perm m)]
  generalize lti (rowsR m) = F at h hs
  simp only [C.g__law_readings, C.m__law_readings]
  simp [e_fnP, hr, hz2, h, hs]
end H

set_option Elab.async false
set_option linter.all false
set_option maxRecDepth 100000
set_option exponentiation.threshold 300
namespace H
open PySem PySem.Spec PyProof.Rows L2 Y
/-- for over range(n), by what holds at each turn -/
theorem for_inx {tm : GM} {body : SM} {vs ws : List Nat} (F : Nat → D) (I : Nat → Y.Env → Prop) (n : Nat) (ρ : Y.Env) (h0 : I 0 ρ)
    (hs : ∀ i ρ, i < n → I i ρ → ∃ ρ', turnF tm body vs (F i) ρ = .ok (.nx, ρ') ∧ I (i + 1) ρ' ∧ ∀ w ∈ ws, ρ'[w]? = ρ[w]?) : ∃ ρ', forL tm body vs ws ((List.range n).map F) ρ = .ok (.nx, ρ') ∧ I n ρ' := by
  have : ∀ (k i : Nat) (ρ : Y.Env), i + k = n → I i ρ → ∃ ρ', forL tm body vs ws ((List.range' i k).map F) ρ = .ok (.nx, ρ') ∧ I n ρ' := by
    intro k
    induction k with
    | zero => intro i ρ e h; exact ⟨ρ, rfl, by rw [← e]; exact h⟩
    | succ k ih =>
      intro i ρ e h
      obtain ⟨ρ1, e1, h1, w1⟩ := hs i ρ (by omega) h
      obtain ⟨ρ2, e2, h2⟩ := ih (i + 1) ρ1 (by omega) h1
      rw [List.range'_succ, List.map_cons]
      exact ⟨ρ2, for_cons e1 w1 e2, h2⟩
  rw [List.range_eq_range']
  exact this n 0 ρ (by omega) h0
theorem sub_range {es : List Nat} {m : Nat} (h : es.Pairwise (· < ·)) (hm : ∀ x ∈ es, x < m) : es.Sublist (List.range m) := by
  have e : es = (List.range m).filter fun k => decide (k ∈ es) := by
    have hf : ((List.range m).filter fun k => decide (k ∈ es)).Pairwise (· < ·) := List.Pairwise.filter _ List.pairwise_lt_range
    refine List.Perm.eq_of_pairwise (le := fun a b : Nat => a < b) (fun a b _ _ h1 h2 => by omega) h hf ?_
    refine (List.perm_ext_iff_of_nodup (h.imp fun h => by omega) (hf.imp fun h => by omega)).mpr fun k => ?_
    rw [List.mem_filter, List.mem_range, decide_eq_true_eq]
    exact ⟨fun h => ⟨hm k h, h⟩, fun h => h.2⟩
  rw [e]
  exact List.filter_sublist
/-- whole numbers, none twice, sorted: a part of a range -/
theorem sort_sub {E : List Nat} {m : Nat} (hn : E.Nodup) (hm : ∀ x ∈ E, x < m) : ∃ es : List Nat, sortI (E.map fun k : Nat => (k : Int)) = es.map (fun k : Nat => (k : Int)) ∧ es.Sublist (List.range m) ∧ es.length = E.length := by
  have p := sortI_perm (E.map fun k : Nat => (k : Int))
  have pw := sortI_pw (E.map fun k : Nat => (k : Int))
  generalize sortI (E.map fun k : Nat => (k : Int)) = S at p pw
  have nn : ∀ x ∈ S, 0 ≤ x ∧ x < m := fun x hx => by
    obtain ⟨k, hk, rfl⟩ := List.mem_map.mp (p.mem_iff.mp hx)
    have := hm k hk
    omega
  have e : S = (S.map Int.toNat).map fun k : Nat => (k : Int) := by
    rw [List.map_map]
    conv => lhs; rw [← List.map_id S]
    exact List.map_congr_left fun x hx => by
      have := nn x hx
      show x = ((x.toNat : Nat) : Int)
      omega
  refine ⟨S.map Int.toNat, e, sub_range ?_ fun x hx => ?_, ?_⟩
  · have nd : S.Nodup := p.nodup_iff.mpr (by
      refine List.pairwise_map.mpr (hn.imp fun {a b} h z => h ?_)
      exact_mod_cast z)
    rw [List.pairwise_map]
    have := List.Pairwise.and pw nd
    refine List.Pairwise.imp_of_mem (fun {a b} ha hb h => ?_) this
    have h1 := nn a ha
    have h2 := nn b hb
    have h3 := h.1
    have h4 : a ≠ b := h.2
    omega
  · obtain ⟨y, hy, rfl⟩ := List.mem_map.mp hx
    have := nn y hy
    omega
  · have := p.length_eq
    simpa using this
theorem erase_map {α β : Type} {f : α → β} : ∀ {xs : List α} {j : Nat}, (xs.map f).eraseIdx j = (xs.eraseIdx j).map f
  | [], _ => by simp
  | x :: xs, 0 => by simp
  | x :: xs, j + 1 => by simp [erase_map (xs := xs)]
theorem pick_perm {α : Type} : ∀ {xs : List α} {j : Nat} (h : j < xs.length), (xs[j] :: xs.eraseIdx j).Perm xs
  | x :: xs, 0, _ => by simp
  | x :: xs, j + 1, h => by
    have h : j < xs.length := by simpa using h
    have := pick_perm h
    rw [List.eraseIdx_cons_succ, List.getElem_cons_succ]
    exact (List.Perm.swap x xs[j] (xs.eraseIdx j)).trans (this.cons x)
theorem nls_rg {n : Int} : nls (rgD 0 n) = true := nls_map fun _ _ => by simp
theorem rule2_any {n : Int} {m : Nat} (hm : m ≤ 100) : ∃ (r : RuleT) (n' : Int), C.g__law_rule_2 [.lst [.int n], .int m] = .ok (.fr (dRule r), [some (.lst [.int n']), none]) ∧ RuleOk m r := by
  obtain ⟨M, hM⟩ : ∃ M : Nat, min (n % 5) (m : Int) = M := ⟨(min (n % 5) (m : Int)).toNat, by have := Int.emod_nonneg n (b := 5) (by omega); omega⟩
  have hM4 : M ≤ 4 ∧ M ≤ m := by have := Int.emod_lt_of_pos n (b := 5) (by omega); omega
  obtain ⟨ρ1, hl, n1, L, E, o, eρ, pm, el⟩ := for_inx (tm := tmName 4) (body := C.b__law_rule_2_1) (vs := []) (ws := []) (fun k : Nat => D.int (k : Nat))
    (fun i ρ => ∃ (b : Int) (L E : List Nat) (o : Option D), ρ = [some (.lst [.int b]), some (.int m), some (ln' L), some (ln' E), o, none, none, none, none, none, none, none] ∧ (E ++ L).Perm (List.range m) ∧ E.length = i) M
    [some (.lst [.int (n / 5)]), some (.int m), some (ln' (List.range m)), some (.lst []), none, none, none, none, none, none, none, none]
    ⟨n / 5, List.range m, [], none, rfl, by simp, rfl⟩ (fun i ρ hi ⟨b, L, E, o, eρ, pm, el⟩ => by
      subst eρ
      have ll : L.length = m - i := by have := pm.length_eq; rw [List.length_append, List.length_range] at this; omega
      have tk := take2_ok (n := b) (m := L.length) (by omega) (by omega)
      obtain ⟨j, hj⟩ : ∃ j : Nat, b % (L.length : Int) = j := ⟨(b % (L.length : Int)).toNat, by have := Int.emod_nonneg b (b := (L.length : Int)) (by omega); omega⟩
      have hjl : j < L.length := by have := Int.emod_lt_of_pos b (b := (L.length : Int)) (by omega); omega
      have ix := ixN_nat (n := L.length) (k := j) hjl
      have zl : szOk L.length = true := szOk_of (by omega)
      have ze : szOk (E.length + 1) = true := szOk_of (by omega)
      refine ⟨[some (.lst [.int (b / L.length)]), some (.int m), some (ln' (L.eraseIdx j)), some (ln' (E ++ [L[j]])), some (.int i), none, none, none, none, none, none, none], ?_, ⟨_, L.eraseIdx j, E ++ [L[j]], _, rfl, ?_, by simp [el]⟩, by simp⟩
      · simp only [turnF, C.b__law_rule_2_1]
        simp [tk, hj, popRes, zl, ze, ix, hjl, erase_map]
      · have := pick_perm hjl
        rw [List.append_assoc]
        exact (List.Perm.append_left E this).trans pm)
  subst eρ
  have nd : E.Nodup := by
    have : (E ++ L).Nodup := pm.nodup_iff.mpr List.nodup_range
    exact (List.pairwise_append.mp this).1
  have em : ∀ x ∈ E, x < m := fun x hx => List.mem_range.mp (pm.mem_iff.mp (by simp [hx]))
  obtain ⟨es, hs, sub, le⟩ := sort_sub nd em
  have hsd : sortD [ln' E] = .ok (.lst ((es.map fun k : Nat => (k : Int)).map D.int)) := by
    have : ln' E = .lst ((E.map fun k : Nat => (k : Int)).map D.int) := by rw [List.map_map]; rfl
    rw [this, d_sortN, hs]
  have rok : ∀ t : List Int, t.length = 2 ^ E.length → (∀ x ∈ t, 0 ≤ x ∧ x < 2) → RuleOk m (es.map (fun k : Nat => (k : Int)), t) := fun t h1 h2 => ⟨by simp [le]; omega, ⟨es, rfl, sub⟩, by simpa [le] using h1, h2⟩
  have rd := readings_ok (m := E.length) (by omega)
  have sl := stands_len E.length
  have pw : 2 ^ E.length ≤ 16 := Nat.pow_le_pow_right (n := 2) (by omega) (show E.length ≤ 4 by omega)
  have zE : szOk E.length = true := szOk_of (by omega)
  have rE : rngOk E.length = true := rngOk_of (by omega) (by omega)
  have zS : szOk (stands E.length).length = true := szOk_of (by omega)
  have rM : rngOk M = true := rngOk_of (by omega) (by omega)
  have zM : szOk M = true := szOk_of (by omega)
  have rg := rgB_of (n := m) (by omega)
  have rg0 : ln' (List.range m) = .lst (rgD 0 m) := by rw [rgD_nat]
  rw [rg0] at hl
  have t3 : ∀ b : Int, C.g__law_take_2 [.lst [.int b], .int 3] = .ok (.vl (.int (b % 3)), [some (.lst [.int (b / 3)]), none]) := fun b => take2_ok (by omega) (by omega)
  have t2 : ∀ b : Int, C.g__law_take_2 [.lst [.int b], .int 2] = .ok (.vl (.int (b % 2)), [some (.lst [.int (b / 2)]), none]) := fun b => take2_ok (by omega) (by omega)
  have t5 : C.g__law_take_2 [.lst [.int n], .int 5] = .ok (.vl (.int (n % 5)), [some (.lst [.int (n / 5)]), none]) := take2_ok (by omega) (by omega)
  have tl : ∀ b : Int, C.g__law_take_2 [.lst [.int b], .int ((E.length : Nat) + 2)] = .ok (.vl (.int (b % ((E.length : Nat) + 2))), [some (.lst [.int (b / ((E.length : Nat) + 2))]), none]) := fun b => take2_ok (by omega) (by omega)
  have hlen : lenD [ln' E] = .ok (.int E.length) := by simp
  have hmu : D.shallow (ln' E) = true := by simp [nls_all]
  have hix : itD (ln' E) = .ok (E.map fun k : Nat => D.int (k : Nat)) := rfl
  generalize hX : ln' E = XE at hl hsd hlen hmu hix
  generalize hSt : lti (stands E.length) = XS at rd
  by_cases w0 : n1 % 3 = 0
  · obtain ⟨ts, n2, e2, l2, p2⟩ := comp_ex (tm := tmName 11) (t := cYes) (e := C.e__law_rule_2_1) (vs := [11]) (ws := []) ti D.int (fun b : Int => [some (.lst [.int b]), some (.int m), some (ln' L), some XE, o, some XS, some (.int 0), none, none, none, none, none]) (fun x : Int => 0 ≤ x ∧ x < 2) (stands E.length) (n1 / 3) (fun b st hst => by
      refine ⟨b % 2, b / 2, ?_, by omega, by simp⟩
      simp only [turnC, C.e__law_rule_2_1]
      simp [t2])
    refine ⟨(es.map (fun k : Nat => (k : Int)), ts), n2, ?_, rok ts (by rw [l2, sl]) p2⟩
    subst hSt
    simp only [C.g__law_rule_2, C.m__law_rule_2]
    generalize C.b__law_rule_2_1 = B1 at hl ⊢
    simp [e_fnD, t5, hM, rM, zM, rg, hl, shAt, chkO_ws, nls_rg, hmu, hlen, rd, t3, w0, hsd, zS, e2]
  · -- by how many of its ears
    have tab : ∀ (ss : List Int) (x0 x2 x6 : Option D) (le : Int) (o : Option D), ss.length = E.length → ∃ (ts : List Int) (o' : Option D), cCompL (tmName 11) cYes C.e__law_rule_2_5 [11] [] ((stands E.length).map ti) [x0, some (.int m), x2, some XE, o, some XS, x6, some (.lst (ss.map D.int)), some (.int le), none, none, none] = .ok (ts.map D.int, [x0, some (.int m), x2, some XE, o', some XS, x6, some (.lst (ss.map D.int)), some (.int le), none, none, none]) ∧ ts.length = 2 ^ E.length ∧ ∀ x ∈ ts, 0 ≤ x ∧ x < 2 := fun ss x0 x2 x6 le o hl => by
      obtain ⟨ts, o', e, l, p⟩ := comp_ex (tm := tmName 11) (t := cYes) (e := C.e__law_rule_2_5) (vs := [11]) (ws := []) ti D.int (fun o : Option D => [x0, some (.int m), x2, some XE, o, some XS, x6, some (.lst (ss.map D.int)), some (.int le), none, none, none]) (fun x : Int => 0 ≤ x ∧ x < 2) (stands E.length) o (fun o st hst => by
        have hs := stands_st hst
        have inner : cCompL (tmName 4) C.t__law_rule_2_4 C.e__law_rule_2_4 [4] [] ((List.range E.length).map fun k : Nat => D.int (k : Nat)) [x0, some (.int m), x2, some XE, none, some XS, x6, some (.lst (ss.map D.int)), some (.int le), none, none, some (ti st)] = .ok (((List.range E.length).filter fun k => decide (st.getD k 0 = ss.getD k 0)).map fun k : Nat => D.int (k : Nat), [x0, some (.int m), x2, some XE, none, some XS, x6, some (.lst (ss.map D.int)), some (.int le), none, none, some (ti st)]) :=
          comp_filter (fun k : Nat => D.int (k : Nat)) (fun k => decide (st.getD k 0 = ss.getD k 0)) (fun k : Nat => D.int (k : Nat)) (List.range E.length) (fun k hk => by
            have hk := List.mem_range.mp hk
            have a1 := atI_mapI (xs := st) (i := k) (by omega) (by rw [hs.len]; omega)
            have a2 := atI_mapI (xs := ss) (i := k) (by omega) (by omega)
            simp only [Int.toNat_natCast] at a1 a2
            simp only [turnC, C.t__law_rule_2_4, C.e__law_rule_2_4]
            simp [a1, a2, ixD, -List.getD_eq_getElem?_getD]
            split <;> rfl)
        refine ⟨if le ≤ (((List.range E.length).filter fun k => decide (st.getD k 0 = ss.getD k 0)).length : Nat) then 1 else 0, none, ?_, by split <;> omega, by simp⟩
        generalize ((List.range E.length).filter fun k => decide (st.getD k 0 = ss.getD k 0)) = Fl at inner ⊢
        simp only [turnC, C.e__law_rule_2_5]
        simp [hlen, rE, zE, inner])
      exact ⟨ts, o', e, by rw [l, sl], p⟩
    have ones : ∀ (x0 x2 x4 x6 x7 : Option D), cCompL (tmName 10) cYes C.e__law_rule_2_2 [10] [3] (E.map fun k : Nat => D.int (k : Nat)) [x0, some (.int m), x2, some XE, x4, some XS, x6, x7, none, none, none, none] = .ok ((E.map fun _ => (1 : Int)).map D.int, [x0, some (.int m), x2, some XE, x4, some XS, x6, x7, none, none, none, none]) := fun x0 x2 x4 x6 x7 => by
      rw [List.map_map]
      exact comp_map (fun k : Nat => D.int (k : Nat)) (fun _ => D.int 1) E fun k hk => by
        simp only [turnC, C.e__law_rule_2_2]
        simp
    by_cases w1 : n1 % 3 = 1
    · obtain ⟨ss, n2, e2, l2, p2⟩ := comp_ex (tm := tmName 10) (t := cYes) (e := C.e__law_rule_2_3) (vs := [10]) (ws := [3]) (fun k : Nat => D.int (k : Nat)) D.int (fun b : Int => [some (.lst [.int b]), some (.int m), some (ln' L), some XE, o, some XS, some (.int 1), some (.lst ((E.map fun _ => (1 : Int)).map D.int)), none, none, none, none]) (fun x : Int => True) E (n1 / 3) (fun b k hk => by
        refine ⟨b % 2, b / 2, ?_, trivial, by simp⟩
        simp only [turnC, C.e__law_rule_2_3]
        simp [t2])
      obtain ⟨ts, o', e3, l3, p3⟩ := tab ss (some (.lst [.int (n2 / ((E.length : Nat) + 2))])) (some (ln' L)) (some (.int 1)) (n2 % ((E.length : Nat) + 2)) o l2
      refine ⟨(es.map (fun k : Nat => (k : Int)), ts), n2 / ((E.length : Nat) + 2), ?_, rok ts l3 p3⟩
      subst hSt
      have on := ones (some (.lst [.int (n1 / 3)])) (some (ln' L)) o (some (.int 1)) none
      simp only [C.g__law_rule_2, C.m__law_rule_2]
      generalize C.b__law_rule_2_1 = B1 at hl ⊢
      generalize (E.map fun _ => (1 : Int)).map D.int = ON at on e2
      simp [e_fnD, t5, hM, rM, zM, rg, hl, shAt, chkO_ws, nls_rg, hmu, hlen, rd, t3, w1, hsd, zS, hix, zE, on, e2, tl, e3]
      trace_state
    · obtain ⟨ts, o', e3, l3, p3⟩ := tab (E.map fun _ => (1 : Int)) (some (.lst [.int (n1 / 3 / ((E.length : Nat) + 2))])) (some (ln' L)) (some (.int (n1 % 3))) (n1 / 3 % ((E.length : Nat) + 2)) o (by simp)
      refine ⟨(es.map (fun k : Nat => (k : Int)), ts), n1 / 3 / ((E.length : Nat) + 2), ?_, rok ts l3 p3⟩
      subst hSt
      have on := ones (some (.lst [.int (n1 / 3)])) (some (ln' L)) o (some (.int (n1 % 3))) none
      simp only [C.g__law_rule_2, C.m__law_rule_2]
      generalize C.b__law_rule_2_1 = B1 at hl ⊢
      generalize (E.map fun _ => (1 : Int)).map D.int = ON at on e3
      simp [e_fnD, t5, hM, rM, zM, rg, hl, shAt, chkO_ws, nls_rg, hmu, hlen, rd, t3, w0, w1, hsd, zS, hix, zE, on, tl, e3]
      trace_state
end H

set_option Elab.async false
set_option linter.all false
set_option maxRecDepth 100000
namespace H
open PySem PySem.Spec PyProof.Rows L2 Y
/-- for x in xs: if not p x: return rv -/
theorem for_all {α : Type} {tm : GM} {body : SM} {vs ws : List Nat} (F : α → D) (p : α → Bool) (rv : Hd) : ∀ (xs : List α) (ρ : Y.Env), (∀ x ∈ xs, p x = true → turnF tm body vs (F x) ρ = .ok (.nx, ρ)) → (∀ x ∈ xs, p x = false → ∃ ρ', turnF tm body vs (F x) ρ = .ok (.rt rv, ρ')) →
    ∃ ρ', forL tm body vs ws (xs.map F) ρ = if xs.all p = true then .ok (.nx, ρ) else .ok (.rt rv, ρ')
  | [], ρ, _, _ => ⟨ρ, rfl⟩
  | x :: xs, ρ, h1, h2 => by
    cases e : p x with
    | true =>
      obtain ⟨ρ', h⟩ := for_all F p rv xs ρ (fun y hy => h1 y (by simp [hy])) (fun y hy => h2 y (by simp [hy]))
      refine ⟨ρ', ?_⟩
      rw [List.map_cons, for_cons (h1 x (by simp) e) (fun _ _ => rfl) h, List.all_cons, e]
      rfl
    | false =>
      obtain ⟨ρ', h⟩ := h2 x (by simp) e
      refine ⟨ρ', ?_⟩
      rw [List.map_cons, for_rt h, List.all_cons, e]
      rfl
def tolI (r : RuleT) (st : List Int) : Int := r.2.getD (placeI st).toNat 0
structure RuleLk (r : RuleT) : Prop where
  len : r.1.length ≤ 8
  tab : r.2.length = 2 ^ r.1.length
  bit : ∀ x ∈ r.2, 0 ≤ x ∧ x < 2
theorem RuleOk.lk {m : Nat} {r : RuleT} (h : RuleOk m r) : RuleLk r := ⟨Nat.le_trans h.len (by omega), h.tab, h.bit⟩
theorem told_at_ok {r : RuleT} {st : List Int} (h : RuleLk r) (hs : IsSt r.1.length st) : C.g_told_at [dRule r, ti st] = .ok (.vl (.int (tolI r st))) := by
  have p := place_of_tup (xs := st) (by rw [hs.len]; have := h.len; omega)
  have b := placeI_lt hs.bit
  rw [hs.len] at b
  have a := atI_mapI (xs := r.2) b.1 (by rw [h.tab]; exact_mod_cast b.2)
  simp only [C.g_told_at, C.m_told_at]
  simp [e_fnP, ixD, atI_of (i := 1) (j := 1), p, a, tolI, -List.getD_eq_getElem?_getD]
theorem tol_bit {r : RuleT} {st : List Int} (h : RuleLk r) : 0 ≤ tolI r st ∧ tolI r st < 2 := getD_bit h.bit _
theorem sg1 {c : Nat} (h : c < 1114112) : SgOk [c] := fun x hx => by simp at hx; omega
theorem numD_map {α : Type} {f : α → D} {xs : List α} : numD (xs.map f) = ((List.range xs.length).zip xs).map fun p => D.tup [.int (p.1 : Nat), f p.2] := by
  unfold numD
  rw [List.length_map, pairsD_map]
end H

set_option Elab.async false
set_option linter.all false
set_option maxRecDepth 100000
namespace H
open PySem PySem.Spec PyProof.Rows L2 Y
end H

set_option Elab.async false
set_option linter.all false
set_option maxRecDepth 100000
namespace H
open PySem PySem.Spec PyProof.Rows L2 Y
theorem extend : ∀ (es : List Nat) (bs : List Int) (g : Nat → Int), es.Nodup → es.length = bs.length → ∃ h : Nat → Int, es.map h = bs ∧ ∀ j, j ∉ es → h j = g j
  | [], bs, g, _, hl => ⟨g, by rw [List.map_nil]; exact (List.eq_nil_of_length_eq_zero hl.symm).symm, fun _ _ => rfl⟩
  | e :: es, [], g, _, hl => by simp at hl
  | e :: es, b :: bs, g, hn, hl => by
    obtain ⟨hn1, hn2⟩ := List.nodup_cons.mp hn
    obtain ⟨h, h1, h2⟩ := extend es bs g hn2 (by simpa using hl)
    refine ⟨fun j => if j = e then b else h j, ?_, fun j hj => ?_⟩
    · rw [List.map_cons, if_pos rfl, ← h1]
      congr 1
      refine List.map_congr_left fun j hj => ?_
      show (if j = e then b else h j) = h j
      rw [if_neg fun q : j = e => hn1 (q ▸ hj)]
    · show (if j = e then b else h j) = g j
      rw [if_neg fun q => hj (by simp [q]), h2 j fun q => hj (by simp [q])]
structure EarsOk (m : Nat) (r : RuleT) : Prop where
  sub : ∃ es : List Nat, r.1 = es.map (fun j : Nat => (j : Int)) ∧ es.Nodup ∧ ∀ j ∈ es, j < m
theorem RuleOk.ears {m : Nat} {r : RuleT} (h : RuleOk m r) : EarsOk m r := by
  obtain ⟨es, e1, s⟩ := h.sub
  exact ⟨es, e1, s.nodup List.nodup_range, fun j hj => List.mem_range.mp (s.subset hj)⟩
end H

set_option Elab.async false
set_option linter.all false
set_option maxRecDepth 100000
namespace H
open PySem PySem.Spec PyProof.Rows L2 Y
abbrev li (xs : List Int) : D := .lst (xs.map D.int)
theorem NetOk.lk {ns : List RuleT} {most k : Nat} (h : NetOk ns most) (hk : k < ns.length) : RuleOk ns.length (ns.getD k ([], [])) := by
  rw [List.getD_eq_getElem?_getD, List.getElem?_eq_getElem hk]
  exact h.rule _ (List.getElem_mem hk)
end H

set_option Elab.async false
set_option linter.all false
set_option maxRecDepth 100000
namespace H
open PySem PySem.Spec PyProof.Rows L2 Y
end H

set_option Elab.async false
set_option linter.all false
set_option maxRecDepth 100000
namespace H
open PySem PySem.Spec PyProof.Rows L2 Y
def Nd : Nat → D → Prop
  | 0, d => noDit d = true
  | n + 1, d => noDit d = true ∧ ∀ xs, d = .tup xs → xs.length ≤ 1000000 ∧ ∀ x ∈ xs, Nd n x
theorem Nd.no : ∀ {n : Nat} {d : D}, Nd n d → noDit d = true
  | 0, _, h => h
  | _ + 1, _, h => h.1
theorem Nd.down : ∀ {n : Nat} {d : D}, Nd (n + 1) d → Nd n d
  | 0, _, h => h.1
  | n + 1, _, h => ⟨h.1, fun xs e => ⟨(h.2 xs e).1, fun x hx => Nd.down ((h.2 xs e).2 x hx)⟩⟩
theorem nd_flat {n : Nat} {d : D} (h : noDit d = true) (h2 : ∀ xs, d ≠ .tup xs) : Nd n d := by
  cases n with
  | zero => exact h
  | succ n => exact ⟨h, fun xs e => absurd e (h2 xs)⟩
@[simp] theorem nd_int {n : Nat} {i : Int} : Nd n (.int i) := nd_flat rfl (by simp)
@[simp] theorem nd_bl {n : Nat} {b : Bool} : Nd n (.bl b) := nd_flat rfl (by simp)
@[simp] theorem nd_non {n : Nat} : Nd n .non := nd_flat rfl (by simp)
@[simp] theorem nd_str {n : Nat} {x : Str} : Nd n (.str x) := nd_flat rfl (by simp)
@[simp] theorem nd_lst {n : Nat} {x : List D} : Nd n (.lst x) := nd_flat rfl (by simp)
@[simp] theorem nd_dik {n : Nat} {k : List Key} {x : List D} : Nd n (.dik k x) := nd_flat rfl (by simp)
theorem Nd.tup {n : Nat} {xs : List D} (h : Nd (n + 1) (.tup xs)) : xs.length ≤ 1000000 ∧ ∀ x ∈ xs, Nd n x := h.2 xs rfl
def whB : D → Bool
  | .int _ => true | _ => false
def upB (m : Int) : D → Bool
  | .int i => decide (0 ≤ i ∧ i < m) | _ => false
theorem whole_any {d : D} (h : noDit d = true) : C.g_is_whole [d] = .ok (.fr (.bl (whB d))) := by
  cases d <;> simp [noDit] at h <;> simp [C.g_is_whole, C.m_is_whole, e_fnP, noDit, Y.isInt, Y.isBl, whB]
theorem upto_any {d : D} {m : Int} (h : noDit d = true) : C.g_is_upto [d, .int m] = .ok (.fr (.bl (upB m d))) := by
  have := whole_any h
  cases d with
  | int i => exact is_upto_int
  | _ => simp [C.g_is_upto, C.m_is_upto, e_fnP, this, whB, upB]
end H

set_option Elab.async false
set_option linter.all false
set_option maxRecDepth 100000
namespace H
open PySem PySem.Spec PyProof.Rows L2 Y
end H

set_option Elab.async false
set_option linter.all false
set_option maxRecDepth 100000
namespace H
open PySem PySem.Spec PyProof.Rows L2 Y
inductive Pap where
  | rest | against (k : Nat) | split (k : Nat) (a b : Pap)
abbrev wRest : D := dt [114, 101, 115, 116]
abbrev wAg : D := dt [97, 103, 97, 105, 110, 115, 116]
abbrev wSplit : D := dt [115, 112, 108, 105, 116]
def Pap.d : Pap → D
  | .rest => .tup [wRest]
  | .against k => .tup [wAg, .int k]
  | .split k a b => .tup [wSplit, .int k, a.d, b.d]
def Pap.ok (m : Nat) : Pap → Prop
  | .rest => True
  | .against k => k < m
  | .split k a b => k < m ∧ a.ok m ∧ b.ok m
def sign (f : List Nat) (k c : Nat) : List Nat := f.take k ++ c :: f.drop (k + 1)
def both (x y : Option (List (List Int))) : Option (List (List Int)) := match x with
  | none => none
  | some a => match y with
    | none => none
    | some b => some (a ++ b)
end H

set_option Elab.async false
set_option linter.all false
set_option maxRecDepth 100000
namespace H
open PySem PySem.Spec PyProof.Rows L2 Y
end H

set_option Elab.async false
set_option linter.all false
set_option maxRecDepth 100000
namespace H
open PySem PySem.Spec PyProof.Rows L2 Y
theorem whileN_step' {t : BM} {body : SM} {vs : List Nat} {n : Nat} {ρ ρ1 ρ2 : Y.Env} (h1 : t ρ = .ok (true, ρ1)) (h2 : body ρ1 = .ok (.nx, ρ2)) : whileN t body vs (n + 1) ρ = whileN t body vs n (wipeE ρ2 vs) := by
  conv => lhs; unfold whileN
  rw [h1]
  simp only [R.bind_ok, if_true]
  rw [h2]
  rfl
theorem whileN_stop' {t : BM} {body : SM} {vs : List Nat} {n : Nat} {ρ ρ1 : Y.Env} (h1 : t ρ = .ok (false, ρ1)) : whileN t body vs (n + 1) ρ = .ok (.nx, ρ1) := by
  unfold whileN
  rw [h1]
  rfl
theorem nin_of {x y : D} {b : Bool} (h : inD x y = .ok (.bl b)) : ninD x y = .ok (.bl (!b)) := by
  unfold inD at h
  unfold ninD
  cases e : inB x y with
  | none => rw [e] at h; cases h
  | some c => rw [e] at h; cases h; rfl
end H

set_option Elab.async false
set_option linter.all false
set_option maxRecDepth 100000
namespace H
open PySem PySem.Spec PyProof.Rows L2 Y
theorem zip_map2 {α β γ : Type} {f : α → β} {g : α → γ} : ∀ {xs : List α}, (xs.map f).zip (xs.map g) = xs.map fun x => (f x, g x)
  | [] => rfl
  | x :: xs => by simp [zip_map2 (xs := xs)]
end H

set_option Elab.async false
set_option linter.all false
set_option maxRecDepth 100000
namespace H
open PySem PySem.Spec PyProof.Rows L2 Y
def flipI (st : List Int) (k : Nat) : List Int := withI st k (1 - st.getD k 0)
def addS (L : List (List Int)) (t : List Int) : List (List Int) := if t ∈ L then L else L ++ [t]
def nextI (ns : List RuleT) (st : List Int) : List (List Int) := (wrongI ns st).map (flipI st)
def stepS (ns : List RuleT) (L : List (List Int)) (st : List Int) : List (List Int) := (nextI ns st).foldl addS L
structure InS (m : Nat) (L : List (List Int)) : Prop where
  nd : L.Nodup
  st : ∀ x ∈ L, IsSt m x
theorem nodup_len {α : Type} [DecidableEq α] : ∀ {A B : List α}, A.Nodup → (∀ x ∈ A, x ∈ B) → A.length ≤ B.length
  | [], B, _, _ => by simp
  | x :: A, B, h, s => by
    obtain ⟨h1, h2⟩ := List.nodup_cons.mp h
    have hx := s x (by simp)
    have ih := nodup_len (A := A) (B := B.erase x) h2 fun y hy => (List.mem_erase_of_ne fun z : y = x => h1 (by rw [← z]; exact hy)).mpr (s y (by simp [hy]))
    rw [List.length_erase_of_mem hx] at ih
    have : 0 < B.length := List.length_pos_of_mem hx
    rw [List.length_cons]
    omega
theorem InS.len {m : Nat} {L : List (List Int)} (h : InS m L) : L.length ≤ 2 ^ m := by
  have := nodup_len h.nd (B := stands m) fun x hx => mem_stands.mpr (h.st x hx)
  rwa [stands_len] at this
theorem InS.add {m : Nat} {L : List (List Int)} {t : List Int} (h : InS m L) (ht : IsSt m t) : InS m (addS L t) := by
  unfold addS
  by_cases c : t ∈ L
  · rwa [if_pos c]
  · rw [if_neg c]
    refine ⟨List.nodup_append.mpr ⟨h.nd, by simp, fun a ha b hb z => ?_⟩, fun x hx => ?_⟩
    · rw [List.mem_singleton] at hb
      exact c (by rw [← hb, ← z]; exact ha)
    · rcases List.mem_append.mp hx with hx | hx
      · exact h.st x hx
      · rw [List.mem_singleton] at hx
        rw [hx]; exact ht
theorem flip_st {m k : Nat} {st : List Int} (h : IsSt m st) (hk : k < m) : IsSt m (flipI st k) := by
  have g := h.get k
  refine ⟨?_, fun x hx => ?_⟩
  · unfold flipI withI
    rw [List.length_append, List.length_cons, List.length_take, List.length_drop, h.len]
    omega
  · unfold flipI withI at hx
    rcases List.mem_append.mp hx with hx | hx
    · exact h.bit x (List.mem_of_mem_take hx)
    · rcases List.mem_cons.mp hx with rfl | hx
      · omega
      · exact h.bit x (List.mem_of_mem_drop hx)
theorem wrong_lt {ns : List RuleT} {st : List Int} {k : Nat} (h : k ∈ wrongI ns st) : k < ns.length := by
  unfold wrongI at h
  exact List.mem_range.mp (List.mem_filter.mp h).1
theorem InS.step {ns : List RuleT} {L : List (List Int)} {st : List Int} (h : InS ns.length L) (hs : IsSt ns.length st) : InS ns.length (stepS ns L st) := by
  have : ∀ (ts : List (List Int)) (L : List (List Int)), InS ns.length L → (∀ t ∈ ts, IsSt ns.length t) → InS ns.length (ts.foldl addS L) := fun ts => by
    induction ts with
    | nil => intro L h _; exact h
    | cons t ts ih => intro L h ht; exact ih _ (h.add (ht t (by simp))) fun x hx => ht x (by simp [hx])
  refine this _ L h fun t ht => ?_
  obtain ⟨k, hk, rfl⟩ := List.mem_map.mp ht
  exact flip_st hs (wrong_lt hk)
theorem addS_len {L : List (List Int)} {t : List Int} : L.length ≤ (addS L t).length := by
  unfold addS
  by_cases c : t ∈ L
  · rw [if_pos c]; exact Nat.le_refl _
  · rw [if_neg c, List.length_append]; omega
theorem stepS_len {ns : List RuleT} {L : List (List Int)} {st : List Int} : L.length ≤ (stepS ns L st).length := by
  unfold stepS
  generalize nextI ns st = ts
  induction ts generalizing L with
  | nil => exact Nat.le_refl _
  | cons t ts ih => exact Nat.le_trans (addS_len (t := t)) ih
def bfs (ns : List RuleT) : Nat → Nat → List (List Int) → List (List Int)
  | 0, _, L => L
  | n + 1, i, L => match L[i]? with
    | none => L
    | some st => bfs ns n (i + 1) (stepS ns L st)
def reachI (ns : List RuleT) (st : List Int) : List (List Int) := bfs ns (2 ^ ns.length + 1) 0 [st]
theorem changed2_ok {st : List Int} {m k : Nat} (hs : IsSt m st) (hk : k < m) (hm : m ≤ 20) : C.g_changed [ti st, .int k] = .ok (.fr (ti (flipI st k))) := by
  have a := atI_mapI (xs := st) (i := k) (by omega) (by rw [hs.len]; omega)
  rw [Int.toNat_natCast] at a
  have w := with_bit_ok (st := st) (k := k) (b := 1 - st.getD k 0) (by rw [hs.len]; omega)
  have a : atI (st.map D.int) k = some (.int (st.getD k 0)) := a
  simp only [C.g_changed, C.m_changed]
  unfold flipI
  generalize st.getD k 0 = b at a w ⊢
  simp [e_fnP, a, w]
theorem steps_ok {ns : List RuleT} {st : List Int} (g : GoodNet ns) (hm : ns.length ≤ 20) (hs : IsSt ns.length st) : C.g_steps_from [dNet ns, ti st] = .ok (.fr (.lst ((wrongI ns st).map fun k : Nat => D.tup [.int (k : Nat), ti (flipI st k)]))) := by
  have w := wrong_ones_ok g hs
  have zl : szOk (wrongI ns st).length = true := szOk_of (by
    have := List.length_filter_le (fun k => !decide (oughtI ns st k = st.getD k 0)) (List.range ns.length)
    rw [List.length_range] at this
    unfold wrongI
    omega)
  have h : cCompL (tmName 2) cYes C.e_steps_from_1 [2] [] ((wrongI ns st).map fun k => D.int (k : Nat)) [some (dNet ns), some (ti st), none] = .ok ((wrongI ns st).map fun k : Nat => D.tup [.int (k : Nat), ti (flipI st k)], [some (dNet ns), some (ti st), none]) :=
    comp_map (fun k : Nat => D.int (k : Nat)) (fun k : Nat => D.tup [.int (k : Nat), ti (flipI st k)]) (wrongI ns st) (fun k hk => by
      have c := changed2_ok hs (wrong_lt hk) hm
      simp only [turnC, C.e_steps_from_1]
      simp [c])
  simp only [C.g_steps_from, C.m_steps_from]
  generalize C.e_steps_from_1 = B at h ⊢
  generalize wrongI ns st = W at w h zl ⊢
  simp [e_fnP, w, h, zl]
abbrev kt (t : List Int) : List Key := t.map Sum.inl
theorem keys_ti : ∀ t : List Int, keysOf (t.map D.int) = some (kt t)
  | [] => rfl
  | x :: t => by
    rw [List.map_cons]
    unfold keysOf
    rw [keys_ti t]
    rfl
theorem kt_inj {a b : List Int} : kt a = kt b ↔ a = b := ⟨fun h => by
  have := congrArg (List.map fun k : Key => match k with | Sum.inl i => i | Sum.inr _ => 0) h
  simpa [kt, List.map_map, Function.comp_def] using this, fun h => by rw [h]⟩
theorem find_kt : ∀ {L : List (List Int)} {ds : List D} {t : List Int}, L.length = ds.length → (findD (L.map kt) ds (kt t)).isSome = decide (t ∈ L)
  | [], ds, t, _ => by simp [findD]
  | a :: L, [], t, h => by simp at h
  | a :: L, d :: ds, t, h => by
    have ih := find_kt (L := L) (ds := ds) (t := t) (by simpa using h)
    rw [List.map_cons]
    unfold findD
    by_cases c : a = t
    · rw [if_pos (kt_inj.mpr c)]; simp [c]
    · rw [if_neg fun z => c (kt_inj.mp z), ih]
      have : ¬ t = a := fun z => c z.symm
      simp [this]
theorem get_kt {L : List (List Int)} {ds : List D} {t : List Int} : getDic (.dit (L.map kt) ds) (ti t) = .ok (findD (L.map kt) ds (kt t)) := by
  show (match keysOf (t.map D.int) with | some k => _ | none => _) = _
  rw [keys_ti]
theorem put_kt {L : List (List Int)} {ds : List D} {t : List Int} {d : D} (h : t ∉ L) (hz : L.length + 1 ≤ 10000000) : putDic (.dit (L.map kt) ds) (ti t) d = .ok (.dit ((L ++ [t]).map kt) (ds ++ [d])) := by
  have n : kt t ∉ L.map kt := fun z => by
    obtain ⟨j, hj, e⟩ := List.mem_map.mp z
    exact h (by rw [← kt_inj.mp e]; exact hj)
  show (match keysOf (t.map D.int) with | some k => if szOk ((L.map kt).length + 1) = true then R.ok (D.dit (putKs (L.map kt) k) (putDs (L.map kt) ds k d)) else .stk | none => .stk) = _
  rw [keys_ti]
  have z : szOk ((L.map kt).length + 1) = true := szOk_of (by rw [List.length_map]; omega)
  simp only [z, if_true]
  unfold putKs putDs
  rw [if_neg n, if_neg n, List.map_append]
  rfl
end H

set_option Elab.async false
set_option linter.all false
set_option maxRecDepth 100000
namespace H
open PySem PySem.Spec PyProof.Rows L2 Y
def nextP (st : List Int) (s : List (List Int) × List D) (k : Nat) : List (List Int) × List D := if flipI st k ∈ s.1 then s else (s.1 ++ [flipI st k], s.2 ++ [.tup [.int k, ti st]])
theorem nextP_fst {st : List Int} : ∀ {ks : List Nat} {s : List (List Int) × List D}, (ks.foldl (nextP st) s).1 = (ks.map (flipI st)).foldl addS s.1
  | [], s => rfl
  | k :: ks, s => by
    rw [List.foldl_cons, nextP_fst, List.map_cons, List.foldl_cons]
    congr 1
    unfold nextP addS
    by_cases c : flipI st k ∈ s.1
    · rw [if_pos c, if_pos c]
    · rw [if_neg c, if_neg c]
theorem pow20 {m : Nat} (hm : m ≤ 20) : 2 ^ m ≤ 1048576 := Nat.le_trans (Nat.pow_le_pow_right (by omega) hm) (by decide)
theorem search_in {ns : List RuleT} {st st0 : List Int} {i : Nat} (hm : ns.length ≤ 20) (hs : IsSt ns.length st) (s : List (List Int) × List D) (h0 : InS ns.length s.1) (h1 : s.1.length = s.2.length) (h2 : s.1[i]? = some st) :
    ∃ ds, forL (tmTup [5, 6]) C.b_search_from_1 [5, 6] [] ((wrongI ns st).map fun k : Nat => D.tup [.int (k : Nat), ti (flipI st k)]) [some (dNet ns), some (ti st0), some (.dit (s.1.map kt) s.2), some (lti s.1), some (.int i), none, none]
      = .ok (.nx, [some (dNet ns), some (ti st0), some (.dit ((stepS ns s.1 st).map kt) ds), some (lti (stepS ns s.1 st)), some (.int i), none, none]) ∧ (stepS ns s.1 st).length = ds.length ∧ (stepS ns s.1 st)[i]? = some st := by
  obtain ⟨a, b, c, d⟩ := for_run (tm := tmTup [5, 6]) (body := C.b_search_from_1) (vs := [5, 6]) (ws := []) (fun k : Nat => D.tup [.int (k : Nat), ti (flipI st k)]) (fun s : List (List Int) × List D => [some (dNet ns), some (ti st0), some (.dit (s.1.map kt) s.2), some (lti s.1), some (.int i), none, none]) (nextP st) (fun s => InS ns.length s.1 ∧ s.1.length = s.2.length ∧ s.1[i]? = some st) (wrongI ns st) s ⟨h0, h1, h2⟩ fun s k ⟨h0, h1, h2⟩ hk => by
    have hf := flip_st hs (wrong_lt hk)
    have lL := h0.len
    have p20 := pow20 hm
    have f := find_kt (t := flipI st k) h1
    have gk := get_kt (L := s.1) (ds := s.2) (t := flipI st k)
    obtain ⟨L, ds⟩ := s
    simp only at h0 h1 h2 lL f gk ⊢
    have a := atI_of (xs := L.map ti) (i := (i : Int)) (j := i) (x := ti st) rfl (by rw [List.getElem?_map, h2]; rfl)
    have hi : i < L.length := by
      rcases Nat.lt_or_ge i L.length with q | q
      · exact q
      · rw [List.getElem?_eq_none q] at h2; cases h2
    have zl : szOk (L.length + 1) = true := szOk_of (by omega)
    unfold nextP
    by_cases c : flipI st k ∈ L
    · rw [if_pos c]
      rw [decide_eq_true c] at f
      refine ⟨⟨h0, h1, h2⟩, by simp, ?_⟩
      simp only [turnF, C.b_search_from_1]
      generalize findD (L.map kt) ds (kt (flipI st k)) = F at f gk
      obtain ⟨y, rfl⟩ := Option.isSome_iff_exists.mp f
      generalize ti (flipI st k) = T at gk
      have gk : getDic (.dit (L.map kt) ds) T = _ := gk
      generalize L.map kt = KS at gk
      generalize L.map ti = TS at a
      simp [gk]
    · rw [if_neg c]
      rw [decide_eq_false c] at f
      have ad := h0.add hf
      unfold addS at ad
      rw [if_neg c] at ad
      refine ⟨⟨ad, by simp [h1], by rw [List.getElem?_append_left hi]; exact h2⟩, by simp, ?_⟩
      have pk := put_kt (L := L) (ds := ds) (t := flipI st k) (d := .tup [.int k, ti st]) c (by omega)
      have em : lti (L ++ [flipI st k]) = .lst (L.map ti ++ [ti (flipI st k)]) := by simp [lti]
      rw [em]
      simp only [turnF, C.b_search_from_1]
      generalize findD (L.map kt) ds (kt (flipI st k)) = F at f gk
      have f : F = none := by cases F with | none => rfl | some y => cases f
      subst f
      generalize (L ++ [flipI st k]).map kt = KS2 at pk
      have zt : szOk ((L.map ti).length + 1) = true := by rw [List.length_map]; exact zl
      generalize ti (flipI st k) = T at gk pk
      generalize L.map kt = KS at gk pk
      show _ = R.ok _
      generalize hTS : L.map ti = TS at a zt
      have hTS2 : lti L = .lst TS := by rw [← hTS]
      rw [hTS2]
      generalize ti st = S at *
      simp [gk, pk, a, zt, szOk_of]
  refine ⟨((wrongI ns st).foldl (nextP st) s).2, ?_, ?_, ?_⟩
  · rw [a]
    simp only [nextP_fst]
    rfl
  · rw [← c, nextP_fst]; rfl
  · rw [nextP_fst] at d; exact d
theorem wrong_len {ns : List RuleT} {st : List Int} : (wrongI ns st).length ≤ ns.length := by
  have := List.length_filter_le (fun k => !decide (oughtI ns st k = st.getD k 0)) (List.range ns.length)
  rw [List.length_range] at this
  exact this
theorem search_go {ns : List RuleT} {st0 : List Int} (g : GoodNet ns) (hm : ns.length ≤ 20) : ∀ (n i : Nat) (L : List (List Int)) (ds : List D), 2 ^ ns.length < n + i → InS ns.length L → L.length = ds.length → i ≤ L.length →
    ∃ (ds' : List D), whileN (cBl (cOp ltD (cVar 4) (cCall lenD (cCons (cOwn 3) (cNil))))) C.b_search_from_2 [5, 6] n [some (dNet ns), some (ti st0), some (.dit (L.map kt) ds), some (lti L), some (.int i), none, none]
      = .ok (.nx, [some (dNet ns), some (ti st0), some (.dit ((bfs ns n i L).map kt) ds'), some (lti (bfs ns n i L)), some (.int (bfs ns n i L).length), none, none]) ∧ InS ns.length (bfs ns n i L) ∧ (bfs ns n i L).length = ds'.length
  | 0, i, L, ds, hn, h0, h1, hi => by
    have := h0.len
    omega
  | n + 1, i, L, ds, hn, h0, h1, hi => by
    have lL := h0.len
    have p20 := pow20 hm
    have zl : szOk (L.map ti).length = true := szOk_of (by rw [List.length_map]; omega)
    have t : cBl (cOp ltD (cVar 4) (cCall lenD (cCons (cOwn 3) (cNil)))) [some (dNet ns), some (ti st0), some (.dit (L.map kt) ds), some (lti L), some (.int i), none, none] = .ok (decide (i < L.length), [some (dNet ns), some (ti st0), some (.dit (L.map kt) ds), some (lti L), some (.int i), none, none]) := by
      have e : decide ((i : Int) < ((L.map ti).length : Int)) = decide (i < L.length) := by rw [List.length_map, Bool.eq_iff_iff, decide_eq_true_eq, decide_eq_true_eq]; omega
      show _ = R.ok (_, [some (dNet ns), some (ti st0), some (.dit (L.map kt) ds), some (.lst (L.map ti)), some (.int i), none, none])
      generalize L.map kt = KS
      show cBl _ [some (dNet ns), some (ti st0), some (.dit KS ds), some (.lst (L.map ti)), some (.int i), none, none] = _
      rw [← e]
      generalize L.map ti = TS at zl
      simp [zl]
    rcases Nat.lt_or_ge i L.length with c | c
    · rw [decide_eq_true c] at t
      have e2 : L[i]? = some L[i] := List.getElem?_eq_getElem c
      generalize L[i] = st at e2
      have hs : IsSt ns.length st := h0.st st (List.mem_of_getElem? e2)
      obtain ⟨ds1, e3, l3, _⟩ := search_in (st0 := st0) (i := i) hm hs (L, ds) h0 h1 e2
      simp only at e3 l3
      have h3 := h0.step hs
      obtain ⟨ds2, e4, h4, l4⟩ := search_go (st0 := st0) g hm n (i + 1) (stepS ns L st) ds1 (by omega) h3 l3 (by
        have := stepS_len (ns := ns) (L := L) (st := st); omega)
      have eb : bfs ns (n + 1) i L = bfs ns n (i + 1) (stepS ns L st) := by rw [bfs, e2]
      rw [eb]
      refine ⟨ds2, ?_, h4, l4⟩
      have so := steps_ok g hm hs
      have a := atI_of (xs := L.map ti) (i := (i : Int)) (j := i) (x := ti st) rfl (by rw [List.getElem?_map, e2]; rfl)
      have b : C.b_search_from_2 [some (dNet ns), some (ti st0), some (.dit (L.map kt) ds), some (lti L), some (.int i), none, none] = .ok (.nx, [some (dNet ns), some (ti st0), some (.dit ((stepS ns L st).map kt) ds1), some (lti (stepS ns L st)), some (.int ((i + 1 : Nat) : Int)), none, none]) := by
        simp only [C.b_search_from_2]
        generalize C.b_search_from_1 = B at e3 ⊢
        have zw : szOk ((wrongI ns st).map (fun k : Nat => D.tup [.int (k : Nat), ti (flipI st k)])).length = true := szOk_of (by rw [List.length_map]; have := wrong_len (ns := ns) (st := st); omega)
        generalize (wrongI ns st).map (fun k : Nat => D.tup [.int (k : Nat), ti (flipI st k)]) = W at e3 so zw
        simp [a, so, e3, zw]
      rw [whileN_step' t b]
      exact e4
    · rw [decide_eq_false (by omega)] at t
      have e2 : L[i]? = none := List.getElem?_eq_none c
      have eb : bfs ns (n + 1) i L = L := by rw [bfs, e2]
      have ei : i = L.length := by omega
      rw [eb]
      refine ⟨ds, ?_, h0, h1⟩
      rw [whileN_stop' t, ei]
theorem one_in {m : Nat} {st : List Int} (h : IsSt m st) : InS m [st] := ⟨by simp, fun x hx => by rw [List.mem_singleton] at hx; rw [hx]; exact h⟩
theorem bfs_in {ns : List RuleT} : ∀ (n i : Nat) (L : List (List Int)), InS ns.length L → InS ns.length (bfs ns n i L) ∧ ∀ x ∈ L, x ∈ bfs ns n i L
  | 0, i, L, h => ⟨h, fun _ hx => hx⟩
  | n + 1, i, L, h => by
    unfold bfs
    cases e : L[i]? with
    | none => exact ⟨h, fun _ hx => hx⟩
    | some st =>
      obtain ⟨a, b⟩ := bfs_in n (i + 1) (stepS ns L st) (h.step (h.st st (List.mem_of_getElem? e)))
      refine ⟨a, fun x hx => b x ?_⟩
      have : ∀ (ts : List (List Int)) (L : List (List Int)), x ∈ L → x ∈ ts.foldl addS L := fun ts => by
        induction ts with
        | nil => intro L h; exact h
        | cons t ts ih =>
          intro L h
          refine ih _ ?_
          unfold addS
          split
          · exact h
          · exact List.mem_append_left _ h
      exact this _ _ hx
theorem reach_in {ns : List RuleT} {st : List Int} (hs : IsSt ns.length st) : InS ns.length (reachI ns st) ∧ st ∈ reachI ns st := by
  obtain ⟨a, b⟩ := bfs_in (2 ^ ns.length + 1) 0 [st] (one_in hs)
  exact ⟨a, b st (by simp)⟩
theorem sort_reach {ns : List RuleT} {st : List Int} (hs : IsSt ns.length st) (hp : 0 < ns.length) : sortOk (reachI ns st) = true := by
  unfold sortOk
  rw [Bool.or_eq_true]
  right
  rw [List.all_eq_true]
  intro x hx
  have := ((reach_in hs).1.st x hx).len
  cases x with
  | nil => rw [List.length_nil] at this; omega
  | cons => rfl
theorem search_ok {ns : List RuleT} {st : List Int} (g : GoodNet ns) (hm : ns.length ≤ 20) (hs : IsSt ns.length st) : ∃ ds, C.g_search_from [dNet ns, ti st] = .ok (.fr (.dit ((reachI ns st).map kt) ds)) ∧ (reachI ns st).length = ds.length := by
  obtain ⟨ds, e, _, l⟩ := search_go (st0 := st) g hm (2 ^ ns.length + 1) 0 [st] [.non] (by omega) (one_in hs) rfl (by simp)
  have e := sWhile_of e
  refine ⟨ds, ?_, l⟩
  have e : sWhile (cBl (cOp ltD (cVar 4) (cCall lenD (cCons (cOwn 3) (cNil))))) C.b_search_from_2 [5, 6] [some (dNet ns), some (ti st), some (.dit [kt st] [.non]), some (.lst [ti st]), some (.int 0), none, none] = .ok (.nx, [some (dNet ns), some (ti st), some (.dit ((reachI ns st).map kt) ds), some (lti (reachI ns st)), some (.int (reachI ns st).length), none, none]) := e
  simp only [C.g_search_from, C.m_search_from]
  generalize C.b_search_from_2 = B at e ⊢
  generalize (reachI ns st).map kt = KS at e ⊢
  generalize lti (reachI ns st) = S at e
  have e : sWhile _ B [5, 6] [some (dNet ns), some (.tup (st.map D.int)), some (.dit [kt st] [.non]), some (.lst [.tup (st.map D.int)]), some (.int 0), none, none] = _ := e
  have k1 := keys_ti st
  show fnP 2 7 _ [dNet ns, .tup (st.map D.int)] = _
  generalize kt st = K1 at k1 e
  generalize st.map D.int = T at *
  generalize (reachI ns st).length = n at *
  simp [e_fnP, e, k1, shAt, szOk_of]
theorem comes_ok {ns : List RuleT} {st : List Int} (g : GoodNet ns) (hm : ns.length ≤ 20) (hp : 0 < ns.length) (hs : IsSt ns.length st) : C.g_comes_to [dNet ns, ti st] = .ok (.fr (lti (sortL (reachI ns st)))) := by
  have l := look_at_stand_ok (n := ns.map dRule) (xs := st) (by rw [hs.len]; omega) hs.bit (by rw [hs.len, List.length_map])
  have l : C.g_look_at_stand [dNet ns, ti st] = _ := l
  obtain ⟨ds, e, _⟩ := search_ok g hm hs
  have so := sort_reach hs hp
  have sd : sortDD [.dit ((reachI ns st).map kt) ds] = .ok (lti (sortL (reachI ns st))) := by
    have := d_sortDT (ks := reachI ns st) (ds := ds)
    rw [so, if_pos rfl] at this
    exact this
  simp only [C.g_comes_to, C.m_comes_to]
  generalize lti (sortL (reachI ns st)) = S at sd ⊢
  generalize (reachI ns st).map kt = KS at e sd
  simp [e_fnP, l, e, sd]
end H

set_option Elab.async false
set_option linter.all false
set_option maxRecDepth 100000
namespace H
open PySem PySem.Spec PyProof.Rows L2 Y
theorem bfs_keeps {ns : List RuleT} {P : List Int → Prop} (hp : ∀ st, IsSt ns.length st → P st → ∀ k ∈ wrongI ns st, P (flipI st k)) : ∀ (n i : Nat) (L : List (List Int)), InS ns.length L → (∀ x ∈ L, P x) → ∀ x ∈ bfs ns n i L, P x
  | 0, i, L, _, h => h
  | n + 1, i, L, h0, h => by
    unfold bfs
    cases e : L[i]? with
    | none => exact h
    | some st =>
      have hm := List.mem_of_getElem? e
      have hs := h0.st st hm
      refine bfs_keeps hp n (i + 1) (stepS ns L st) (h0.step hs) ?_
      have : ∀ (ts : List (List Int)) (L : List (List Int)), (∀ x ∈ L, P x) → (∀ x ∈ ts, P x) → ∀ x ∈ ts.foldl addS L, P x := fun ts => by
        induction ts with
        | nil => intro L h _; exact h
        | cons t ts ih =>
          intro L h ht
          refine ih _ (fun x hx => ?_) fun x hx => ht x (by simp [hx])
          unfold addS at hx
          split at hx
          · exact h x hx
          · rcases List.mem_append.mp hx with hx | hx
            · exact h x hx
            · rw [List.mem_singleton] at hx
              rw [hx]; exact ht t (by simp)
      refine this _ _ h fun x hx => ?_
      obtain ⟨k, hk, rfl⟩ := List.mem_map.mp hx
      exact hp st hs (h st hm) k hk
theorem reach_keeps {ns : List RuleT} {P : List Int → Prop} {st : List Int} (hs : IsSt ns.length st) (h : P st) (hp : ∀ st, IsSt ns.length st → P st → ∀ k ∈ wrongI ns st, P (flipI st k)) : ∀ x ∈ reachI ns st, P x :=
  bfs_keeps hp _ 0 [st] (one_in hs) fun x hx => by rw [List.mem_singleton] at hx; rw [hx]; exact h
end H

set_option Elab.async false
set_option linter.all false
set_option maxRecDepth 100000
namespace H
open PySem PySem.Spec PyProof.Rows L2 Y
theorem addS_app {t : List Int} {L : List (List Int)} : ∃ E, addS L t = L ++ E := by
  unfold addS
  split
  · exact ⟨[], (List.append_nil L).symm⟩
  · exact ⟨[t], rfl⟩
theorem foldS_app : ∀ {ts L : List (List Int)}, ∃ E, ts.foldl addS L = L ++ E
  | [], L => ⟨[], (List.append_nil L).symm⟩
  | t :: ts, L => by
    obtain ⟨E, e⟩ := addS_app (t := t) (L := L)
    obtain ⟨E2, e2⟩ := foldS_app (ts := ts) (L := addS L t)
    exact ⟨E ++ E2, by rw [List.foldl_cons, e2, e, List.append_assoc]⟩
theorem addS_mem {t x : List Int} {L : List (List Int)} : x ∈ addS L t ↔ x ∈ L ∨ x = t := by
  unfold addS
  split
  · rename_i c
    exact ⟨.inl, fun h => h.elim id fun e => e ▸ c⟩
  · rw [List.mem_append, List.mem_singleton]
theorem foldS_mem {x : List Int} : ∀ {ts L : List (List Int)}, x ∈ ts.foldl addS L ↔ x ∈ L ∨ x ∈ ts
  | [], L => by simp
  | t :: ts, L => by
    rw [List.foldl_cons, foldS_mem, addS_mem, List.mem_cons, or_assoc]
theorem bfs_closed {ns : List RuleT} : ∀ (n i : Nat) (L : List (List Int)), 2 ^ ns.length < n + i → InS ns.length L → i ≤ L.length → (∀ j, j < i → ∀ s, L[j]? = some s → ∀ k ∈ wrongI ns s, flipI s k ∈ L) →
    ∀ s ∈ bfs ns n i L, ∀ k ∈ wrongI ns s, flipI s k ∈ bfs ns n i L
  | 0, i, L, hn, h0, hi, _ => by
    have := h0.len
    omega
  | n + 1, i, L, hn, h0, hi, h => by
    unfold bfs
    cases e : L[i]? with
    | none =>
      intro s hs k hk
      have hs : s ∈ L := hs
      obtain ⟨j, hj, e2⟩ := List.getElem_of_mem hs
      have : L.length ≤ i := List.getElem?_eq_none_iff.mp e
      exact h j (by omega) s (by rw [List.getElem?_eq_getElem hj, e2]) k hk
    | some st =>
      have hst := h0.st st (List.mem_of_getElem? e)
      have hl : i < L.length := by
        rcases Nat.lt_or_ge i L.length with q | q
        · exact q
        · rw [List.getElem?_eq_none q] at e; cases e
      refine bfs_closed n (i + 1) (stepS ns L st) (by omega) (h0.step hst) (by have := stepS_len (ns := ns) (L := L) (st := st); omega) fun j hj s hs k hk => ?_
      obtain ⟨E, eE⟩ := foldS_app (ts := nextI ns st) (L := L)
      have eE : stepS ns L st = L ++ E := eE
      have hjl : j < L.length := by omega
      have hs2 : L[j]? = some s := by rw [eE, List.getElem?_append_left hjl] at hs; exact hs
      show flipI s k ∈ (nextI ns st).foldl addS L
      rw [foldS_mem]
      by_cases c : j = i
      · subst c
        rw [e] at hs2
        cases hs2
        exact .inr (List.mem_map.mpr ⟨k, hk, rfl⟩)
      · exact .inl (h j (by omega) s hs2 k hk)
theorem reach_closed {ns : List RuleT} {st : List Int} (hs : IsSt ns.length st) : ∀ s ∈ reachI ns st, ∀ k ∈ wrongI ns s, flipI s k ∈ reachI ns st :=
  bfs_closed _ 0 [st] (by omega) (one_in hs) (by simp) fun j hj => by omega
theorem reach_trans {ns : List RuleT} {st x y : List Int} (hs : IsSt ns.length st) (hx : x ∈ reachI ns st) (hy : y ∈ reachI ns x) : y ∈ reachI ns st :=
  reach_keeps (P := fun y => y ∈ reachI ns st) ((reach_in hs).1.st x hx) hx (fun s _ h k hk => reach_closed hs s h k hk) y hy
def Rs (ns : List RuleT) (st : List Int) : List (List Int) := sortL (reachI ns st)
theorem mem_Rs {ns : List RuleT} {st x : List Int} : x ∈ Rs ns st ↔ x ∈ reachI ns st := (sortL_perm _).mem_iff
theorem Rs_self {ns : List RuleT} {st : List Int} (hs : IsSt ns.length st) : st ∈ Rs ns st := mem_Rs.mpr (reach_in hs).2
theorem Rs_st {ns : List RuleT} {st x : List Int} (hs : IsSt ns.length st) (hx : x ∈ Rs ns st) : IsSt ns.length x := (reach_in hs).1.st x (mem_Rs.mp hx)
theorem Rs_nd {ns : List RuleT} {st : List Int} (hs : IsSt ns.length st) : (Rs ns st).Nodup := (sortL_perm _).nodup_iff.mpr (reach_in hs).1.nd
theorem Rs_len {ns : List RuleT} {st : List Int} (hs : IsSt ns.length st) : (Rs ns st).length ≤ 2 ^ ns.length := by
  unfold Rs
  rw [(sortL_perm _).length_eq]
  exact (reach_in hs).1.len
theorem Rs_trans {ns : List RuleT} {st x y : List Int} (hs : IsSt ns.length st) (hx : x ∈ Rs ns st) (hy : y ∈ Rs ns x) : y ∈ Rs ns st := mem_Rs.mpr (reach_trans hs (mem_Rs.mp hx) (mem_Rs.mp hy))
theorem sort_same {A B : List (List Int)} (hA : A.Nodup) (hB : B.Nodup) (h : ∀ x, x ∈ A ↔ x ∈ B) : sortL A = sortL B :=
  sortL_of ((sortL_perm A).trans ((List.perm_ext_iff_of_nodup hA hB).mpr h)) (sortL_pw A)
theorem Rs_eq {ns : List RuleT} {st x : List Int} (hs : IsSt ns.length st) (hx : x ∈ Rs ns st) : (Rs ns x).length = (Rs ns st).length ↔ Rs ns x = Rs ns st := by
  constructor
  · intro h
    have hxs := Rs_st hs hx
    have sub : ∀ y ∈ Rs ns x, y ∈ Rs ns st := fun y hy => Rs_trans hs hx hy
    refine sort_same (reach_in hxs).1.nd (reach_in hs).1.nd fun y => ⟨fun hy => mem_Rs.mp (sub y (mem_Rs.mpr hy)), fun hy => ?_⟩
    refine Classical.byContradiction fun q => ?_
    have hy' := mem_Rs.mpr hy
    have := nodup_len (B := (Rs ns st).erase y) (Rs_nd hxs) fun z hz => (List.mem_erase_of_ne fun e : z = y => q (by rw [← e]; exact mem_Rs.mp hz)).mpr (sub z hz)
    rw [List.length_erase_of_mem hy'] at this
    have := List.length_pos_of_mem hy'
    omega
  · intro h; rw [h]
def denB (ns : List RuleT) (st : List Int) : Bool := (Rs ns st).all fun t => decide ((Rs ns t).length = (Rs ns st).length)
def selB (ns : List RuleT) (st : List Int) : Bool := decide ((Rs ns st).headD [] = st) && denB ns st
def foundI (ns : List RuleT) : List (List (List Int)) := ((stands ns.length).filter (selB ns)).map (Rs ns)
theorem den_iff {ns : List RuleT} {st : List Int} (hs : IsSt ns.length st) : denB ns st = true ↔ ∀ t ∈ Rs ns st, Rs ns t = Rs ns st := by
  unfold denB
  rw [List.all_eq_true]
  exact ⟨fun h t ht => (Rs_eq hs ht).mp (of_decide_eq_true (h t ht)), fun h t ht => decide_eq_true (by rw [h t ht])⟩
theorem head_mem {α : Type} {x d : α} {xs : List α} (h : x ∈ xs) : xs.headD d ∈ xs ∧ xs = xs.headD d :: xs.tail := by
  cases xs with
  | nil => cases h
  | cons y ys => exact ⟨by simp, rfl⟩
theorem found_nd {ns : List RuleT} : (foundI ns).Nodup := by
  unfold foundI
  rw [List.nodup_iff_pairwise_ne, List.pairwise_map]
  have h : ((stands ns.length).filter (selB ns)).Pairwise (· ≠ ·) := List.nodup_iff_pairwise_ne.mp ((List.filter_sublist).nodup (stands_nodup _))
  refine List.Pairwise.imp_of_mem (fun {a b} ha hb hne e => ?_) h
  have ha := (List.mem_filter.mp ha).2
  have hb := (List.mem_filter.mp hb).2
  unfold selB at ha hb
  rw [Bool.and_eq_true, decide_eq_true_eq] at ha hb
  exact hne (by rw [← ha.1, e, hb.1])
theorem eqPs_map {α : Type} [DecidableEq α] {f : α → D} (hf : ∀ x y, eqP (f x) (f y) = decide (x = y)) : ∀ {xs ys : List α}, eqPs (xs.map f) (ys.map f) = decide (xs = ys)
  | [], [] => by simp [eqPs]
  | [], _ :: _ => by simp [eqPs]
  | _ :: _, [] => by simp [eqPs]
  | x :: xs, y :: ys => by
    have ih := eqPs_map hf (xs := xs) (ys := ys)
    simp only [List.map_cons, eqPs, hf, ih, List.cons.injEq]
    by_cases a : x = y <;> by_cases b : xs = ys <;> simp [a, b]
theorem eqP_ti {a b : List Int} : eqP (ti a) (ti b) = decide (a = b) := by rw [eqP_tup, eqPs_ints]
theorem eqP_lti {a b : List (List Int)} : eqP (lti a) (lti b) = decide (a = b) := by rw [eqP_lst, eqPs_map fun x y => eqP_ti]
theorem ne_lti {a b : List (List Int)} : neD (lti a) (lti b) = .ok (.bl (!decide (a = b))) := by rw [neD_of (n := 2) fit_lti fit_lti, eqP_lti]
abbrev llti (F : List (List (List Int))) : D := .lst (F.map lti)
theorem fit_llti {n : Nat} {F : List (List (List Int))} : Fit (n + 3) (llti F) := fun d hd => by
  obtain ⟨x, _, rfl⟩ := List.mem_map.mp hd
  exact fit_lti
theorem alike_ints : ∀ {a b : List Int}, PySem.W.alikeAll (toPys (a.map D.int)) (toPys (b.map D.int)) = true
  | [], _ => by simp [toPys, PySem.W.alikeAll]
  | _ :: _, [] => by simp [toPys, PySem.W.alikeAll]
  | x :: xs, y :: ys => by
    have ih := alike_ints (a := xs) (b := ys)
    simp only [List.map_cons, toPys, toPy, PySem.W.alikeAll, PySem.W.alike, ih, Bool.and_self]
theorem alike_lis : ∀ {a b : List (List Int)}, PySem.W.alikeAll (toPys (a.map ti)) (toPys (b.map ti)) = true
  | [], _ => by simp [toPys, PySem.W.alikeAll]
  | _ :: _, [] => by simp [toPys, PySem.W.alikeAll]
  | x :: xs, y :: ys => by
    have ih := alike_lis (a := xs) (b := ys)
    simp only [List.map_cons, toPys, toPy, PySem.W.alikeAll, PySem.W.alike, ih, alike_ints, Bool.and_self]
theorem sorts_llti {F : List (List (List Int))} : sortsOk (F.map lti) = true := by
  unfold sortsOk
  rw [Bool.and_eq_true]
  refine ⟨List.all_eq_true.mpr fun a ha => ?_, ?_⟩
  · obtain ⟨x, _, rfl⟩ := List.mem_map.mp ha
    have f := fit_py (fit_lti (n := 0) (xs := x))
    rw [Bool.and_eq_true, Bool.and_eq_true]
    refine ⟨⟨f.1, decide_eq_true (by have := f.2; omega)⟩, List.all_eq_true.mpr fun b hb => ?_⟩
    obtain ⟨y, _, rfl⟩ := List.mem_map.mp hb
    show PySem.W.alike (.list (toPys (x.map ti))) (.list (toPys (y.map ti))) = true
    rw [PySem.W.alike]
    exact alike_lis
  · rw [Bool.or_eq_true]
    refine .inr (List.all_eq_true.mpr fun a ha => ?_)
    obtain ⟨x, _, rfl⟩ := List.mem_map.mp ha
    rfl
noncomputable def sortF (F : List (List (List Int))) : List (List (List Int)) := F.mergeSort fun a b => leB (lti a) (lti b)
theorem sortF_perm {F : List (List (List Int))} : (sortF F).Perm F := List.mergeSort_perm _ _
theorem sort_llti {F : List (List (List Int))} : sortGD [llti F] = .ok (llti (sortF F)) := by
  have e : (F.map lti).mergeSort leB = (sortF F).map lti := (List.map_mergeSort (r := fun a b => leB (lti a) (lti b)) (s := leB) (f := lti) (l := F) (fun a _ b _ => rfl)).symm
  show (if sortsOk (F.map lti) = true then R.ok (D.lst ((F.map lti).mergeSort leB)) else .stk) = _
  rw [if_pos sorts_llti, e]
noncomputable def densI (ns : List RuleT) : List (List (List Int)) := sortF (foundI ns)
end H

set_option Elab.async false
set_option linter.all false
set_option maxRecDepth 100000
namespace H
open PySem PySem.Spec PyProof.Rows L2 Y
@[simp] theorem e_dget {a b : EM} {ρ : Y.Env} : cDGet a b ρ = (a ρ >>= fun p => b p.2 >>= fun q => (p.1.d q.2).nox >>= fun x => (q.1.d q.2).nox >>= fun y => (getDic x y).nox >>= fun o => match o with | some z => R.ok (.vl z, q.2) | none => .stk) := id rfl
abbrev dicR (ns : List RuleT) (L : List (List Int)) : D := .dit (L.map kt) (L.map fun st => lti (Rs ns st))
theorem find_map {f : List Int → D} {t : List Int} : ∀ {L : List (List Int)}, t ∈ L → findD (L.map kt) (L.map f) (kt t) = some (f t)
  | [], h => by cases h
  | a :: L, h => by
    rw [List.map_cons, List.map_cons]
    unfold findD
    by_cases c : a = t
    · rw [if_pos (kt_inj.mpr c), c]
    · rw [if_neg fun z => c (kt_inj.mp z)]
      exact find_map ((List.mem_cons.mp h).resolve_left fun z => c z.symm)
theorem get_R {ns : List RuleT} {t : List Int} {L : List (List Int)} (h : t ∈ L) : getDic (dicR ns L) (ti t) = .ok (some (lti (Rs ns t))) := by
  rw [get_kt, find_map (f := fun st => lti (Rs ns st)) h]
theorem take_snoc {α : Type} {L : List α} {i : Nat} {x : α} (h : L[i]? = some x) : L.take (i + 1) = L.take i ++ [x] := by rw [List.take_add_one, h]; rfl
theorem nd_take {L : List (List Int)} {i : Nat} {x : List Int} (hn : L.Nodup) (h : L[i]? = some x) : x ∉ L.take i := fun z => by
  obtain ⟨hi, e⟩ := List.getElem?_eq_some_iff.mp h
  obtain ⟨j, hj, ej⟩ := List.getElem_of_mem z
  rw [List.length_take] at hj
  rw [List.getElem_take] at ej
  have := (List.nodup_iff_pairwise_ne.mp hn)
  have := List.pairwise_iff_getElem.mp this j i (by omega) hi (by omega)
  exact this (by rw [ej, e])
theorem put_R {ns : List RuleT} {i : Nat} {st : List Int} {L : List (List Int)} (hl : L.length ≤ 1000000) (hn : L.Nodup) (h : L[i]? = some st) : putDic (dicR ns (L.take i)) (ti st) (lti (Rs ns st)) = .ok (dicR ns (L.take (i + 1))) := by
  rw [put_kt (nd_take hn h) (by rw [List.length_take]; omega), take_snoc h]
  simp [dicR]
theorem reached_ok {ns : List RuleT} (g : GoodNet ns) (hm : ns.length ≤ 19) (hp : 0 < ns.length) : C.g_reached [dNet ns] = .ok (.fr (dicR ns (stands ns.length))) := by
  have so := stands_of_ok (m := ns.length) (by omega)
  have p2 : 2 ^ ns.length ≤ 2 ^ 19 := Nat.pow_le_pow_right (by omega) hm
  have sl := stands_len ns.length
  have h := for_idx (tm := tmName 2) (body := C.b_reached_1) (vs := [2]) (ws := []) ti (stands ns.length) (fun i => [some (dNet ns), some (dicR ns ((stands ns.length).take i)), none]) fun i hi => by
    refine ⟨by simp, ?_⟩
    have hs : IsSt ns.length (stands ns.length)[i] := stands_st (List.getElem_mem hi)
    have e2 : (stands ns.length)[i]? = some (stands ns.length)[i] := List.getElem?_eq_getElem hi
    generalize (stands ns.length)[i] = st at *
    have c := comes_ok g (by omega) hp hs
    have p := put_R (ns := ns) (by omega) (stands_nodup ns.length) e2
    simp only [turnF, C.b_reached_1]
    have c : C.g_comes_to [dNet ns, ti st] = .ok (.fr (lti (Rs ns st))) := c
    show _ = R.ok (_, [some (dNet ns), some (dicR ns ((stands ns.length).take (i + 1))), none])
    generalize (stands ns.length).take (i + 1) = B at p
    generalize (stands ns.length).take i = A at p
    unfold dicR at p ⊢
    generalize A.map kt = A1 at p ⊢
    generalize (A.map fun st => lti (Rs ns st)) = A2 at p ⊢
    generalize B.map kt = B1 at p ⊢
    generalize (B.map fun st => lti (Rs ns st)) = B2 at p ⊢
    generalize lti (Rs ns st) = S at *
    generalize ti st = T at *
    simp [c, p]
  rw [List.take_zero, List.take_of_length_le (by omega)] at h
  have zs : szOk ((stands ns.length).map ti).length = true := szOk_of (by rw [List.length_map]; omega)
  have zn : szOk ns.length = true := szOk_of (by omega)
  have h : forL (tmName 2) C.b_reached_1 [2] [] ((stands ns.length).map ti) [some (dNet ns), some (.dit [] []), none] = _ := h
  have so : C.g_stands_of [.int ns.length] = .ok (.vl (.lst ((stands ns.length).map ti))) := so
  simp only [C.g_reached, C.m_reached]
  generalize C.b_reached_1 = B at h ⊢
  generalize dicR ns (stands ns.length) = DD at *
  generalize (stands ns.length).map ti = TS at *
  simp [e_fnP, so, zs, zn, h]
theorem all_len {ns : List RuleT} {st : List Int} : ((Rs ns st).map fun t => decide ((Rs ns t).length = (Rs ns st).length)).all id = denB ns st := by
  unfold denB
  rw [List.all_map]
  rfl
theorem ix_head {S : List (List Int)} {x : List Int} (h : x ∈ S) : atI (S.map ti) 0 = some (ti (S.headD [])) := by
  obtain ⟨_, e⟩ := head_mem (d := ([] : List Int)) h
  rw [e]
  exact atI_of (j := 0) rfl rfl
theorem found_take {ns : List RuleT} {i : Nat} {st : List Int} (h : (stands ns.length)[i]? = some st) :
    (((stands ns.length).take (i + 1)).filter (selB ns)).map (Rs ns) = (((stands ns.length).take i).filter (selB ns)).map (Rs ns) ++ (if selB ns st = true then [Rs ns st] else []) := by
  rw [take_snoc h, List.filter_append, List.map_append]
  congr 1
  by_cases q : selB ns st = true
  · rw [if_pos q, List.filter_cons, if_pos q]; rfl
  · rw [if_neg q, List.filter_cons, if_neg q]; rfl
theorem found_le {ns : List RuleT} {i : Nat} : ((((stands ns.length).take i).filter (selB ns)).map (Rs ns)).length ≤ 2 ^ ns.length := by
  rw [List.length_map]
  refine Nat.le_trans (List.length_filter_le _ _) ?_
  rw [List.length_take, stands_len]
  exact Nat.min_le_right _ _
theorem dens_among_ok {ns : List RuleT} (hm : ns.length ≤ 19) : C.g_dens_among [dicR ns (stands ns.length)] = .ok (.fr (llti (densI ns))) := by
  have p2 : 2 ^ ns.length ≤ 2 ^ 19 := Nat.pow_le_pow_right (by omega) hm
  have sl := stands_len ns.length
  have h := for_idx (tm := tmTup [2, 3]) (body := C.b_dens_among_1) (vs := [2, 3]) (ws := []) (fun st => D.tup [ti st, lti (Rs ns st)]) (stands ns.length) (fun i => [some (dicR ns (stands ns.length)), some (llti ((((stands ns.length).take i).filter (selB ns)).map (Rs ns))), none, none, none]) fun i hi => by
    refine ⟨by simp, ?_⟩
    have hs : IsSt ns.length (stands ns.length)[i] := stands_st (List.getElem_mem hi)
    have e2 : (stands ns.length)[i]? = some (stands ns.length)[i] := List.getElem?_eq_getElem hi
    generalize (stands ns.length)[i] = st at *
    have lR := Rs_len hs
    have q := comp_map (tm := tmName 4) (t := cYes) (e := C.e_dens_among_1) (vs := [4]) (ws := []) (ρ := [some (dicR ns (stands ns.length)), some (llti ((((stands ns.length).take i).filter (selB ns)).map (Rs ns))), some (ti st), some (lti (Rs ns st)), none]) ti (fun t => D.bl (decide ((Rs ns t).length = (Rs ns st).length))) (Rs ns st) (fun t ht => by
      have gt := get_R (ns := ns) (L := stands ns.length) (mem_stands.mpr (Rs_st hs ht))
      have lt := Rs_len (Rs_st hs ht)
      have z1 : szOk (Rs ns t).length = true := szOk_of (by omega)
      have z2 : szOk (Rs ns st).length = true := szOk_of (by omega)
      have e1 : decide (((Rs ns t).length : Int) = ((Rs ns st).length : Int)) = decide ((Rs ns t).length = (Rs ns st).length) := by rw [Bool.eq_iff_iff, decide_eq_true_eq, decide_eq_true_eq]; omega
      have l1 : lenD [lti (Rs ns t)] = .ok (.int (Rs ns t).length) := by simp [z1]
      have l2 : lenD [lti (Rs ns st)] = .ok (.int (Rs ns st).length) := by simp [z2]
      simp only [turnC, C.e_dens_among_1]
      generalize dicR ns (stands ns.length) = DD at *
      generalize lti (Rs ns t) = LT at *
      generalize lti (Rs ns st) = LS at *
      generalize (Rs ns t).length = n1 at *
      generalize (Rs ns st).length = n2 at *
      generalize ti t = T at *
      simp [gt, l1, l2, e1]
      try omega)
    rw [show ((Rs ns st).map fun t => D.bl (decide ((Rs ns t).length = (Rs ns st).length))) = ((Rs ns st).map fun t => decide ((Rs ns t).length = (Rs ns st).length)).map D.bl by rw [List.map_map]; rfl] at q
    have al := d_all (xs := (Rs ns st).map fun t => decide ((Rs ns t).length = (Rs ns st).length))
    rw [all_len] at al
    have a0 := ix_head (Rs_self hs)
    have e1 := eq_ti (a := (Rs ns st).headD []) (b := st)
    have ft := found_take e2
    have fl := found_le (ns := ns) (i := i)
    have zf : szOk ((((((stands ns.length).take i).filter (selB ns)).map (Rs ns)).map lti).length + 1) = true := szOk_of (by rw [List.length_map]; omega)
    have z2 : szOk ((Rs ns st).map ti).length = true := szOk_of (by rw [List.length_map]; omega)
    have zb : szOk (((Rs ns st).map fun t => decide ((Rs ns t).length = (Rs ns st).length)).map D.bl).length = true := szOk_of (by rw [List.length_map, List.length_map]; omega)
    have es : selB ns st = (decide ((Rs ns st).headD [] = st) && denB ns st) := rfl
    show _ = R.ok (_, [some (dicR ns (stands ns.length)), some (llti ((((stands ns.length).take (i + 1)).filter (selB ns)).map (Rs ns))), none, none, none])
    rw [ft, es]
    have em : ∀ F : List (List (List Int)), llti (F ++ [Rs ns st]) = .lst (F.map lti ++ [.lst ((Rs ns st).map ti)]) := fun F => by simp [llti]
    simp only [turnF, C.b_dens_among_1]
    generalize C.e_dens_among_1 = E1 at q ⊢
    generalize dicR ns (stands ns.length) = DD at *
    generalize (((Rs ns st).map fun t => decide ((Rs ns t).length = (Rs ns st).length)).map D.bl) = BS at *
    generalize (((stands ns.length).take i).filter (selB ns)).map (Rs ns) = F at *
    generalize denB ns st = b at *
    generalize (Rs ns st).headD [] = hd at *
    have em := em F
    have lt : lti (Rs ns st) = .lst ((Rs ns st).map ti) := rfl
    rw [lt] at q ⊢
    generalize (Rs ns st).map ti = S at *
    have lF : llti F = .lst (F.map lti) := rfl
    rw [lF] at q
    by_cases c : hd = st
    · rw [decide_eq_true c] at e1 ⊢
      cases b with
      | true =>
        rw [if_pos (show (true && true) = true by rfl), em]
        rw [lF]
        generalize F.map lti = FD at *
        simp [a0, e1, q, al, z2, zb, zf]
      | false =>
        rw [if_neg (by simp), List.append_nil, lF]
        generalize F.map lti = FD at *
        simp [a0, e1, q, al, z2, zb, zf]
    · rw [decide_eq_false c] at e1 ⊢
      rw [if_neg (by simp), List.append_nil, lF]
      generalize F.map lti = FD at *
      simp [a0, e1, q, al, z2, zb, zf]
  rw [List.take_zero, List.take_of_length_le (by omega)] at h
  have h : forL (tmTup [2, 3]) C.b_dens_among_1 [2, 3] [] ((stands ns.length).map fun st => D.tup [ti st, lti (Rs ns st)]) [some (dicR ns (stands ns.length)), some (.lst []), none, none, none] = .ok (.nx, [some (dicR ns (stands ns.length)), some (llti (foundI ns)), none, none, none]) := h
  have kk : ∀ st : List Int, (kt st).map keyD = st.map D.int := fun st => by
    unfold kt
    rw [List.map_map]
    rfl
  have it : dicItems (dicR ns (stands ns.length)) = .ok ((stands ns.length).map fun st => D.tup [ti st, lti (Rs ns st)]) := by
    rw [d_itemsT, zip_map2, List.map_map]
    congr 1
    refine List.map_congr_left fun st _ => ?_
    show D.tup [.tup ((kt st).map keyD), lti (Rs ns st)] = _
    rw [kk]
  have so := sort_llti (F := foundI ns)
  have zi : szOk ((stands ns.length).map fun st => D.tup [ti st, lti (Rs ns st)]).length = true := szOk_of (by rw [List.length_map]; omega)
  simp only [C.g_dens_among, C.m_dens_among]
  generalize C.b_dens_among_1 = B at h ⊢
  generalize ((stands ns.length).map fun st => D.tup [ti st, lti (Rs ns st)]) = IT at *
  generalize dicR ns (stands ns.length) = DD at *
  have so : sortGD [llti (foundI ns)] = .ok (llti (densI ns)) := so
  generalize llti (densI ns) = OUT at *
  have so : sortGD [.lst ((foundI ns).map lti)] = .ok OUT := so
  have h : forL _ B [2, 3] [] IT _ = R.ok (.nx, [some DD, some (.lst ((foundI ns).map lti)), none, none, none]) := h
  generalize (foundI ns).map lti = FD at *
  simp [e_fnP, it, zi, h, so, shAt, szOk_of]
end H

set_option Elab.async false
set_option linter.all false
set_option maxRecDepth 100000
namespace H
open PySem PySem.Spec PyProof.Rows L2 Y
end H

set_option Elab.async false
set_option linter.all false
set_option maxRecDepth 100000
namespace H
open PySem PySem.Spec PyProof.Rows L2 Y
theorem dens_of_ok {ns : List RuleT} (g : GoodNet ns) (hm : ns.length ≤ 19) (hp : 0 < ns.length) : C.g_dens_of [dNet ns] = .ok (.fr (llti (densI ns))) := by
  have a := reached_ok g hm hp
  have b := dens_among_ok (ns := ns) hm
  simp only [C.g_dens_of, C.m_dens_of]
  generalize dicR ns (stands ns.length) = DD at *
  simp [e_fnP, a, b]
end H

set_option Elab.async false
set_option linter.all false
set_option maxRecDepth 100000
namespace H
open PySem PySem.Spec PyProof.Rows L2 Y
end H

set_option Elab.async false
set_option linter.all false
set_option maxRecDepth 100000
namespace H
open PySem PySem.Spec PyProof.Rows L2 Y
theorem dens_mem {ns : List RuleT} {S : List (List Int)} (h : S ∈ densI ns) : ∃ st, IsSt ns.length st ∧ S = Rs ns st ∧ st ∈ S ∧ denB ns st = true ∧ S.headD [] = st := by
  have h := (sortF_perm (F := foundI ns)).mem_iff.mp h
  unfold foundI at h
  obtain ⟨st, h1, rfl⟩ := List.mem_map.mp h
  obtain ⟨h1, h2⟩ := List.mem_filter.mp h1
  unfold selB at h2
  rw [Bool.and_eq_true, decide_eq_true_eq] at h2
  exact ⟨st, stands_st h1, rfl, Rs_self (stands_st h1), h2.2, h2.1⟩
theorem dens_nd {ns : List RuleT} : (densI ns).Nodup := (sortF_perm (F := foundI ns)).nodup_iff.mpr found_nd
theorem dens_len {ns : List RuleT} : (densI ns).length ≤ 2 ^ ns.length := by
  unfold densI
  rw [(sortF_perm (F := foundI ns)).length_eq]
  unfold foundI
  rw [List.length_map]
  refine Nat.le_trans (List.length_filter_le _ _) ?_
  rw [stands_len]
  exact Nat.le_refl _
end H

set_option Elab.async false
set_option linter.all false
set_option maxRecDepth 100000
namespace H
open PySem PySem.Spec PyProof.Rows L2 Y
end H

set_option Elab.async false
set_option linter.all false
set_option maxRecDepth 100000
namespace H
open PySem PySem.Spec PyProof.Rows L2 Y
theorem nin_ints {x : Int} {xs : List Int} : ninD (.int x) (.lst (xs.map D.int)) = .ok (.bl (!decide (x ∈ xs))) := by
  have c1 : dOk (.int x) = true := dOk_fit (n := 1) fit_int
  have c2 : dOk (.lst (xs.map D.int)) = true := dOk_fit (n := 1) fit_lstI
  have e : ((xs.map D.int).any fun z => eqP z (.int x)) = decide (x ∈ xs) := by
    rw [List.any_map, Bool.eq_iff_iff, List.any_eq_true, decide_eq_true_eq]
    constructor
    · rintro ⟨y, hy, h⟩
      have : eqP (.int y) (.int x) = true := h
      rw [eqP_int, beq_iff_eq] at this
      rw [← this]; exact hy
    · intro h
      exact ⟨x, h, by show eqP (.int x) (.int x) = true; rw [eqP_int]; simp⟩
  show (match (if (dOk (.int x) && dOk (.lst (xs.map D.int))) = true then some ((xs.map D.int).any fun z => eqP z (.int x)) else none) with | some b => R.ok (D.bl (!b)) | none => .stk) = _
  rw [c1, c2, e]
  rfl
end H

set_option Elab.async false
set_option linter.all false
set_option maxRecDepth 100000
namespace H
open PySem PySem.Spec PyProof.Rows L2 Y
structure NetM (m : Nat) (ns : List RuleT) : Prop where
  len : ns.length = m
  rule : ∀ r ∈ ns, RuleOk m r
theorem NetM.good {m : Nat} {ns : List RuleT} (h : NetM m ns) (hm : m ≤ 100) : GoodNet ns where
  sz := by rw [h.len]; exact hm
  ear := fun r hr => by
    have k := h.rule r hr
    refine ⟨by have := k.len; omega, fun e he => ?_, k.tab⟩
    obtain ⟨es, e1, sub⟩ := k.sub
    rw [e1] at he
    obtain ⟨j, hj, rfl⟩ := List.mem_map.mp he
    have := List.mem_range.mp (sub.subset hj)
    rw [h.len]
    omega
theorem NetM.at {m k : Nat} {ns : List RuleT} (h : NetM m ns) (hk : k < m) : RuleOk m (ns.getD k ([], [])) := by
  rw [List.getD_eq_getElem?_getD, List.getElem?_eq_getElem (by rw [h.len]; exact hk)]
  exact h.rule _ (List.getElem_mem _)
theorem NetM.bit {m k : Nat} {ns : List RuleT} {st : List Int} (h : NetM m ns) (hk : k < m) : oughtI ns st k = 0 ∨ oughtI ns st k = 1 := by
  have := getD_bit (h.at hk).bit (placeI ((ns.getD k ([], [])).1.map fun e => st.getD e.toNat 0)).toNat
  unfold oughtI tellI
  omega
theorem told_ok {ns : List RuleT} {st : List Int} {k : Nat} (g : GoodNet ns) (hs : IsSt ns.length st) (hk : k < ns.length) : C.g__law_told [dNet ns, ti st, .int k] = .ok (.vl (.int (oughtI ns st k))) := by
  obtain ⟨h1, h2, h3⟩ := g.at hk
  have h5 := read_lt hs (ns.getD k ([], [])).1
  have h6 := atI_mapI (xs := (ns.getD k ([], [])).2) h5.1 (by rw [h3]; exact_mod_cast h5.2)
  have zE : szOk (ns.getD k ([], [])).1.length = true := szOk_of (by omega)
  have na := net_at hk
  have ho : oughtI ns st k = (ns.getD k ([], [])).2.getD (placeI ((ns.getD k ([], [])).1.map fun e => st.getD e.toNat 0)).toNat 0 := rfl
  rw [ho]
  clear ho
  generalize ns.getD k ([], []) = r at *
  obtain ⟨E, Tb⟩ := r
  simp only at h1 h2 h3 h5 h6 zE
  show _ = R.ok (Hd.vl (D.int (Tb.getD (placeI (E.map fun e => st.getD e.toNat 0)).toNat 0)))
  have h4 := for_run (tm := tmName 6) (body := C.b__law_told_1) (vs := [6]) (ws := []) D.int (fun p : Int => [some (dNet ns), some (ti st), some (.int k), some (ti E), some (ti Tb), some (.int p), none]) (fun p e => 2 * p + st.getD e.toNat 0) (fun _ => True) E 0 trivial (fun p e _ he => by
    have := h2 e he
    have ml : mulOk 2 p = true := mulOk_l (by decide)
    refine ⟨trivial, by simp, ?_⟩
    simp only [turnF, C.b__law_told_1]
    simp [atI_mapI this.1 (by rw [hs.len]; exact this.2), ml, -List.getD_eq_getElem?_getD])
  have hf : E.foldl (fun p e => 2 * p + st.getD e.toNat 0) 0 = placeI (E.map fun e => st.getD e.toNat 0) := by rw [placeI, List.foldl_map]
  rw [hf] at h4
  simp only [C.g__law_told, C.m__law_told]
  simp [e_fnP, na, zE, h4.1, h6, -List.getD_eq_getElem?_getD]
inductive Tree where
  | is (i : Int) | look (st : List Int) (k : Nat) (a b : Tree)
abbrev wIs : D := dt [105, 115]
abbrev wLk : D := dt [108, 111, 111, 107]
def Tree.d : Tree → D
  | .is i => .tup [wIs, .int i]
  | .look st k a b => .tup [wLk, ti st, .int k, a.d, b.d]
def Tree.ok (m : Nat) : Tree → Prop
  | .is _ => True
  | .look st k a b => IsSt m st ∧ k < m ∧ a.ok m ∧ b.ok m
theorem i2 {a b : D} : atI [a, b] 0 = some a ∧ atI [a, b] 1 = some b := ⟨atI_of (j := 0) rfl rfl, atI_of (j := 1) rfl rfl⟩
theorem whileN_step {t : BM} {body : SM} {vs : List Nat} {n : Nat} {ρ ρ1 ρ2 : Y.Env} (h1 : t ρ = .ok (true, ρ1)) (h2 : body ρ1 = .ok (.nx, ρ2)) : whileN t body vs (n + 1) ρ = whileN t body vs n (wipeE ρ2 vs) := by
  conv => lhs; unfold whileN
  rw [h1]
  simp only [R.bind_ok, if_true]
  rw [h2]
  rfl
theorem whileN_stop {t : BM} {body : SM} {vs : List Nat} {n : Nat} {ρ ρ1 : Y.Env} (h1 : t ρ = .ok (false, ρ1)) : whileN t body vs (n + 1) ρ = .ok (.nx, ρ1) := by
  unfold whileN
  rw [h1]
  rfl
end H

set_option Elab.async false
set_option linter.all false
set_option maxRecDepth 100000
namespace H
open PySem PySem.Spec PyProof.Rows L2 Y
end H

set_option Elab.async false
set_option linter.all false
set_option maxRecDepth 100000
namespace H
open PySem PySem.Spec PyProof.Rows L2 Y
end H

set_option Elab.async false
set_option linter.all false
set_option maxRecDepth 100000
namespace H
open PySem PySem.Spec PyProof.Rows L2 Y
section
variable {ns : List RuleT} {o : List (List Nat)}
end
end H

set_option Elab.async false
set_option linter.all false
set_option maxRecDepth 100000
namespace H
open PySem PySem.Spec PyProof.Rows L2 Y
theorem ups_ints {m : Int} : ∀ {xs : List D}, xs.all (upB m) = true → ∃ is : List Int, xs = is.map D.int ∧ is.all (fun x => decide (0 ≤ x ∧ x < m)) = true
  | [], _ => ⟨[], rfl, rfl⟩
  | x :: xs, h => by
    rw [List.all_cons, Bool.and_eq_true] at h
    obtain ⟨is, e, h2⟩ := ups_ints h.2
    cases x with
    | int i => exact ⟨i :: is, by rw [e]; rfl, by rw [List.all_cons, h2, Bool.and_true]; exact h.1⟩
    | _ => exact absurd h.1 (by simp [upB])
theorem ups_of {m : Int} {is : List Int} : (is.map D.int).all (upB m) = is.all (fun x => decide (0 ≤ x ∧ x < m)) := by rw [List.all_map]; rfl
def rgI (n : Nat) : List Int := (List.range n).map fun k : Nat => (k : Int)
end H

set_option Elab.async false
set_option linter.all false
set_option maxRecDepth 100000
namespace H
open PySem PySem.Spec PyProof.Rows L2 Y
end H

set_option Elab.async false
set_option linter.all false
set_option maxRecDepth 100000
namespace H
open PySem PySem.Spec PyProof.Rows L2 Y
theorem in_li {x : Int} {xs : List Int} : inD (.int x) (li xs) = .ok (.bl (decide (x ∈ xs))) := by
  have c1 : dOk (.int x) = true := dOk_fit (n := 1) fit_int
  have c2 : dOk (.lst (xs.map D.int)) = true := dOk_fit (n := 1) fit_lstI
  have e : ((xs.map D.int).any fun z => eqP z (.int x)) = decide (x ∈ xs) := by
    rw [List.any_map, Bool.eq_iff_iff, List.any_eq_true, decide_eq_true_eq]
    constructor
    · rintro ⟨y, hy, h⟩
      have h : eqP (.int y) (.int x) = true := h
      rw [eqP_int, beq_iff_eq] at h
      exact h ▸ hy
    · exact fun h => ⟨x, h, by show eqP (.int x) (.int x) = true; rw [eqP_int]; simp⟩
  show (match (if (dOk (.int x) && dOk (.lst (xs.map D.int))) = true then some ((xs.map D.int).any fun z => eqP z (.int x)) else none) with | some b => R.ok (D.bl b) | none => .stk) = _
  rw [c1, c2, e]
  rfl
end H

set_option Elab.async false
set_option linter.all false
set_option maxRecDepth 100000
namespace H
open PySem PySem.Spec PyProof.Rows L2 Y
theorem RuleOk.up {m k : Nat} {r : RuleT} (h : RuleOk k r) (hk : k ≤ m) : RuleOk m r := ⟨h.len, let ⟨es, e, s⟩ := h.sub; ⟨es, e, s.trans (by
  obtain ⟨d, rfl⟩ : ∃ d, m = k + d := ⟨m - k, by omega⟩
  rw [List.range_add]
  exact List.sublist_append_left _ _)⟩, h.tab, h.bit⟩
theorem RuleOk.nats {m : Nat} {r : RuleT} (h : RuleOk m r) : ∃ es : List Nat, r.1 = es.map (fun j : Nat => (j : Int)) ∧ es.Nodup ∧ ∀ x ∈ es, x < m := by
  obtain ⟨es, e, s⟩ := h.sub
  exact ⟨es, e, s.nodup List.nodup_range, fun x hx => List.mem_range.mp (s.subset hx)⟩
def mirI (m : Nat) (r : RuleT) : RuleT := (sortI (r.1.map fun e => (m : Int) - 1 - e), r.2)
theorem mir_ok {m : Nat} {r : RuleT} (h : RuleOk m r) : RuleOk m (mirI m r) := by
  obtain ⟨es, e, nd, lt⟩ := h.nats
  have e2 : (r.1.map fun e => (m : Int) - 1 - e) = (es.map fun k => m - 1 - k).map fun k : Nat => (k : Int) := by
    rw [e, List.map_map, List.map_map]
    exact List.map_congr_left fun k hk => by
      have := lt k hk
      show (m : Int) - 1 - (k : Nat) = ((m - 1 - k : Nat) : Int)
      omega
  have nd2 : (es.map fun k => m - 1 - k).Nodup := by
    refine List.pairwise_map.mpr (List.Pairwise.imp_of_mem (fun {a b} ha hb hne z => hne ?_) nd)
    have := lt a ha
    have := lt b hb
    omega
  obtain ⟨fs, h1, h2, h3⟩ := sort_sub nd2 (m := m) fun x hx => by
    obtain ⟨k, hk, rfl⟩ := List.mem_map.mp hx
    have := lt k hk
    omega
  have hl : r.1.length = es.length := by rw [e, List.length_map]
  have hf : fs.length = es.length := by rw [h3, List.length_map]
  have s1 : (mirI m r).1 = fs.map fun k : Nat => (k : Int) := by
    show sortI _ = _
    rw [e2, h1]
  refine ⟨?_, ⟨fs, s1, h2⟩, ?_, h.bit⟩
  · rw [s1, List.length_map, hf, ← hl]; exact h.len
  · show r.2.length = _
    rw [s1, List.length_map, hf, ← hl]; exact h.tab
theorem drawn2_ok {n : Int} {most : Nat} (h0 : 1 ≤ most) (h1 : most ≤ 20) : ∃ (ns : List RuleT) (n' : Int), C.g__law_drawn [.lst [.int n], .int most] = .ok (.fr (dNet ns), [some (.lst [.int n']), none]) ∧ NetOk ns most := by
  have tk := take2_ok (n := n) (m := most) (by omega) (by omega)
  obtain ⟨M, hM⟩ : ∃ M : Nat, 1 + n % (most : Int) = M := ⟨(1 + n % (most : Int)).toNat, by have := Int.emod_nonneg n (b := (most : Int)) (by omega); omega⟩
  have hM1 : 1 ≤ M ∧ M ≤ most := by
    have := Int.emod_nonneg n (b := (most : Int)) (by omega)
    have := Int.emod_lt_of_pos n (b := (most : Int)) (by omega)
    omega
  have tk4 := take2_ok (n := n / most) (m := 4) (by omega) (by omega)
  have rM : rngOk M = true := rngOk_of (by omega) (by omega)
  have zM : szOk M = true := szOk_of (by omega)
  generalize hw : n / (most : Int) % 4 = w at tk4
  generalize n / (most : Int) / 4 = b0 at tk4
  by_cases w1 : 1 < w
  · obtain ⟨ns, n2, e, hl, hr⟩ := comp_ex (tm := tmName 5) (t := cYes) (e := C.e__law_drawn_1) (vs := [5]) (ws := []) (fun j : Nat => D.int (j : Nat)) dRule (fun b : Int => [some (.lst [.int b]), some (.int most), some (.int M), some (.int w), none, none, none, none, none]) (RuleOk M) (List.range M) b0 (fun b j hj => by
      obtain ⟨r, b2, e, hr⟩ := rule2_any (n := b) (m := M) (by omega)
      refine ⟨r, b2, ?_, hr, by simp⟩
      simp only [turnC, C.e__law_drawn_1]
      simp [e])
    rw [List.length_range] at hl
    refine ⟨ns, n2, ?_, ⟨by omega, by omega, by rw [hl]; exact hr⟩⟩
    simp only [C.g__law_drawn, C.m__law_drawn]
    simp [e_fnD, tk, tk4, hM, rM, zM, e, w1]
  · obtain ⟨ns, n2, e, hl, hr⟩ := comp_ex (tm := tmName 5) (t := cYes) (e := C.e__law_drawn_2) (vs := [5]) (ws := []) (fun j : Nat => D.int (j : Nat)) dRule (fun b : Int => [some (.lst [.int b]), some (.int most), some (.int M), some (.int w), none, none, none, none, none]) (RuleOk M) (List.range M) b0 (fun b j hj => by
      have hj := List.mem_range.mp hj
      obtain ⟨r, b2, e, hr⟩ := rule2_any (n := b) (m := j) (by omega)
      refine ⟨r, b2, ?_, hr.up (by omega), by simp⟩
      simp only [turnC, C.e__law_drawn_2]
      simp [e])
    rw [List.length_range] at hl
    by_cases w2 : w = 1
    · have e3 : cCompL (tmTup [6, 7]) cYes C.e__law_drawn_4 [6, 7] [] (ns.reverse.map dRule) [some (.lst [.int n2]), some (.int most), some (.int M), some (.int w), some (.lst (ns.map dRule)), none, none, none, none] = .ok (ns.reverse.map fun r => dRule (mirI M r), [some (.lst [.int n2]), some (.int most), some (.int M), some (.int w), some (.lst (ns.map dRule)), none, none, none, none]) :=
        comp_map dRule (fun r => dRule (mirI M r)) ns.reverse fun r hr0 => by
          have ok := hr r (List.mem_reverse.mp hr0)
          have inner := comp_map (tm := tmName 8) (t := cYes) (e := C.e__law_drawn_3) (vs := [8]) (ws := []) (ρ := [some (.lst [.int n2]), some (.int most), some (.int M), some (.int w), some (.lst (ns.map dRule)), none, some (ti r.1), some (ti r.2), none]) D.int (fun e => D.int ((M : Int) - 1 - e)) r.1 fun x hx => by
            simp only [turnC, C.e__law_drawn_3]
            simp
          have em : (r.1.map fun e => D.int ((M : Int) - 1 - e)) = (r.1.map fun e => (M : Int) - 1 - e).map D.int := by rw [List.map_map]; rfl
          rw [em] at inner
          have sd := d_sortN (xs := r.1.map fun e => (M : Int) - 1 - e)
          have zr : szOk r.1.length = true := szOk_of (by have := ok.len; omega)
          simp only [turnC, C.e__law_drawn_4]
          unfold mirI
          have lr := ok.len
          clear em
          generalize (r.1.map fun e => (M : Int) - 1 - e) = X at *
          simp [inner, sd, zr]
      have rv : revD (.lst (ns.map dRule)) = .ok (.lst (ns.reverse.map dRule)) := by rw [List.map_reverse]; rfl
      have zn : szOk ns.length = true := szOk_of (by omega)
      refine ⟨ns.reverse.map (mirI M), n2, ?_, ⟨by simp; omega, by simp; omega, fun r hr0 => ?_⟩⟩
      · subst w2
        have em : ((ns.reverse.map (mirI M)).map dRule) = ns.reverse.map fun r => dRule (mirI M r) := by rw [List.map_map]; rfl
        have lr : (ns.reverse.map dRule).length = ns.length := by simp
        have lr2 : (ns.reverse.map fun r => dRule (mirI M r)).length = ns.length := by simp
        show _ = R.ok (Hd.fr (.tup ((ns.reverse.map (mirI M)).map dRule)), _)
        rw [em]
        clear em
        generalize (ns.reverse.map fun r => dRule (mirI M r)) = R2 at *
        generalize ns.reverse.map dRule = R1 at *
        rw [← lr] at zn
        have zn2 : szOk R2.length = true := by rw [lr2, ← lr]; exact zn
        simp only [C.g__law_drawn, C.m__law_drawn]
        simp [e_fnD, tk, tk4, hM, rM, zM, e, rv, e3, zn, zn2, -d_revL]
      · obtain ⟨r', h', rfl⟩ := List.mem_map.mp hr0
        rw [List.length_map, List.length_reverse, hl]
        exact mir_ok (hr r' (List.mem_reverse.mp h'))
    · refine ⟨ns, n2, ?_, ⟨by omega, by omega, by rw [hl]; exact hr⟩⟩
      simp only [C.g__law_drawn, C.m__law_drawn]
      simp [e_fnD, tk, tk4, hM, rM, zM, e, w1, w2]
end H

set_option Elab.async false
set_option linter.all false
set_option maxRecDepth 100000
namespace H
open PySem PySem.Spec PyProof.Rows L2 Y
/-- a reading is that of some stand -/
theorem real_stand {es : List Nat} {m : Nat} {rd : List Int} (nd : es.Nodup) (hr : IsSt es.length rd) (lt : ∀ x ∈ es, x < m) : ∃ st, IsSt m st ∧ es.map (fun e => st.getD e 0) = rd := by
  refine ⟨(List.range m).map fun j => if j ∈ es then rd.getD (es.idxOf j) 0 else 0, ⟨by simp, fun x hx => ?_⟩, ?_⟩
  · obtain ⟨j, _, rfl⟩ := List.mem_map.mp hx
    split
    · exact hr.get _
    · omega
  · refine List.ext_getElem (by rw [List.length_map, hr.len]) fun i h1 h2 => ?_
    rw [List.length_map] at h1
    rw [List.getElem_map, List.getD_eq_getElem?_getD, List.getElem?_map, List.getElem?_range (lt _ (List.getElem_mem h1))]
    have := nd.idxOf_getElem i h1
    simp [this, List.getElem_mem h1, List.getD_eq_getElem?_getD, List.getElem?_eq_getElem h2]
theorem with_get {st : List Int} {k j : Nat} {b : Int} (hk : k < st.length) : (withI st k b).getD j 0 = if j = k then b else st.getD j 0 := by
  have l1 : (st.take k).length = k := by rw [List.length_take]; omega
  unfold withI
  rw [List.getD_eq_getElem?_getD, List.getD_eq_getElem?_getD]
  by_cases c : j = k
  · subst c
    rw [if_pos rfl, List.getElem?_append_right (by omega), l1, Nat.sub_self]
    rfl
  · rw [if_neg c]
    by_cases d : j < k
    · rw [List.getElem?_append_left (by omega), List.getElem?_take_of_lt d]
    · rw [List.getElem?_append_right (by omega), l1, show j - k = (j - k - 1) + 1 by omega, List.getElem?_cons_succ, List.getElem?_drop, show k + 1 + (j - k - 1) = j by omega]
theorem with_len {st : List Int} {k : Nat} {b : Int} (hk : k < st.length) : (withI st k b).length = st.length := by
  unfold withI
  rw [List.length_append, List.length_cons, List.length_take, List.length_drop]
  omega
theorem with_st {m k : Nat} {st : List Int} {b : Int} (h : IsSt m st) (hk : k < m) (hb : 0 ≤ b ∧ b < 2) : IsSt m (withI st k b) := by
  refine ⟨by rw [with_len (by rw [h.len]; exact hk), h.len], fun x hx => ?_⟩
  unfold withI at hx
  rcases List.mem_append.mp hx with hx | hx
  · exact h.bit x (List.mem_of_mem_take hx)
  · rcases List.mem_cons.mp hx with rfl | hx
    · exact hb
    · exact h.bit x (List.mem_of_mem_drop hx)
theorem getD_ext {a b : List Int} (hl : a.length = b.length) (h : ∀ j, j < a.length → a.getD j 0 = b.getD j 0) : a = b := List.ext_getElem hl fun i h1 h2 => by
  have := h i h1
  rwa [List.getD_eq_getElem?_getD, List.getD_eq_getElem?_getD, List.getElem?_eq_getElem h1, List.getElem?_eq_getElem h2] at this
/-- what a rule reads of a stand with one switch put: the reading with its place put -/
theorem read_with {es : List Nat} {st : List Int} {i : Nat} {b : Int} (nd : es.Nodup) (hi : i < es.length) (hl : es[i] < st.length) : es.map (fun e => (withI st es[i] b).getD e 0) = withI (es.map fun e => st.getD e 0) i b := by
  refine getD_ext (by rw [with_len (by simpa using hi)]; simp) fun j hj => ?_
  rw [List.length_map] at hj
  rw [with_get (by simpa using hi), List.getD_eq_getElem?_getD, List.getElem?_map, List.getElem?_eq_getElem hj]
  show (withI st es[i] b).getD es[j] 0 = _
  rw [with_get hl]
  by_cases c : j = i
  · subst c; rw [if_pos rfl, if_pos rfl]
  · have n : ¬ es[j] = es[i] := fun z => c (by rw [← nd.idxOf_getElem j hj, z, nd.idxOf_getElem i hi])
    rw [if_neg n, if_neg c, List.getD_eq_getElem?_getD, List.getD_eq_getElem?_getD, List.getElem?_map, List.getElem?_eq_getElem hj]
    simp [List.getD_eq_getElem?_getD]
theorem read_off {es : List Nat} {st : List Int} {j : Nat} {b : Int} (hj : j ∉ es) (hl : j < st.length) : es.map (fun e => (withI st j b).getD e 0) = es.map fun e => st.getD e 0 := List.map_congr_left fun e he => by
  rw [with_get hl, if_neg fun z => hj (by rw [← z]; exact he)]
def addU (acc : List Int) (x : Int) : List Int := if x ≠ 0 ∧ x ∉ acc then acc ++ [x] else acc
theorem addU_mem {xs acc : List Int} {s : Int} : s ∈ xs.foldl addU acc ↔ s ∈ acc ∨ (s ∈ xs ∧ s ≠ 0) := by
  induction xs generalizing acc with
  | nil => simp
  | cons x xs ih =>
    rw [List.foldl_cons, ih]
    unfold addU
    by_cases c : x ≠ 0 ∧ x ∉ acc
    · rw [if_pos c]
      simp only [List.mem_append, List.mem_singleton, List.mem_cons, List.not_mem_nil, or_false]
      constructor
      · rintro ((h | rfl) | h)
        · exact .inl h
        · exact .inr ⟨.inl rfl, c.1⟩
        · exact .inr ⟨.inr h.1, h.2⟩
      · rintro (h | ⟨rfl | h, h2⟩)
        · exact .inl (.inl h)
        · exact .inl (.inr rfl)
        · exact .inr ⟨h, h2⟩
    · rw [if_neg c]
      simp only [List.mem_cons]
      constructor
      · rintro (h | h)
        · exact .inl h
        · exact .inr ⟨.inr h.1, h.2⟩
      · rintro (h | ⟨rfl | h, h2⟩)
        · exact .inl h
        · exact .inl (Classical.byContradiction fun z => c ⟨h2, z⟩)
        · exact .inr ⟨h, h2⟩
theorem addU_nd {xs acc : List Int} (h : acc.Nodup) : (xs.foldl addU acc).Nodup := by
  induction xs generalizing acc with
  | nil => exact h
  | cons x xs ih =>
    rw [List.foldl_cons]
    refine ih ?_
    unfold addU
    by_cases c : x ≠ 0 ∧ x ∉ acc
    · rw [if_pos c]
      exact List.nodup_append.mpr ⟨h, by simp, fun a ha b hb z => by
        rw [List.mem_singleton] at hb
        exact c.2 (by rw [← hb, ← z]; exact ha)⟩
    · rw [if_neg c]; exact h
theorem addU_len {xs acc : List Int} : (xs.foldl addU acc).length ≤ acc.length + xs.length := by
  induction xs generalizing acc with
  | nil => simp
  | cons x xs ih =>
    rw [List.foldl_cons]
    refine Nat.le_trans ih ?_
    unfold addU
    split
    · rw [List.length_append, List.length_cons, List.length_cons]; simp; omega
    · rw [List.length_cons]; omega
def diffI (r : RuleT) (k : Nat) (rd : List Int) : Int := tolI r (withI rd k 1) - tolI r (withI rd k 0)
def signsI (r : RuleT) (k : Nat) : List Int := ((stands r.1.length).map (diffI r k)).foldl addU []
theorem addU_diff {r : RuleT} {k : Nat} {rd acc : List Int} : addU acc (diffI r k rd) = if tolI r (withI rd k 0) ≠ tolI r (withI rd k 1) ∧ diffI r k rd ∉ acc then acc ++ [diffI r k rd] else acc := by
  unfold addU
  have : diffI r k rd ≠ 0 ↔ tolI r (withI rd k 0) ≠ tolI r (withI rd k 1) := by unfold diffI; omega
  by_cases c : diffI r k rd ≠ 0
  · have := this.mp c
    simp [c, this]
  · have t2 : tolI r (withI rd k 0) = tolI r (withI rd k 1) := Classical.byContradiction fun z => c (this.mpr z)
    simp [t2] at c ⊢
    simp [c]
theorem signs_at_ok {r : RuleT} {k : Nat} (h : RuleLk r) (hk : k < r.1.length) : C.g_signs_at [dRule r, .int k] = .ok (.fr (.lst ((signsI r k).map D.int))) := by
  have hl := h.len
  have p2 : 2 ^ r.1.length ≤ 2 ^ 8 := Nat.pow_le_pow_right (by omega) hl
  have sl := stands_len r.1.length
  have so := stands_of_ok (m := r.1.length) (by omega)
  have run := for_run (tm := tmName 3) (body := C.b_signs_at_1) (vs := [3, 4, 5]) (ws := []) ti (fun acc : List Int => [some (dRule r), some (.int k), some (.lst (acc.map D.int)), none, none, none]) (fun acc rd => addU acc (diffI r k rd)) (fun acc => acc.Nodup ∧ ∀ x ∈ acc, x = 1 ∨ x = -1) (stands r.1.length) [] ⟨by simp, by simp⟩ (fun acc rd ⟨nd, hx⟩ hrd => by
    have hs := stands_st hrd
    have w0 := with_bit_ok (st := rd) (k := k) (b := 0) (by rw [hs.len]; omega)
    have w1 := with_bit_ok (st := rd) (k := k) (b := 1) (by rw [hs.len]; omega)
    have t0 := told_at_ok h (with_st hs hk (b := 0) (by omega))
    have t1 := told_at_ok h (with_st hs hk (b := 1) (by omega))
    have b0 := tol_bit (st := withI rd k 0) h
    have b1 := tol_bit (st := withI rd k 1) h
    have nn := nin_ints (x := diffI r k rd) (xs := acc)
    have al : acc.length ≤ 2 := nodup_len (B := [1, -1]) nd fun x hx' => by simpa using hx x hx'
    have zl : szOk (acc.length + 1) = true := szOk_of (by omega)
    have dd : diffI r k rd = tolI r (withI rd k 1) - tolI r (withI rd k 0) := rfl
    refine ⟨⟨addU_nd (xs := [diffI r k rd]) nd, fun x hx' => ?_⟩, by simp, ?_⟩
    · rcases (addU_mem (xs := [diffI r k rd])).mp hx' with q | ⟨q, q2⟩
      · exact hx x q
      · rw [List.mem_singleton] at q
        omega
    · rw [addU_diff]
      simp only [turnF, C.b_signs_at_1]
      rw [dd] at nn ⊢
      generalize withI rd k 0 = r0 at *
      generalize withI rd k 1 = r1 at *
      generalize tolI r r0 = v0 at *
      generalize tolI r r1 = v1 at *
      by_cases c : v0 = v1
      · subst c
        simp [w0, w1, t0, t1]
      · by_cases c2 : v1 - v0 ∈ acc
        · simp [w0, w1, t0, t1, c, c2, nn]
        · simp [w0, w1, t0, t1, c, c2, nn, zl])
  have e : (stands r.1.length).foldl (fun acc rd => addU acc (diffI r k rd)) [] = signsI r k := by
    unfold signsI
    rw [List.foldl_map]
  rw [e] at run
  have run := run.1
  have a1 : atI [ti r.1, ti r.2] 0 = some (ti r.1) := rfl
  have zs : szOk (stands r.1.length).length = true := szOk_of (by omega)
  have run : forL (tmName 3) C.b_signs_at_1 [3, 4, 5] [] ((stands r.1.length).map ti) [some (dRule r), some (.int k), some (.lst []), none, none, none] = _ := run
  simp only [C.g_signs_at, C.m_signs_at]
  generalize C.b_signs_at_1 = B at run ⊢
  simp [e_fnP, ixD, a1, so, itD, zs, run]
theorem signs_mem {r : RuleT} {k : Nat} {s : Int} : s ∈ signsI r k ↔ s ≠ 0 ∧ ∃ rd, IsSt r.1.length rd ∧ diffI r k rd = s := by
  unfold signsI
  rw [addU_mem, List.mem_map]
  constructor
  · rintro (q | ⟨⟨rd, h1, h2⟩, h3⟩)
    · cases q
    · exact ⟨h3, rd, stands_st h1, h2⟩
  · rintro ⟨h3, rd, h1, h2⟩
    exact .inr ⟨⟨rd, mem_stands.mpr h1, h2⟩, h3⟩
theorem signs_len {r : RuleT} {k : Nat} : (signsI r k).length ≤ 2 ^ r.1.length := by
  unfold signsI
  have := addU_len (xs := (stands r.1.length).map (diffI r k)) (acc := [])
  rw [List.length_map, stands_len] at this
  simpa using this
theorem fold_mem {α β : Type} {step : List β → α → List β} {P : α → β → Prop} (h : ∀ L x t, t ∈ step L x ↔ t ∈ L ∨ P x t) : ∀ (xs : List α) (L : List β) (t : β), t ∈ xs.foldl step L ↔ t ∈ L ∨ ∃ x ∈ xs, P x t
  | [], L, t => by simp
  | x :: xs, L, t => by
    rw [List.foldl_cons, fold_mem h xs, h]
    simp only [List.mem_cons]
    constructor
    · rintro ((q | q) | ⟨y, h1, h2⟩)
      · exact .inl q
      · exact .inr ⟨x, .inl rfl, q⟩
      · exact .inr ⟨y, .inr h1, h2⟩
    · rintro (q | ⟨y, rfl | h1, h2⟩)
      · exact .inl (.inl q)
      · exact .inl (.inr h2)
      · exact .inr ⟨y, h1, h2⟩
theorem flat_len {α β : Type} {f : α → List β} {c : Nat} : ∀ {xs : List α}, (∀ x ∈ xs, (f x).length ≤ c) → (xs.flatMap f).length ≤ xs.length * c
  | [], _ => by simp
  | x :: xs, h => by
    rw [List.flatMap_cons, List.length_append, List.length_cons, Nat.succ_mul]
    have := h x (by simp)
    have := flat_len (xs := xs) fun y hy => h y (by simp [hy])
    omega
theorem flat_range {β : Type} {f : Nat → List β} {i : Nat} : (List.range (i + 1)).flatMap f = (List.range i).flatMap f ++ f i := by
  rw [List.range_succ, List.flatMap_append]; simp
theorem sortL_congr {A B : List (List Int)} (p : A.Perm B) : sortL A = sortL B := sortL_of ((sortL_perm A).trans p) (sortL_pw A)
theorem sortD_lti {L : List (List Int)} (h : ∀ x ∈ L, x ≠ []) : sortD [lti L] = .ok (lti (sortL L)) := by
  cases L with
  | nil =>
    have := d_sortN (xs := [])
    rw [List.map_nil] at this
    exact this.trans (by simp [sortI, sortL])
  | cons x xs =>
    refine sortD_tups ?_
    unfold sortOk
    rw [Bool.or_eq_true]
    refine .inr (List.all_eq_true.mpr fun y hy => ?_)
    have := h y hy
    cases y with
    | nil => exact absurd rfl this
    | cons => rfl
theorem for_enum {α : Type} {tm : GM} {body : SM} {vs ws : List Nat} (f : α → D) (xs : List α) (rho : Nat → Y.Env) (h : ∀ i (hi : i < xs.length), (∀ w ∈ ws, (rho (i + 1))[w]? = (rho i)[w]?) ∧ turnF tm body vs (.tup [.int (i : Nat), f xs[i]]) (rho i) = .ok (.nx, rho (i + 1))) :
    forL tm body vs ws (numD (xs.map f)) (rho 0) = .ok (.nx, rho xs.length) := by
  rw [numD_map]
  have := for_idx (tm := tm) (body := body) (vs := vs) (ws := ws) (fun p : Nat × α => D.tup [.int (p.1 : Nat), f p.2]) ((List.range xs.length).zip xs) rho fun i hi => by
    rw [List.length_zip, List.length_range, Nat.min_self] at hi
    rw [List.getElem_zip, List.getElem_range]
    exact h i hi
  rwa [List.length_zip, List.length_range, Nat.min_self] at this
def wAt (sw : Nat) (r : RuleT) (k : Nat) : List (List Int) := (signsI r k).map fun s => [r.1.getD k 0, (sw : Int), s]
def wRule (sw : Nat) (r : RuleT) : List (List Int) := (List.range r.1.length).flatMap (wAt sw r)
def wiresL (ns : List RuleT) : List (List Int) := (List.range ns.length).flatMap fun sw => wRule sw (ns.getD sw ([], []))
def wiresI (ns : List RuleT) : List (List Int) := sortL (wiresL ns)
theorem wAt_len {sw k : Nat} {r : RuleT} (h : RuleLk r) : (wAt sw r k).length ≤ 256 := by
  unfold wAt
  rw [List.length_map]
  exact Nat.le_trans signs_len (Nat.pow_le_pow_right (n := 2) (by omega) h.len)
theorem wRule_len {sw : Nat} {r : RuleT} (h : RuleLk r) : (wRule sw r).length ≤ 2048 := by
  unfold wRule
  have := flat_len (xs := List.range r.1.length) (f := wAt sw r) (c := 256) fun k _ => wAt_len h
  rw [List.length_range] at this
  have := h.len
  omega
theorem NetOk.lkAt {ns : List RuleT} {most k : Nat} (h : NetOk ns most) (hk : k < ns.length) : RuleOk ns.length (ns.getD k ([], [])) := by
  rw [List.getD_eq_getElem?_getD, List.getElem?_eq_getElem hk]
  exact h.rule _ (List.getElem_mem hk)
theorem wires_of_ok {ns : List RuleT} {most : Nat} (h : NetOk ns most) (hm : most ≤ 20) : C.g_wires_of [dNet ns] = .ok (.fr (lti (wiresI ns))) := by
  have hle := h.le
  have inner : ∀ (sw : Nat) (r : RuleT) (acc : List (List Int)), RuleLk r → acc.length ≤ 1000000 → forL (tmTup [4, 5]) C.b_wires_of_1 [4, 5] [] (numD (r.1.map D.int)) [some (dNet ns), some (lti acc), some (.int sw), some (dRule r), none, none, none] = .ok (.nx, [some (dNet ns), some (lti (acc ++ wRule sw r)), some (.int sw), some (dRule r), none, none, none]) := fun sw r acc lk ha => by
    have hl := lk.len
    have := for_enum (tm := tmTup [4, 5]) (body := C.b_wires_of_1) (vs := [4, 5]) (ws := []) D.int r.1 (fun i => [some (dNet ns), some (lti (acc ++ (List.range i).flatMap (wAt sw r))), some (.int sw), some (dRule r), none, none, none]) fun i hi => by
      refine ⟨by simp, ?_⟩
      have sa := signs_at_ok lk hi
      have c1 := comp_map (tm := tmName 6) (t := cYes) (e := C.e_wires_of_1) (vs := [6]) (ws := []) (ρ := [some (dNet ns), some (lti (acc ++ (List.range i).flatMap (wAt sw r))), some (.int sw), some (dRule r), some (.int (i : Nat)), some (.int r.1[i]), none]) D.int (fun s => ti [r.1.getD i 0, (sw : Int), s]) (signsI r i) fun s hs => by
        have e : r.1.getD i 0 = r.1[i] := by rw [List.getD_eq_getElem?_getD, List.getElem?_eq_getElem hi]; rfl
        rw [e]
        simp only [turnC, C.e_wires_of_1]
        simp
      have zl : szOk (signsI r i).length = true := szOk_of (Nat.le_trans signs_len (Nat.le_trans (Nat.pow_le_pow_right (n := 2) (by omega) hl) (by omega)))
      have al : ((List.range i).flatMap (wAt sw r)).length ≤ i * 256 := by
        have := flat_len (xs := List.range i) (f := wAt sw r) (c := 256) fun k _ => wAt_len lk
        rwa [List.length_range] at this
      have wl := wAt_len (sw := sw) (k := i) lk
      have em : (signsI r i).map (fun s => ti [r.1.getD i 0, (sw : Int), s]) = (wAt sw r i).map ti := by unfold wAt; rw [List.map_map]; rfl
      rw [em] at c1
      rw [flat_range, ← List.append_assoc]
      have zz : szOk (((acc ++ (List.range i).flatMap (wAt sw r)).map ti).length + ((wAt sw r i).map ti).length) = true := szOk_of (by
        rw [List.length_map, List.length_map, List.length_append]; omega)
      simp only [turnF, C.b_wires_of_1]
      generalize (acc ++ (List.range i).flatMap (wAt sw r)) = A at *
      generalize wAt sw r i = B at *
      have lA : lti (A ++ B) = .lst (A.map ti ++ B.map ti) := by simp [lti]
      rw [lA]
      have lA2 : lti A = .lst (A.map ti) := rfl
      rw [lA2] at c1 ⊢
      generalize A.map ti = A' at *
      generalize B.map ti = B' at *
      generalize C.e_wires_of_1 = E1 at *
      simp [sa, zl, c1, zz]
    have e0 : acc ++ (List.range 0).flatMap (wAt sw r) = acc := by simp
    rw [e0] at this
    exact this
  have outer := for_enum (tm := tmTup [2, 3]) (body := C.b_wires_of_2) (vs := [2, 3, 4, 5]) (ws := []) dRule ns (fun i => [some (dNet ns), some (lti ((List.range i).flatMap fun sw => wRule sw (ns.getD sw ([], [])))), none, none, none, none, none]) fun i hi => by
    refine ⟨by simp, ?_⟩
    have rk := (h.lkAt hi).lk
    have eg : ns.getD i ([], []) = ns[i] := by rw [List.getD_eq_getElem?_getD, List.getElem?_eq_getElem hi]; rfl
    rw [flat_range, eg]
    rw [eg] at rk
    have al : ((List.range i).flatMap fun sw => wRule sw (ns.getD sw ([], []))).length ≤ i * 2048 := by
      have := flat_len (xs := List.range i) (f := fun sw => wRule sw (ns.getD sw ([], []))) (c := 2048) fun k hk => wRule_len (h.lkAt (Nat.lt_trans (List.mem_range.mp hk) hi)).lk
      rwa [List.length_range] at this
    have inn := inner i ns[i] _ rk (Nat.le_trans al (by omega))
    generalize ((List.range i).flatMap fun sw => wRule sw (ns.getD sw ([], []))) = A at *
    generalize ns[i] = r at *
    have zr : szOk r.1.length = true := szOk_of (by have := rk.len; omega)
    have a1 : atI [ti r.1, ti r.2] 0 = some (ti r.1) := rfl
    simp only [turnF, C.b_wires_of_2]
    generalize lti A = A1 at *
    generalize lti (A ++ wRule i r) = A2 at *
    generalize C.b_wires_of_1 = B at *
    simp [ixD, a1, itD, zr, inn]
  have outer : forL (tmTup [2, 3]) C.b_wires_of_2 [2, 3, 4, 5] [] (numD (ns.map dRule)) [some (dNet ns), some (.lst []), none, none, none, none, none] = .ok (.nx, [some (dNet ns), some (lti (wiresL ns)), none, none, none, none, none]) := outer
  have zn : szOk ns.length = true := szOk_of (by omega)
  have sd := sortD_lti (L := wiresL ns) fun x hx => by
    unfold wiresL at hx
    obtain ⟨sw, _, hx⟩ := List.mem_flatMap.mp hx
    unfold wRule at hx
    obtain ⟨k, _, hx⟩ := List.mem_flatMap.mp hx
    unfold wAt at hx
    obtain ⟨s, _, rfl⟩ := List.mem_map.mp hx
    simp
  simp only [C.g_wires_of, C.m_wires_of]
  unfold wiresI
  generalize lti (wiresL ns) = WL at *
  generalize lti (sortL (wiresL ns)) = SL at *
  generalize C.b_wires_of_2 = B at *
  simp [e_fnP, zn, outer, sd]
def chI (ns : List RuleT) (st : List Int) (j k : Nat) : Int := oughtI ns (withI st j 1) k - oughtI ns st k
def stepW (ns : List RuleT) (st : List Int) (j : Nat) (L : List (List Int)) (k : Nat) : List (List Int) := if chI ns st j k ≠ 0 then addS L [(j : Int), (k : Int), chI ns st j k] else L
def lawL (ns : List RuleT) : List (List Int) := (stands ns.length).foldl (fun L st => (List.range ns.length).foldl (fun L j => (List.range ns.length).foldl (stepW ns st j) L) L) []
theorem addS_nd {L : List (List Int)} {t : List Int} (h : L.Nodup) : (addS L t).Nodup := by
  unfold addS
  by_cases c : t ∈ L
  · rwa [if_pos c]
  · rw [if_neg c]
    exact List.nodup_append.mpr ⟨h, by simp, fun a ha b hb z => by
      rw [List.mem_singleton] at hb
      exact c (by rw [← hb, ← z]; exact ha)⟩
theorem lawL_mem {ns : List RuleT} {t : List Int} : t ∈ lawL ns ↔ ∃ st ∈ stands ns.length, ∃ j ∈ List.range ns.length, ∃ k ∈ List.range ns.length, chI ns st j k ≠ 0 ∧ t = [(j : Int), (k : Int), chI ns st j k] := by
  unfold lawL
  rw [fold_mem (P := fun st t => ∃ j ∈ List.range ns.length, ∃ k ∈ List.range ns.length, chI ns st j k ≠ 0 ∧ t = [(j : Int), (k : Int), chI ns st j k])]
  · simp
  · intro L st t
    rw [fold_mem (P := fun j t => ∃ k ∈ List.range ns.length, chI ns st j k ≠ 0 ∧ t = [(j : Int), (k : Int), chI ns st j k])]
    intro L j t
    rw [fold_mem (P := fun k t => chI ns st j k ≠ 0 ∧ t = [(j : Int), (k : Int), chI ns st j k])]
    intro L k t
    unfold stepW
    by_cases c : chI ns st j k ≠ 0
    · rw [if_pos c, addS_mem]; simp [c]
    · rw [if_neg c]; simp [c]
def WOk (m : Nat) (L : List (List Int)) : Prop := L.Nodup ∧ ∀ t ∈ L, ∃ j k : Nat, j < m ∧ k < m ∧ (t = [(j : Int), (k : Int), 1] ∨ t = [(j : Int), (k : Int), -1])
theorem WOk.len {m : Nat} {L : List (List Int)} (h : WOk m L) : L.length ≤ m * (m * 2) := by
  have := nodup_len (B := (List.range m).flatMap fun j => (List.range m).flatMap fun k => [[((j : Nat) : Int), ((k : Nat) : Int), 1], [(j : Int), (k : Int), -1]]) h.1 fun t ht => by
    obtain ⟨j, k, hj, hk, e⟩ := h.2 t ht
    exact List.mem_flatMap.mpr ⟨j, List.mem_range.mpr hj, List.mem_flatMap.mpr ⟨k, List.mem_range.mpr hk, by simpa using e⟩⟩
  refine Nat.le_trans this ?_
  have a := flat_len (xs := List.range m) (f := fun j => (List.range m).flatMap fun k => [[((j : Nat) : Int), ((k : Nat) : Int), 1], [(j : Int), (k : Int), -1]]) (c := m * 2) fun j _ => by
    have := flat_len (xs := List.range m) (f := fun k => [[((j : Nat) : Int), ((k : Nat) : Int), 1], [(j : Int), (k : Int), -1]]) (c := 2) fun k _ => by simp
    rwa [List.length_range] at this
  rwa [List.length_range] at a
theorem WOk.step {ns : List RuleT} {m : Nat} {st : List Int} {j k : Nat} {L : List (List Int)} (h : WOk m L) (hj : j < m) (hk : k < m) (b : ∀ st, oughtI ns st k = 0 ∨ oughtI ns st k = 1) : WOk m (stepW ns st j L k) := by
  unfold stepW
  by_cases c : chI ns st j k ≠ 0
  · rw [if_pos c]
    refine ⟨addS_nd h.1, fun t ht => ?_⟩
    rcases addS_mem.mp ht with q | q
    · exact h.2 t q
    · refine ⟨j, k, hj, hk, ?_⟩
      have b1 := b (withI st j 1)
      have b2 := b st
      have : chI ns st j k = 1 ∨ chI ns st j k = -1 := by unfold chI at c ⊢; omega
      rcases this with z | z <;> rw [z] at q
      · exact .inl q
      · exact .inr q
  · rw [if_neg c]; exact h
theorem NetOk.bit {ns : List RuleT} {most k : Nat} (h : NetOk ns most) (hk : k < ns.length) (st : List Int) : oughtI ns st k = 0 ∨ oughtI ns st k = 1 := by
  have := getD_bit (h.lkAt hk).bit (placeI ((ns.getD k ([], [])).1.map fun e => st.getD e.toNat 0)).toNat
  have e : oughtI ns st k = (ns.getD k ([], [])).2.getD (placeI ((ns.getD k ([], [])).1.map fun e => st.getD e.toNat 0)).toNat 0 := rfl
  omega
abbrev dTrue (L : List (List Int)) : D := .dit (L.map kt) (L.map fun _ => .bl true)
theorem setD_true {k : List Key} : ∀ {L : List (List Int)}, setD (L.map kt) (L.map fun _ => D.bl true) k (.bl true) = L.map fun _ => D.bl true
  | [] => rfl
  | a :: L => by
    have ih := setD_true (k := k) (L := L)
    rw [List.map_cons, List.map_cons]
    unfold setD
    rw [ih]
    simp
theorem put_true {L : List (List Int)} {t : List Int} (hz : L.length + 1 ≤ 10000000) : putDic (dTrue L) (ti t) (.bl true) = .ok (dTrue (addS L t)) := by
  by_cases c : t ∈ L
  · have n : kt t ∈ L.map kt := List.mem_map.mpr ⟨t, c, rfl⟩
    show (match keysOf (t.map D.int) with | some k => if szOk ((L.map kt).length + 1) = true then R.ok (D.dit (putKs (L.map kt) k) (putDs (L.map kt) _ k _)) else .stk | none => .stk) = _
    rw [keys_ti]
    have z : szOk ((L.map kt).length + 1) = true := szOk_of (by rw [List.length_map]; omega)
    simp only [z, if_true]
    unfold putKs putDs addS
    rw [if_pos n, if_pos n, if_pos c, setD_true]
  · rw [put_kt c hz]
    unfold addS
    rw [if_neg c]
    simp [dTrue]
theorem law_wires_ok {ns : List RuleT} {most : Nat} (h : NetOk ns most) (hm : most ≤ 20) : C.g__law_wires [dNet ns] = .ok (.fr (lti (sortL (lawL ns)))) ∧ WOk ns.length (lawL ns) := by
  have hle := h.le
  have g := h.good (by omega)
  have rn : rngOk ns.length = true := rngOk_of (by omega) (by omega)
  have zn : szOk ns.length = true := szOk_of (by omega)
  have sq : ns.length * (ns.length * 2) ≤ 800 := Nat.le_trans (Nat.mul_le_mul (show ns.length ≤ 20 by omega) (Nat.mul_le_mul (show ns.length ≤ 20 by omega) (Nat.le_refl 2))) (by omega)
  have in1 : ∀ (st : List Int) (j : Nat) (L : List (List Int)), IsSt ns.length st → j < ns.length → WOk ns.length L → forL (tmName 5) C.b__law_wires_1 [5, 6] [] ((List.range ns.length).map fun k : Nat => D.int (k : Nat)) [some (dNet ns), some (dTrue L), some (ti st), some (.int j), some (ti (withI st j 1)), none, none] = .ok (.nx, [some (dNet ns), some (dTrue ((List.range ns.length).foldl (stepW ns st j) L)), some (ti st), some (.int j), some (ti (withI st j 1)), none, none]) ∧ WOk ns.length ((List.range ns.length).foldl (stepW ns st j) L) := fun st j L hs hj hL =>
    for_run (tm := tmName 5) (body := C.b__law_wires_1) (vs := [5, 6]) (ws := []) (fun k : Nat => D.int (k : Nat)) (fun L => [some (dNet ns), some (dTrue L), some (ti st), some (.int j), some (ti (withI st j 1)), none, none]) (stepW ns st j) (WOk ns.length) (List.range ns.length) L hL fun L k hL hk => by
      have hk := List.mem_range.mp hk
      refine ⟨hL.step hj hk (h.bit hk), by simp, ?_⟩
      have t0 := told_ok g hs hk
      have t1 := told_ok g (with_st hs hj (b := 1) (by omega)) hk
      have pt := put_true (L := L) (t := [(j : Int), (k : Int), chI ns st j k]) (by have := hL.len; omega)
      have ec : chI ns st j k = oughtI ns (withI st j 1) k - oughtI ns st k := rfl
      simp only [turnF, C.b__law_wires_1]
      unfold stepW
      rw [ec] at pt ⊢
      generalize oughtI ns (withI st j 1) k = v1 at *
      generalize oughtI ns st k = v0 at *
      have et : ti [(j : Int), (k : Int), v1 - v0] = .tup [.int j, .int k, .int (v1 - v0)] := rfl
      rw [et] at pt
      generalize ti (withI st j 1) = T1 at *
      generalize ti st = T0 at *
      generalize addS L [(j : Int), (k : Int), v1 - v0] = L2 at *
      by_cases c : v1 - v0 = 0
      · have c2 : v1 = v0 := by omega
        subst c2
        simp [t0, t1]
      · rw [if_pos c]
        unfold dTrue at pt ⊢
        generalize L2.map kt = A1 at *
        generalize (L2.map fun _ => D.bl true) = A2 at *
        generalize L.map kt = A3 at *
        generalize (L.map fun _ => D.bl true) = A4 at *
        simp [t0, t1, c, pt]
  have in2 : ∀ (st : List Int) (L : List (List Int)), IsSt ns.length st → WOk ns.length L → forL (tmName 3) C.b__law_wires_2 [3, 4, 5, 6] [] ((List.range ns.length).map fun k : Nat => D.int (k : Nat)) [some (dNet ns), some (dTrue L), some (ti st), none, none, none, none] = .ok (.nx, [some (dNet ns), some (dTrue ((List.range ns.length).foldl (fun L j => (List.range ns.length).foldl (stepW ns st j) L) L)), some (ti st), none, none, none, none]) ∧ WOk ns.length ((List.range ns.length).foldl (fun L j => (List.range ns.length).foldl (stepW ns st j) L) L) := fun st L hs hL =>
    for_run (tm := tmName 3) (body := C.b__law_wires_2) (vs := [3, 4, 5, 6]) (ws := []) (fun k : Nat => D.int (k : Nat)) (fun L => [some (dNet ns), some (dTrue L), some (ti st), none, none, none, none]) (fun L j => (List.range ns.length).foldl (stepW ns st j) L) (WOk ns.length) (List.range ns.length) L hL fun L j hL hj => by
      have hj := List.mem_range.mp hj
      obtain ⟨e1, h1⟩ := in1 st j L hs hj hL
      refine ⟨h1, by simp, ?_⟩
      have l := hs.len
      have c1 : Y.cutD (st.map D.int) none (some (j : Int)) = (st.take j).map D.int := by rw [cut_to, List.map_take]
      have c2 : Y.cutD (st.map D.int) (some ((j : Int) + 1)) none = (st.drop (j + 1)).map D.int := by rw [show ((j : Int) + 1) = ((j + 1 : Nat) : Int) by omega, cut_from, List.map_drop]
      have ew : ti (withI st j 1) = .tup ((st.take j).map D.int ++ .int 1 :: (st.drop (j + 1)).map D.int) := by simp [withI]
      have z1 : szOk (((st.take j).map D.int).length + 1) = true := szOk_of (by rw [List.length_map, List.length_take]; omega)
      have z3 : szOk (((st.take j).map D.int).length + 1 + ((st.drop (j + 1)).map D.int).length) = true := szOk_of (by rw [List.length_map, List.length_map, List.length_take, List.length_drop]; omega)
      have z4 : szOk (((st.take j).map D.int).length + (1 + ((st.drop (j + 1)).map D.int).length)) = true := szOk_of (by rw [List.length_map, List.length_map, List.length_take, List.length_drop]; omega)
      rw [ew] at e1
      simp only [turnF, C.b__law_wires_2]
      generalize (st.take j).map D.int = A at *
      generalize (st.drop (j + 1)).map D.int = B at *
      have zr : szOk ((List.range ns.length).map fun k : Nat => D.int (k : Nat)).length = true := szOk_of (by simp; omega)
      generalize dTrue L = DL at *
      generalize dTrue ((List.range ns.length).foldl (stepW ns st j) L) = DL2 at *
      generalize C.b__law_wires_1 = BB at *
      simp [c1, c2, z1, z3, z4, rn, zn, e1]
  have in3 := for_run (tm := tmName 2) (body := C.b__law_wires_3) (vs := [2, 3, 4, 5, 6]) (ws := []) ti (fun L => [some (dNet ns), some (dTrue L), none, none, none, none, none]) (fun L st => (List.range ns.length).foldl (fun L j => (List.range ns.length).foldl (stepW ns st j) L) L) (WOk ns.length) (stands ns.length) [] ⟨by simp, by simp⟩ fun L st hL hst => by
    have hs := stands_st hst
    obtain ⟨e1, h1⟩ := in2 st L hs hL
    refine ⟨h1, by simp, ?_⟩
    simp only [turnF, C.b__law_wires_3]
    generalize dTrue L = DL at *
    generalize dTrue ((List.range ns.length).foldl (fun L j => (List.range ns.length).foldl (stepW ns st j) L) L) = DL2 at *
    generalize C.b__law_wires_2 = BB at *
    generalize ti st = S at *
    simp [rn, zn, e1]
  obtain ⟨run, wok⟩ := in3
  have wok : WOk ns.length (lawL ns) := wok
  refine ⟨?_, wok⟩
  have rd := readings_ok (m := ns.length) (by omega)
  have sl := stands_len ns.length
  have p2 : 2 ^ ns.length ≤ 1048576 := pow20 (by omega)
  have zs : szOk ((stands ns.length).map ti).length = true := szOk_of (by rw [List.length_map]; omega)
  have run : forL (tmName 2) C.b__law_wires_3 [2, 3, 4, 5, 6] [] ((stands ns.length).map ti) [some (dNet ns), some (.dit [] []), none, none, none, none, none] = .ok (.nx, [some (dNet ns), some (dTrue (lawL ns)), none, none, none, none, none]) := run
  have sd := d_sortDT (ks := lawL ns) (ds := (lawL ns).map fun _ => .bl true)
  have ok : sortOk (lawL ns) = true := by
    unfold sortOk
    rw [Bool.or_eq_true]
    refine .inr (List.all_eq_true.mpr fun y hy => ?_)
    obtain ⟨j, k, _, _, e | e⟩ := wok.2 y hy <;> subst e <;> rfl
  rw [ok, if_pos rfl] at sd
  have sd : sortDD [dTrue (lawL ns)] = .ok (lti (sortL (lawL ns))) := sd
  have rd : C.g__law_readings [.int ns.length] = .ok (.fr (.lst ((stands ns.length).map ti))) := rd
  simp only [C.g__law_wires, C.m__law_wires]
  generalize dTrue (lawL ns) = WL at *
  generalize lti (sortL (lawL ns)) = SL at *
  generalize C.b__law_wires_3 = B at *
  generalize (stands ns.length).map ti = ST at *
  simp [e_fnP, itD, zn, zs, rd, run, sd]
abbrev rdOf (es : List Nat) (st : List Int) : List Int := es.map fun e => st.getD e 0
theorem ought_tol {ns : List RuleT} {k : Nat} {es : List Nat} {st : List Int} (e : (ns.getD k ([], [])).1 = es.map fun j : Nat => (j : Int)) : oughtI ns st k = tolI (ns.getD k ([], [])) (rdOf es st) := by
  show (ns.getD k ([], [])).2.getD (placeI ((ns.getD k ([], [])).1.map fun e => st.getD e.toNat 0)).toNat 0 = _
  rw [e, List.map_map]
  rfl
theorem with_with {rd : List Int} {i : Nat} {a b : Int} (hi : i < rd.length) : withI (withI rd i a) i b = withI rd i b := by
  have l1 := with_len (st := rd) (k := i) (b := a) hi
  refine getD_ext (by rw [with_len (by omega), with_len hi, with_len hi]) fun j hj => ?_
  rw [with_get (st := withI rd i a) (by omega), with_get (st := rd) (b := a) hi, with_get (st := rd) (b := b) hi]
  by_cases c : j = i
  · rw [if_pos c, if_pos c]
  · rw [if_neg c, if_neg c, if_neg c]
theorem rdOf_st {es : List Nat} {m : Nat} {st : List Int} (h : IsSt m st) : IsSt es.length (rdOf es st) := ⟨by simp, fun x hx => by
  obtain ⟨e, _, rfl⟩ := List.mem_map.mp hx
  exact h.get _⟩
theorem wires_mem {ns : List RuleT} {t : List Int} : t ∈ wiresL ns ↔ ∃ sw, sw < ns.length ∧ ∃ i, i < (ns.getD sw ([], [])).1.length ∧ ∃ s ∈ signsI (ns.getD sw ([], [])) i, t = [(ns.getD sw ([], [])).1.getD i 0, (sw : Int), s] := by
  unfold wiresL wRule wAt
  simp only [List.mem_flatMap, List.mem_range, List.mem_map]
  constructor
  · rintro ⟨sw, h1, i, h2, s, h3, rfl⟩; exact ⟨sw, h1, i, h2, s, h3, rfl⟩
  · rintro ⟨sw, h1, i, h2, s, h3, rfl⟩; exact ⟨sw, h1, i, h2, s, h3, rfl⟩
theorem wires_iff {ns : List RuleT} {most : Nat} (h : NetOk ns most) {t : List Int} : t ∈ wiresL ns ↔ t ∈ lawL ns := by
  rw [wires_mem, lawL_mem]
  constructor
  · rintro ⟨sw, hsw, i, hi, s, hs, rfl⟩
    have ok := h.lkAt hsw
    obtain ⟨es, e, nd, lt⟩ := ok.nats
    have el : (ns.getD sw ([], [])).1.length = es.length := by rw [e, List.length_map]
    have hi' : i < es.length := by omega
    obtain ⟨s0, rd, hrd, hd⟩ := signs_mem.mp hs
    rw [el] at hrd
    obtain ⟨st, hst, er⟩ := real_stand (m := ns.length) nd (with_st hrd hi' (b := 0) (by omega)) lt
    have hj : es[i] < ns.length := lt _ (List.getElem_mem hi')
    have c : chI ns st es[i] sw = s := by
      unfold chI
      rw [ought_tol e, ought_tol e]
      have : rdOf es (withI st es[i] 1) = withI rd i 1 := by
        show es.map _ = _
        rw [read_with nd hi' (by rw [hst.len]; exact hj), er, with_with (by rw [hrd.len]; exact hi')]
      rw [this, show rdOf es st = withI rd i 0 from er]
      exact hd
    refine ⟨st, mem_stands.mpr hst, es[i], List.mem_range.mpr hj, sw, List.mem_range.mpr hsw, by rw [c]; exact s0, ?_⟩
    rw [c, e, List.getD_eq_getElem?_getD, List.getElem?_map, List.getElem?_eq_getElem hi']
    rfl
  · rintro ⟨st, hst, j, hj, k, hk, c, rfl⟩
    have hst := mem_stands.mp hst
    have hj := List.mem_range.mp hj
    have hk := List.mem_range.mp hk
    have ok := h.lkAt hk
    obtain ⟨es, e, nd, lt⟩ := ok.nats
    have el : (ns.getD k ([], [])).1.length = es.length := by rw [e, List.length_map]
    have jm : j ∈ es := Classical.byContradiction fun z => c (by
      unfold chI
      rw [ought_tol e, ought_tol e, show rdOf es (withI st j 1) = rdOf es st from read_off z (by rw [hst.len]; exact hj)]
      omega)
    obtain ⟨i, hi, ej⟩ := List.getElem_of_mem jm
    subst ej
    have b0 : st.getD es[i] 0 = 0 := by
      have := hst.get es[i]
      refine Classical.byContradiction fun z => c ?_
      unfold chI
      rw [(with_same (b := 1) (by rw [hst.len]; exact hj)).mpr (by omega)]
      omega
    have hr : IsSt es.length (rdOf es st) := rdOf_st hst
    have w0 : withI (rdOf es st) i 0 = rdOf es st := (with_same (by rw [hr.len]; exact hi)).mpr (by
      rw [List.getD_eq_getElem?_getD, List.getElem?_map, List.getElem?_eq_getElem hi]
      exact b0.symm)
    have cd : chI ns st es[i] k = diffI (ns.getD k ([], [])) i (rdOf es st) := by
      unfold chI diffI
      rw [ought_tol e, ought_tol e, w0]
      congr 2
      exact read_with nd hi (by rw [hst.len]; exact hj)
    refine ⟨k, hk, i, by omega, _, signs_mem.mpr ⟨c, rdOf es st, by rw [el]; exact hr, cd.symm⟩, ?_⟩
    rw [e, List.getD_eq_getElem?_getD, List.getElem?_map, List.getElem?_eq_getElem hi]
    rfl
theorem wires_nd {ns : List RuleT} {most : Nat} (h : NetOk ns most) : (wiresL ns).Nodup := by
  unfold wiresL
  refine List.pairwise_flatMap.mpr ⟨fun sw hsw => ?_, ?_⟩
  · have hsw := List.mem_range.mp hsw
    obtain ⟨es, e, nd, lt⟩ := (h.lkAt hsw).nats
    unfold wRule
    refine List.pairwise_flatMap.mpr ⟨fun i hi => ?_, ?_⟩
    · unfold wAt
      exact List.pairwise_map.mpr ((addU_nd (xs := (stands _).map _) (acc := []) List.nodup_nil).imp fun {a b} hne z => hne (by simpa using z))
    · refine List.Pairwise.imp_of_mem (fun {a b} ha hb hne x hx y hy z => ?_) (List.nodup_range (n := (ns.getD sw ([], [])).1.length))
      unfold wAt at hx hy
      obtain ⟨s, _, rfl⟩ := List.mem_map.mp hx
      obtain ⟨s', _, rfl⟩ := List.mem_map.mp hy
      have el : (ns.getD sw ([], [])).1.length = es.length := by rw [e, List.length_map]
      have ha := List.mem_range.mp ha
      have hb := List.mem_range.mp hb
      rw [el] at ha hb
      have q : (ns.getD sw ([], [])).1.getD a 0 = (ns.getD sw ([], [])).1.getD b 0 := by
        have := List.cons.inj z
        exact this.1
      rw [e, List.getD_eq_getElem?_getD, List.getD_eq_getElem?_getD, List.getElem?_map, List.getElem?_map, List.getElem?_eq_getElem ha, List.getElem?_eq_getElem hb] at q
      have q : ((es[a] : Nat) : Int) = ((es[b] : Nat) : Int) := q
      have q : es[a] = es[b] := by omega
      exact hne (by rw [← nd.idxOf_getElem a ha, q, nd.idxOf_getElem b hb])
  · refine List.Pairwise.imp (fun {a b} hne x hx y hy z => ?_) (List.nodup_range (n := ns.length))
    unfold wRule wAt at hx hy
    obtain ⟨i, _, hx⟩ := List.mem_flatMap.mp hx
    obtain ⟨j, _, hy⟩ := List.mem_flatMap.mp hy
    obtain ⟨s, _, rfl⟩ := List.mem_map.mp hx
    obtain ⟨s', _, rfl⟩ := List.mem_map.mp hy
    have q := (List.cons.inj (List.cons.inj z).2).1
    exact hne (by exact_mod_cast q)
theorem wires_same {ns : List RuleT} {most : Nat} (h : NetOk ns most) (w : WOk ns.length (lawL ns)) : sortL (lawL ns) = wiresI ns :=
  sortL_congr ((List.perm_ext_iff_of_nodup w.1 (wires_nd h)).mpr fun t => (wires_iff h).symm)
theorem wiresI_ok {ns : List RuleT} {most : Nat} (h : NetOk ns most) (w : WOk ns.length (lawL ns)) : WOk ns.length (wiresI ns) := by
  have p : (wiresI ns).Perm (lawL ns) := by rw [← wires_same h w]; exact sortL_perm _
  exact ⟨p.nodup_iff.mpr w.1, fun t ht => w.2 t (p.mem_iff.mp ht)⟩
end H

set_option Elab.async false
set_option linter.all false
set_option maxRecDepth 100000
namespace H
open PySem PySem.Spec PyProof.Rows L2 Y
/-- the pairs of the wires, in their order -/
def prI (ws : List (List Int)) : List (List Int) := ws.foldl (fun L t => addS L (t.take 2)) []
/-- pairs of switches -/
def PrOk (m : Nat) (L : List (List Int)) : Prop := L.Nodup ∧ ∀ p ∈ L, ∃ j k : Nat, j < m ∧ k < m ∧ p = [(j : Int), (k : Int)]
theorem PrOk.len {m : Nat} {L : List (List Int)} (h : PrOk m L) : L.length ≤ m * m := by
  have sub : L ⊆ (List.range m).flatMap fun j : Nat => (List.range m).map fun k : Nat => [(j : Int), (k : Int)] := fun p hp => by
    obtain ⟨j, k, hj, hk, rfl⟩ := h.2 p hp
    exact List.mem_flatMap.mpr ⟨j, List.mem_range.mpr hj, List.mem_map.mpr ⟨k, List.mem_range.mpr hk, rfl⟩⟩
  have := nodup_len h.1 fun p hp => sub hp
  have l : ((List.range m).flatMap fun j : Nat => (List.range m).map fun k : Nat => [(j : Int), (k : Int)]).length ≤ (List.range m).length * m := flat_len fun j _ => by simp
  rw [List.length_range] at l
  omega
end H

set_option Elab.async false
set_option linter.all false
set_option maxRecDepth 100000
namespace H
open PySem PySem.Spec PyProof.Rows L2 Y
def tk (t : List Int) : List Key × Int := ([.inl (t.getD 0 0), .inl (t.getD 1 0)], t.getD 2 0)
abbrev W3 (m : Nat) (ws : List (List Int)) : Prop := ∀ t ∈ ws, ∃ (j k : Nat) (s : Int), j < m ∧ k < m ∧ t = [(j : Int), (k : Int), s]
theorem trips_ok {m : Nat} : ∀ {ws : List (List Int)}, W3 m ws → trips (ws.map ti) = some (ws.map tk)
  | [], _ => rfl
  | t :: ws, h => by
    obtain ⟨j, k, s, _, _, rfl⟩ := h t (by simp)
    have ih := trips_ok (ws := ws) fun u hu => h u (by simp [hu])
    show (match trip (ti [(j : Int), (k : Int), s]), trips (ws.map ti) with | some t, some ts => some (t :: ts) | _, _ => none) = _
    rw [ih]
    rfl
theorem w3_of {m : Nat} {ws : List (List Int)} (h : WOk m ws) : W3 m ws := fun t ht => by
  obtain ⟨j, k, hj, hk, e⟩ := h.2 t ht
  rcases e with e | e
  · exact ⟨j, k, 1, hj, hk, e⟩
  · exact ⟨j, k, -1, hj, hk, e⟩
end H

set_option Elab.async false
set_option linter.all false
set_option maxRecDepth 100000
namespace H
open PySem PySem.Spec PyProof.Rows L2 Y
def sgs (ws : List (List Int)) (p : List Int) : List Int := (ws.filter fun t => decide (t.take 2 = p)).map fun t => t.getD 2 0
def prD (ws : List (List Int)) : D := .dit ((prI ws).map kt) ((prI ws).map fun p => .lst ((sgs ws p).map D.int))
theorem gAdd_map {q : List Int} {s : Int} {f : List Int → List Int} : ∀ {L : List (List Int)}, L.Nodup → (q ∉ L → f q = []) → gAdd (kt q) s (L.map fun p => (kt p, f p)) = (addS L q).map fun p => (kt p, f p ++ if p = q then [s] else [])
  | [], _, h => by
    have := h (by simp)
    simp [gAdd, addS, this]
  | a :: L, nd, h => by
    obtain ⟨n1, n2⟩ := List.nodup_cons.mp nd
    rw [List.map_cons]
    unfold gAdd
    by_cases c : a = q
    · subst c
      rw [if_pos rfl]
      unfold addS
      rw [if_pos (by simp), List.map_cons, if_pos rfl]
      congr 1
      exact List.map_congr_left fun p hp => by
        have : ¬ p = a := fun z => n1 (by rw [← z]; exact hp)
        rw [if_neg this, List.append_nil]
    · rw [if_neg (fun z => c (kt_inj.mp z)), gAdd_map n2 fun hq => h fun z => (List.mem_cons.mp z).elim (fun z => c z.symm) hq]
      have e : addS (a :: L) q = a :: addS L q := by
        unfold addS
        by_cases d : q ∈ L
        · rw [if_pos d, if_pos (List.mem_cons_of_mem _ d)]
        · rw [if_neg d, if_neg (fun z => (List.mem_cons.mp z).elim (fun z => c z.symm) d)]; rfl
      rw [e, List.map_cons, if_neg c, List.append_nil]
theorem mem_addS {L : List (List Int)} {p q : List Int} : p ∈ addS L q ↔ p ∈ L ∨ p = q := by
  unfold addS
  by_cases c : q ∈ L
  · rw [if_pos c]
    exact ⟨.inl, fun h => h.elim id fun e => e ▸ c⟩
  · rw [if_neg c]; simp
theorem prI_snoc {us : List (List Int)} {t : List Int} : prI (us ++ [t]) = addS (prI us) (t.take 2) := by
  unfold prI
  rw [List.foldl_append]
  rfl
theorem mem_prF {p : List Int} : ∀ {ws L : List (List Int)}, p ∈ ws.foldl (fun L t => addS L (t.take 2)) L ↔ p ∈ L ∨ ∃ t ∈ ws, t.take 2 = p
  | [], L => by simp
  | t :: ws, L => by
    rw [List.foldl_cons, mem_prF, mem_addS]
    constructor
    · rintro ((h | h) | ⟨u, h1, h2⟩)
      · exact .inl h
      · exact .inr ⟨t, by simp, h.symm⟩
      · exact .inr ⟨u, by simp [h1], h2⟩
    · rintro (h | ⟨u, h1, h2⟩)
      · exact .inl (.inl h)
      · rcases List.mem_cons.mp h1 with h1 | h1
        · exact .inl (.inr (by rw [← h1, h2]))
        · exact .inr ⟨u, h1, h2⟩
theorem mem_prI {ws : List (List Int)} {p : List Int} : p ∈ prI ws ↔ ∃ t ∈ ws, t.take 2 = p := by
  unfold prI
  rw [mem_prF]
  simp
theorem prF_nd : ∀ {ws L : List (List Int)}, L.Nodup → (ws.foldl (fun L t => addS L (t.take 2)) L).Nodup
  | [], L, h => h
  | t :: ws, L, h => by rw [List.foldl_cons]; exact prF_nd (addS_nd h)
theorem sgs_nil {ws : List (List Int)} {p : List Int} (h : p ∉ prI ws) : sgs ws p = [] := by
  unfold sgs
  rw [List.map_eq_nil_iff, List.filter_eq_nil_iff]
  intro t ht z
  exact h (mem_prI.mpr ⟨t, ht, of_decide_eq_true z⟩)
theorem grp_acc {m : Nat} : ∀ {ws us : List (List Int)}, W3 m ws → (ws.map tk).foldl (fun g t => gAdd t.1 t.2 g) ((prI us).map fun p => (kt p, sgs us p)) = (prI (us ++ ws)).map fun p => (kt p, sgs (us ++ ws) p)
  | [], us, _ => by rw [List.append_nil]; rfl
  | t :: ws, us, h => by
    obtain ⟨j, k, s, _, _, rfl⟩ := h t (by simp)
    rw [List.map_cons, List.foldl_cons]
    have e1 : us ++ [(j : Int), (k : Int), s] :: ws = (us ++ [[(j : Int), (k : Int), s]]) ++ ws := by simp
    rw [e1]
    have g := gAdd_map (q := [(j : Int), (k : Int)]) (s := s) (f := sgs us) (L := prI us) (prF_nd List.nodup_nil) sgs_nil
    have e2 : (fun p : List Int => (kt p, sgs us p ++ if p = [(j : Int), (k : Int)] then [s] else [])) = fun p => (kt p, sgs (us ++ [[(j : Int), (k : Int), s]]) p) := by
      funext p
      unfold sgs
      rw [List.filter_append, List.map_append]
      by_cases c : p = [(j : Int), (k : Int)]
      · subst c; simp
      · have c' : ¬ [(j : Int), (k : Int)] = p := fun z => c z.symm
        simp [c, c']
    rw [e2] at g
    have e3 : addS (prI us) [(j : Int), (k : Int)] = prI (us ++ [[(j : Int), (k : Int), s]]) := by rw [prI_snoc]; rfl
    rw [e3] at g
    refine Eq.trans ?_ (grp_acc (us := us ++ [[(j : Int), (k : Int), s]]) fun u hu => h u (by simp [hu]))
    rw [← g]
    rfl
theorem grp_sgs {m : Nat} {ws : List (List Int)} (h : W3 m ws) : grp (ws.map tk) = (prI ws).map fun p => (kt p, sgs ws p) := grp_acc (us := []) h
theorem dGrp_sgs {m : Nat} {ws : List (List Int)} (h : W3 m ws) : dGrp (grp (ws.map tk)) = prD ws := by
  rw [grp_sgs h]
  unfold dGrp prD
  rw [List.map_map, List.map_map]
  rfl
theorem pairs_ok {ns : List RuleT} {most : Nat} (h : NetOk ns most) (hm : most ≤ 20) : C.g_signs_between [dNet ns] = .ok (.fr (prD (wiresI ns))) ∧ C.g__law_pairs_2 [dNet ns] = .ok (.fr (prD (wiresI ns))) ∧ WOk ns.length (wiresI ns) := by
  obtain ⟨lw, w⟩ := law_wires_ok h hm
  rw [wires_same h w] at lw
  have wk := wiresI_ok h w
  have wo := wires_of_ok h hm
  have w3 := w3_of wk
  have tr := trips_ok w3
  have dg := dGrp_sgs w3
  have hle := h.le
  have sq : ns.length * (ns.length * 2) ≤ 800 := Nat.le_trans (Nat.mul_le_mul (show ns.length ≤ 20 by omega) (Nat.mul_le_mul (show ns.length ≤ 20 by omega) (Nat.le_refl 2))) (by omega)
  have wl := wk.len
  have zl : szOk ((wiresI ns).map ti).length = true := szOk_of (by rw [List.length_map]; omega)
  have z2 : ((wiresI ns).map tk).length < 1000000 := by rw [List.length_map]; omega
  refine ⟨?_, ?_, wk⟩
  · rw [← dg]
    simp only [C.g_signs_between, C.m_signs_between]
    clear dg wk w
    have wo : C.g_wires_of [dNet ns] = .ok (.fr (.lst ((wiresI ns).map ti))) := wo
    generalize (wiresI ns).map tk = TS at *
    generalize (wiresI ns).map ti = WS at *
    generalize dNet ns = N at *
    simp [e_fnP, wo, tr, zl, z2]
  · rw [← dg]
    simp only [C.g__law_pairs_2, C.m__law_pairs_2]
    clear dg wk w
    have lw : C.g__law_wires [dNet ns] = .ok (.fr (.lst ((wiresI ns).map ti))) := lw
    generalize (wiresI ns).map tk = TS at *
    generalize (wiresI ns).map ti = WS at *
    generalize dNet ns = N at *
    simp [e_fnP, lw, tr, zl, z2]
theorem get_pr {ws : List (List Int)} {p : List Int} : getDic (prD ws) (ti p) = .ok (if p ∈ prI ws then some (.lst ((sgs ws p).map D.int)) else none) := by
  unfold prD
  rw [get_kt]
  by_cases c : p ∈ prI ws
  · rw [if_pos c, find_map (f := fun p => D.lst ((sgs ws p).map D.int)) c]
  · rw [if_neg c]
    have := find_kt (L := prI ws) (ds := (prI ws).map fun p => D.lst ((sgs ws p).map D.int)) (t := p) (by simp)
    rw [decide_eq_false c] at this
    cases e : findD ((prI ws).map kt) ((prI ws).map fun p => D.lst ((sgs ws p).map D.int)) (kt p) with
    | none => rfl
    | some d => rw [e] at this; cases this
theorem sgs_ok {m : Nat} {ws : List (List Int)} {p : List Int} (h : WOk m ws) (hp : p ∈ prI ws) : sgs ws p ≠ [] ∧ ∀ s ∈ sgs ws p, s = 1 ∨ s = -1 := by
  constructor
  · obtain ⟨t, ht, e⟩ := mem_prI.mp hp
    intro z
    unfold sgs at z
    rw [List.map_eq_nil_iff, List.filter_eq_nil_iff] at z
    exact z t ht (decide_eq_true e)
  · intro s hs
    unfold sgs at hs
    obtain ⟨t, ht, rfl⟩ := List.mem_map.mp hs
    obtain ⟨j, k, _, _, e⟩ := h.2 t (List.mem_filter.mp ht).1
    rcases e with rfl | rfl
    · exact .inl rfl
    · exact .inr rfl
end H

set_option Elab.async false
set_option linter.all false
set_option maxRecDepth 100000
namespace H
open PySem PySem.Spec PyProof.Rows L2 Y
def stI (r : List Int) : List (List Int) := (r.zip (r.tail ++ r.take 1)).map fun p => [p.1, p.2]
theorem pairs_zip : ∀ {a b : List Int}, pairsD (a.map D.int) (b.map D.int) = (a.zip b).map fun p => ti [p.1, p.2]
  | [], b => by cases b <;> rfl
  | a :: as, [] => rfl
  | a :: as, b :: bs => by
    show D.tup [.int a, .int b] :: pairsD (as.map D.int) (bs.map D.int) = _
    rw [pairs_zip]
    rfl
theorem stI_len {r : List Int} : (stI r).length = r.length := by
  unfold stI
  rw [List.length_map, List.length_zip, List.length_append, List.length_tail, List.length_take]
  omega
theorem steps_rd {r : List Int} (hl : r.length ≤ 1000) : C.g_steps_round [ti r] = .ok (.fr (lti (stI r))) := by
  have e1 : Y.cutD (r.map D.int) (some 1) none = r.tail.map D.int := by rw [cut_one, List.map_tail]
  have e2 : Y.cutD (r.map D.int) none (some 1) = (r.take 1).map D.int := by
    have := cut_hi (ds := r.map D.int) (k := 1)
    rw [List.map_take]; exact this
  have ez : pairsD (r.map D.int) (r.tail.map D.int ++ (r.take 1).map D.int) = (stI r).map ti := by
    rw [← List.map_append, pairs_zip]
    unfold stI
    rw [List.map_map]
    rfl
  have zl : szOk ((stI r).map ti).length = true := szOk_of (by rw [List.length_map, stI_len]; omega)
  have z2 : szOk (r.tail.length + (r.take 1).length) = true := szOk_of (by rw [List.length_tail, List.length_take]; omega)
  have et : ti r = .tup (r.map D.int) := rfl
  have el : lti (stI r) = .lst ((stI r).map ti) := rfl
  rw [et, el]
  simp only [C.g_steps_round, C.m_steps_round]
  generalize (stI r).map ti = X at *
  simp [e_fnP, e1, e2, ez, zl, z2, -List.map_tail, -List.map_take, -List.length_tail, -List.length_take]
def inP (ws : List (List Int)) (p : List Int) : Bool := decide (p ∈ prI ws)
def rndB (ws : List (List Int)) : List Int → Bool
  | [] => false
  | n :: ms => decide (n = minI n ms) && (stI (n :: ms)).all (inP ws)
theorem is_round_ok {ws : List (List Int)} {n : Int} {ms : List Int} (hl : (n :: ms).length ≤ 1000) : C.g_is_round [prD ws, ti (n :: ms)] = .ok (.fr (.bl (rndB ws (n :: ms)))) := by
  have sp := steps_rd (r := n :: ms) hl
  have mn : minSD [ti (n :: ms)] = .ok (.int (minI n ms)) := d_minS seqI_t
  have c := comp_map (tm := tmName 2) (t := cYes) (e := C.e_is_round_1) (vs := [2]) (ws := []) (ρ := [some (prD ws), some (ti (n :: ms)), none]) ti (fun p => D.bl (inP ws p)) (stI (n :: ms)) fun p _ => by
    have g := get_pr (ws := ws) (p := p)
    simp only [turnC, C.e_is_round_1]
    unfold inP
    generalize ti p = T at *
    by_cases h : p ∈ prI ws
    · rw [if_pos h] at g
      simp [g, h]
    · rw [if_neg h] at g
      simp [g, h]
  have e2 : ((stI (n :: ms)).map fun p => D.bl (inP ws p)) = ((stI (n :: ms)).map (inP ws)).map D.bl := by rw [List.map_map]; rfl
  have al : allD [.lst ((stI (n :: ms)).map fun p => D.bl (inP ws p))] = .ok (.bl ((stI (n :: ms)).all (inP ws))) := by rw [e2, d_all, List.all_map]; rfl
  have zl : szOk ((stI (n :: ms)).map ti).length = true := szOk_of (by rw [List.length_map, stI_len]; omega)
  have hr : rndB ws (n :: ms) = (decide (n = minI n ms) && (stI (n :: ms)).all (inP ws)) := rfl
  have a0 : ixD (ti (n :: ms)) (.int 0) = .ok (.int n) := by
    have : atI (D.int n :: ms.map D.int) 0 = some (.int n) := atI_of (j := 0) rfl rfl
    simp [ixD, this]
  rw [hr]
  simp only [C.g_is_round, C.m_is_round]
  have sp : C.g_steps_round [ti (n :: ms)] = .ok (.fr (.lst ((stI (n :: ms)).map ti))) := sp
  generalize C.e_is_round_1 = E1 at *
  generalize ((stI (n :: ms)).map fun p => D.bl (inP ws p)) = Q at *
  generalize (stI (n :: ms)).map ti = S at *
  generalize (stI (n :: ms)).all (inP ws) = q at *
  generalize prD ws = PD at *
  clear hl e2
  generalize ti (n :: ms) = R at *
  by_cases c1 : n = minI n ms
  · rw [← c1] at mn ⊢
    simp [e_fnP, sp, mn, a0, zl, c, al, -d_all]
  · simp [e_fnP, sp, mn, a0, zl, c, al, c1, -d_all]
end H

set_option Elab.async false
set_option linter.all false
set_option maxRecDepth 100000
namespace H
open PySem PySem.Spec PyProof.Rows L2 Y
def pvI (r : List Int) (k : Nat) : Int := if k = 0 then r.getD (r.length - 1) 0 else r.getD (k - 1) 0
theorem at_pv {r : List Int} {k : Nat} (h : k < r.length) : atI (r.map D.int) ((k : Int) - 1) = some (.int (pvI r k)) := by
  unfold pvI
  by_cases c : k = 0
  · subst c
    rw [if_pos rfl]
    have hi : ixN (r.map D.int).length (((0 : Nat) : Int) - 1) = some (r.length - 1) := by
      unfold ixN
      rw [List.length_map]
      simp
      omega
    unfold atI
    rw [hi]
    show (r.map D.int)[r.length - 1]? = _
    rw [List.getElem?_map, List.getElem?_eq_getElem (by omega), List.getD_eq_getElem?_getD, List.getElem?_eq_getElem (by omega)]
    rfl
  · rw [if_neg c]
    have := atI_mapI (xs := r) (i := (k : Int) - 1) (by omega) (by omega)
    rw [this]
    congr 3
    omega
structure Th (d : D) : Prop where
  no : noDit d = true
  tup : ∀ xs, d = .tup xs → xs.length ≤ 60 ∧ Fit 8 d ∧ ∀ x ∈ xs, noDit x = true
theorem ints_of : ∀ {xs : List D} {is : List Int}, intsOf xs = some is → xs = is.map D.int
  | [], is, h => by cases h; rfl
  | x :: xs, is, h => by
    cases x with
    | int i =>
      unfold intsOf at h
      cases e : intsOf xs with
      | none => rw [e] at h; cases h
      | some js =>
        rw [e] at h
        cases h
        rw [List.map_cons, ints_of e]
    | _ => cases h
theorem dedup_nd {xs : List Int} : (dedupI xs).length = xs.length ↔ xs.Nodup := by
  constructor
  · intro h
    induction xs with
    | nil => exact List.nodup_nil
    | cons x xs ih =>
      unfold dedupI at h
      by_cases c : x ∈ xs
      · rw [if_pos c] at h
        have := dedupI_le (xs := xs)
        rw [List.length_cons] at h
        omega
      · rw [if_neg c, List.length_cons, List.length_cons] at h
        exact List.nodup_cons.mpr ⟨c, ih (by omega)⟩
  · intro h; rw [dedupI_of h]
def insB (m : Int) (is : List Int) : Bool := is.all fun x => decide (0 ≤ x ∧ x < m)
def swB (m : Int) (xs : List D) : Bool := match intsOf xs with
  | some is => insB m is && decide is.Nodup
  | none => false
theorem are_sw_ok {d : D} {xs : List D} {ns : List RuleT} (hi : itD d = .ok xs) (hn : lenD [d] = .ok (.int xs.length)) (hs : seqI d = intsOf xs) (hl : xs.length ≤ 1000) (hx : ∀ x ∈ xs, noDit x = true) : C.g_are_switches [dNet ns, d] = .ok (.fr (.bl (swB ns.length xs))) := by
  have ln : lenD [dNet ns] = .ok (.int ns.length) := by simp
  have c := comp_map (tm := tmName 2) (t := cYes) (e := C.e_are_switches_1) (vs := [2]) (ws := []) (ρ := [some (dNet ns), some d, none]) (fun x : D => x) (fun x => D.bl (upB ns.length x)) xs (fun x hx' => by
    have u := upto_any (m := ns.length) (hx x hx')
    simp only [turnC, C.e_are_switches_1]
    generalize dNet ns = N at *
    simp [ln, u])
  rw [List.map_id'] at c
  have z : szOk xs.length = true := szOk_of (by omega)
  have e2 : (xs.map fun x => D.bl (upB ns.length x)) = (xs.map (upB ns.length)).map D.bl := by rw [List.map_map]; rfl
  have e3 : allD [.lst (xs.map fun x => D.bl (upB ns.length x))] = .ok (.bl (xs.all (upB ns.length))) := by rw [e2, d_all, List.all_map]; rfl
  simp only [C.g_are_switches, C.m_are_switches]
  cases ha : xs.all (upB ns.length) with
  | false =>
    have : swB ns.length xs = false := by
      unfold swB
      cases ei : intsOf xs with
      | none => rfl
      | some is =>
        have := ints_of ei
        subst this
        rw [ups_of] at ha
        show (insB _ _ && _) = false
        unfold insB
        rw [ha]; rfl
    rw [this]
    rw [ha] at e3
    generalize C.e_are_switches_1 = e1 at c ⊢
    generalize dNet ns = N at *
    simp [e_fnP, z, c, e3, hi, -d_all]
  | true =>
    obtain ⟨is, rfl, hq⟩ := ups_ints ha
    rw [Y.ints_map] at hs
    have : swB ns.length (is.map D.int) = decide ((dedupI is).length = is.length) := by
      unfold swB
      rw [Y.ints_map]
      show (insB _ _ && _) = _
      unfold insB
      rw [hq, Bool.true_and, decide_eq_decide, dedup_nd]
    rw [this]
    rw [ha] at e3
    rw [List.length_map] at hl hn z
    have c4 : is.length ≤ 4000 := by omega
    have eq : eqD (.int (dedupI is).length) (.int is.length) = .ok (.bl (decide ((dedupI is).length = is.length))) := by
      rw [eqD_int]
      congr 2
      rw [decide_eq_decide]
      omega
    have zz : szOk (is.map D.int).length = true := by rw [List.length_map]; exact z
    generalize C.e_are_switches_1 = e1 at c ⊢
    generalize ((is.map D.int).map fun x => D.bl (upB ns.length x)) = Q at *
    generalize is.map D.int = IS at *
    generalize dNet ns = N at *
    simp [e_fnP, zz, c, e3, hi, hs, hn, c4, eq, -d_all, -eqD_int]
end H

set_option Elab.async false
set_option linter.all false
set_option maxRecDepth 100000
namespace H
open PySem PySem.Spec PyProof.Rows L2 Y
def ringI (ws : List (List Int)) (m : Int) (is : List Int) : Bool := insB m is && decide is.Nodup && rndB ws is
def ringB (ws : List (List Int)) (m : Int) : D → Bool
  | .tup xs => match intsOf xs with
    | some is => ringI ws m is
    | none => false
  | _ => false
theorem eq_nilT {xs : List D} (h : Fit 8 (.tup xs)) : eqD (.tup xs) (.tup []) = .ok (.bl xs.isEmpty) := by
  rw [eqD_of h (show Fit 8 (.tup []) from fun d hd => by cases hd)]
  cases xs <;> rfl
theorem ring_sw {ws : List (List Int)} {m : Int} {xs : List D} (h : swB m xs = false) : ringB ws m (.tup xs) = false := by
  unfold swB at h
  show (match intsOf xs with | some is => ringI ws m is | none => false) = false
  cases e : intsOf xs with
  | none => rfl
  | some is =>
    rw [e] at h
    have h : (insB m is && decide is.Nodup) = false := h
    show ringI ws m is = false
    unfold ringI
    rw [h]; rfl
theorem ring_tup {ws : List (List Int)} {m : Int} {is : List Int} : ringB ws m (.tup (is.map D.int)) = ringI ws m is := by
  show (match intsOf (is.map D.int) with | some is => ringI ws m is | none => false) = _
  rw [Y.ints_map]
theorem is_ring_ok {ns : List RuleT} {most : Nat} {d : D} (h : NetOk ns most) (hm : most ≤ 20) (hd : Th d) : C.g_is_ring [dNet ns, d] = .ok (.fr (.bl (ringB (wiresI ns) ns.length d))) := by
  obtain ⟨sb, _, wk⟩ := pairs_ok h hm
  have hno := hd.no
  cases d with
  | tup xs =>
    obtain ⟨hl, hf, hx⟩ := hd.tup xs rfl
    have en := eq_nilT hf
    have sw := are_sw_ok (d := .tup xs) (xs := xs) (ns := ns) rfl rfl rfl (by omega) hx
    simp only [C.g_is_ring, C.m_is_ring]
    generalize hN : dNet ns = N at *
    cases xs with
    | nil =>
      have : ringB (wiresI ns) ns.length (.tup []) = false := by
        show ringI _ _ [] = false
        unfold ringI rndB
        rw [Bool.and_false]
      rw [this]
      simp [e_fnP, noDit, Y.isTup, en]
    | cons x xs =>
      have en : eqD (.tup (x :: xs)) (.tup []) = .ok (.bl false) := en
      cases c : swB ns.length (x :: xs) with
      | false =>
        rw [ring_sw c]
        rw [c] at sw
        generalize x :: xs = XS at *
        simp [e_fnP, noDit, Y.isTup, en, sw]
      | true =>
        rw [c] at sw
        have c0 := c
        unfold swB at c
        cases ei : intsOf (x :: xs) with
        | none => rw [ei] at c; cases c
        | some is =>
          rw [ei] at c
          have c : (insB ns.length is && decide is.Nodup) = true := c
          have e := ints_of ei
          cases is with
          | nil => cases e
          | cons n ms =>
            have hlen : (n :: ms).length ≤ 60 := by
              have := congrArg List.length e
              rw [List.length_map] at this
              omega
            have ir := is_round_ok (ws := wiresI ns) (n := n) (ms := ms) (by omega)
            rw [e, ring_tup]
            have : ringI (wiresI ns) ns.length (n :: ms) = rndB (wiresI ns) (n :: ms) := by unfold ringI; rw [c, Bool.true_and]
            rw [this]
            rw [e] at en sw
            have et : ti (n :: ms) = .tup ((n :: ms).map D.int) := rfl
            rw [et] at ir
            generalize (n :: ms).map D.int = XS at *
            generalize prD (wiresI ns) = PD at *
            generalize rndB (wiresI ns) (n :: ms) = q at *
            simp [e_fnP, noDit, Y.isTup, en, sw, sb, ir]
  | dit _ _ => cases hno
  | _ => simp [C.g_is_ring, C.m_is_ring, e_fnP, noDit, Y.isTup, ringB]
end H

set_option Elab.async false
set_option linter.all false
set_option maxRecDepth 100000
namespace H
open PySem PySem.Spec PyProof.Rows L2 Y
def fsI (x : List Int) : Int := x.getD 0 0
def lsI (x : List Int) : Int := x.getD (x.length - 1) 0
def stepG (ws : List (List Int)) (f : List Int) (p : List Int) : List Int := setI (f.map (fun s => s * fsI (sgs ws p)) ++ f.map (fun s => s * lsI (sgs ws p)))
def SgnOk (f : List Int) : Prop := f.length ≤ 2 ∧ ∀ x ∈ f, x = 1 ∨ x = -1
theorem at_lastI {r : List Int} (h : r ≠ []) : atI (r.map D.int) (-1) = some (.int (lsI r)) := by
  have hl : 0 < r.length := List.length_pos_iff.mpr h
  have := at_pv hl
  rw [pvI, if_pos rfl] at this
  exact this
theorem at_first {r : List Int} (h : r ≠ []) : atI (r.map D.int) 0 = some (.int (fsI r)) := by
  have hl : 0 < r.length := List.length_pos_iff.mpr h
  exact atI_mapI (xs := r) (i := 0) (by omega) (by omega)
theorem sgn_at {x : List Int} (h : x ≠ []) (hx : ∀ s ∈ x, s = 1 ∨ s = -1) : (fsI x = 1 ∨ fsI x = -1) ∧ (lsI x = 1 ∨ lsI x = -1) := by
  have hl : 0 < x.length := List.length_pos_iff.mpr h
  constructor
  · refine hx _ ?_
    unfold fsI
    rw [List.getD_eq_getElem?_getD, List.getElem?_eq_getElem hl]
    exact List.getElem_mem _
  · refine hx _ ?_
    unfold lsI
    rw [List.getD_eq_getElem?_getD, List.getElem?_eq_getElem (by omega)]
    exact List.getElem_mem _
theorem mul_sgn {a b : Int} (h : a = 1 ∨ a = -1) (k : b = 1 ∨ b = -1) : a * b = 1 ∨ a * b = -1 := by
  rcases h with rfl | rfl <;> rcases k with rfl | rfl <;> decide
theorem mulOk_sgn {a b : Int} (h : a = 1 ∨ a = -1) (k : b = 1 ∨ b = -1) : mulOk a b = true := by
  rcases h with rfl | rfl <;> rcases k with rfl | rfl <;> decide +kernel
theorem set_sgn {xs : List Int} (h : ∀ x ∈ xs, x = 1 ∨ x = -1) : SgnOk (setI xs) := by
  refine ⟨?_, fun x hx => h x (setI_mem.mp hx)⟩
  exact nodup_len (B := [1, -1]) setI_nodup fun x hx => by
    rcases h x (setI_mem.mp hx) with rfl | rfl <;> simp
theorem mem_stepG {ws : List (List Int)} {f p : List Int} {y : Int} : y ∈ stepG ws f p ↔ ∃ s ∈ f, y = s * fsI (sgs ws p) ∨ y = s * lsI (sgs ws p) := by
  unfold stepG
  rw [setI_mem, List.mem_append, List.mem_map, List.mem_map]
  constructor
  · rintro (⟨s, h, rfl⟩ | ⟨s, h, rfl⟩)
    · exact ⟨s, h, .inl rfl⟩
    · exact ⟨s, h, .inr rfl⟩
  · rintro ⟨s, h, rfl | rfl⟩
    · exact .inl ⟨s, h, rfl⟩
    · exact .inr ⟨s, h, rfl⟩
def signsR (ws ps : List (List Int)) : List Int := ps.foldl (stepG ws) [1]
theorem step_ok {ws : List (List Int)} {m : Nat} {f p : List Int} (h : WOk m ws) (hp : p ∈ prI ws) (hf : SgnOk f) : SgnOk (stepG ws f p) ∧ ∀ x ∈ f.map (fun s => s * fsI (sgs ws p)) ++ f.map (fun s => s * lsI (sgs ws p)), x = 1 ∨ x = -1 := by
  obtain ⟨h1, h2⟩ := sgs_ok h hp
  obtain ⟨a, b⟩ := sgn_at h1 h2
  have k : ∀ x ∈ f.map (fun s => s * fsI (sgs ws p)) ++ f.map (fun s => s * lsI (sgs ws p)), x = 1 ∨ x = -1 := fun x hx => by
    rcases List.mem_append.mp hx with hx | hx
    · obtain ⟨s, hs, rfl⟩ := List.mem_map.mp hx
      exact mul_sgn (hf.2 s hs) a
    · obtain ⟨s, hs, rfl⟩ := List.mem_map.mp hx
      exact mul_sgn (hf.2 s hs) b
  exact ⟨set_sgn k, k⟩
theorem signs_on_ok {ws : List (List Int)} {m : Nat} {r : List Int} (h : WOk m ws) (hr : ∀ p ∈ stI r, p ∈ prI ws) (hl : r.length ≤ 1000) : C.g_signs_on [prD ws, ti r] = .ok (.vl (li (signsR ws (stI r)))) ∧ SgnOk (signsR ws (stI r)) := by
  have sp := steps_rd (r := r) hl
  have lp := for_run (tm := tmName 3) (body := C.b_signs_on_1) (vs := [3]) (ws := []) ti (fun f => [some (prD ws), some (ti r), some (li f), none, none]) (stepG ws) SgnOk (stI r) [1] ⟨by simp, by simp⟩ fun f p hf hp => by
    have hp := hr p hp
    obtain ⟨h1, h2⟩ := sgs_ok h hp
    obtain ⟨a, b⟩ := sgn_at h1 h2
    obtain ⟨s1, s2⟩ := step_ok h hp hf
    refine ⟨s1, by simp, ?_⟩
    have g := get_pr (ws := ws) (p := p)
    rw [if_pos hp] at g
    have a0 := at_first h1
    have a1 := at_lastI h1
    have c1 := comp_map (tm := tmName 4) (t := cYes) (e := C.e_signs_on_1) (vs := [4]) (ws := []) (ρ := [some (prD ws), some (ti r), some (li f), some (ti p), none]) D.int (fun s => D.int (s * fsI (sgs ws p))) f fun s hs => by
      have mo := mulOk_sgn (hf.2 s hs) a
      simp only [turnC, C.e_signs_on_1]
      generalize ti p = T at *
      generalize (sgs ws p).map D.int = SD at *
      generalize fsI (sgs ws p) = fs at *
      generalize prD ws = PD at *
      simp [g, a0, mo]
    have c2 := comp_map (tm := tmName 4) (t := cYes) (e := C.e_signs_on_2) (vs := [4]) (ws := []) (ρ := [some (prD ws), some (ti r), some (li f), some (ti p), none]) D.int (fun s => D.int (s * lsI (sgs ws p))) f fun s hs => by
      have mo := mulOk_sgn (hf.2 s hs) b
      simp only [turnC, C.e_signs_on_2]
      generalize ti p = T at *
      generalize (sgs ws p).map D.int = SD at *
      generalize lsI (sgs ws p) = fs at *
      generalize prD ws = PD at *
      simp [g, a1, mo]
    have sq : seqI (.lst ((f.map fun s => D.int (s * fsI (sgs ws p))) ++ f.map fun s => D.int (s * lsI (sgs ws p)))) = some (f.map (fun s => s * fsI (sgs ws p)) ++ f.map (fun s => s * lsI (sgs ws p))) := by
      have : ((f.map fun s => D.int (s * fsI (sgs ws p))) ++ f.map fun s => D.int (s * lsI (sgs ws p))) = (f.map (fun s => s * fsI (sgs ws p)) ++ f.map (fun s => s * lsI (sgs ws p))).map D.int := by
        rw [List.map_append, List.map_map, List.map_map]; rfl
      rw [this]
      exact Y.ints_map _
    have l1 : (f.map (fun s => s * fsI (sgs ws p)) ++ f.map (fun s => s * lsI (sgs ws p))).length ≤ 4000 := by
      have := hf.1
      rw [List.length_append, List.length_map, List.length_map]; omega
    have l2 : (dedupI (f.map (fun s => s * fsI (sgs ws p)) ++ f.map (fun s => s * lsI (sgs ws p)))).length < 64 := by
      have := s1.1
      unfold stepG at this
      rw [setI_len] at this
      omega
    have hfl := hf.1
    have z1 : szOk (f.map D.int).length = true := szOk_of (by rw [List.length_map]; omega)
    have z2 : szOk ((f.map fun s => D.int (s * fsI (sgs ws p))).length + (f.map fun s => D.int (s * lsI (sgs ws p))).length) = true := szOk_of (by rw [List.length_map, List.length_map]; omega)
    have es : li (stepG ws f p) = .lst ((setI (f.map (fun s => s * fsI (sgs ws p)) ++ f.map (fun s => s * lsI (sgs ws p)))).map D.int) := rfl
    rw [es]
    generalize f.map (fun s => s * fsI (sgs ws p)) ++ f.map (fun s => s * lsI (sgs ws p)) = X at *
    generalize (f.map fun s => D.int (s * fsI (sgs ws p))) = Q1 at *
    generalize (f.map fun s => D.int (s * lsI (sgs ws p))) = Q2 at *
    have el : li f = .lst (f.map D.int) := rfl
    rw [el] at c1 c2 ⊢
    generalize f.map D.int = FD at *
    simp only [turnF, C.b_signs_on_1]
    generalize C.e_signs_on_1 = E1 at *
    generalize C.e_signs_on_2 = E2 at *
    generalize ti p = T at *
    generalize ti r = TR at *
    generalize prD ws = PD at *
    simp [z1, z2, c1, c2, sq, l1, l2]
  obtain ⟨lp, so⟩ := lp
  refine ⟨?_, so⟩
  have lp : forL (tmName 3) C.b_signs_on_1 [3] [] ((stI r).map ti) [some (prD ws), some (ti r), some (.lst [.int 1]), none, none] = .ok (.nx, [some (prD ws), some (ti r), some (li (signsR ws (stI r))), none, none]) := lp
  have sp : C.g_steps_round [ti r] = .ok (.fr (.lst ((stI r).map ti))) := sp
  have zl : szOk ((stI r).map ti).length = true := szOk_of (by rw [List.length_map, stI_len]; omega)
  simp only [C.g_signs_on, C.m_signs_on]
  generalize C.b_signs_on_1 = B at *
  generalize li (signsR ws (stI r)) = LI at *
  generalize (stI r).map ti = S at *
  generalize ti r = TR at *
  generalize prD ws = PD at *
  simp [e_fnP, sp, zl, lp]
end H

set_option Elab.async false
set_option linter.all false
set_option maxRecDepth 100000
namespace H
open PySem PySem.Spec PyProof.Rows L2 Y
theorem fm_congr {α β : Type} {f g : α → List β} : ∀ {L : List α}, (∀ x ∈ L, f x = g x) → L.flatMap f = L.flatMap g
  | [], _ => rfl
  | x :: L, h => by rw [List.flatMap_cons, List.flatMap_cons, h x (by simp), fm_congr fun y hy => h y (by simp [hy])]
end H

set_option Elab.async false
set_option linter.all false
set_option maxRecDepth 100000
namespace H
open PySem PySem.Spec PyProof.Rows L2 Y
end H

set_option Elab.async false
set_option linter.all false
set_option maxRecDepth 100000
namespace H
open PySem PySem.Spec PyProof.Rows L2 Y
theorem th_tup {xs : List D} (hl : xs.length ≤ 60) (h : ∀ x ∈ xs, noDit x = true ∧ Fit 7 x) : Th (.tup xs) := ⟨rfl, fun ys e => by
  cases e
  exact ⟨hl, fun x hx => (h x hx).2, fun x hx => (h x hx).1⟩⟩
theorem th_ti {r : List Int} (hl : r.length ≤ 60) : Th (ti r) := th_tup (by rw [List.length_map]; exact hl) fun x hx => by
  obtain ⟨i, _, rfl⟩ := List.mem_map.mp hx
  exact ⟨rfl, fit_int⟩
end H

set_option Elab.async false
set_option linter.all false
set_option maxRecDepth 100000
namespace H
open PySem PySem.Spec PyProof.Rows L2 Y
def rowsI : Nat → List Int → List (List Int)
  | 0, _ => [[]]
  | n + 1, xs => xs.flatMap fun x => (rowsI n (xs.filter fun y => !decide (y = x))).map fun r => x :: r
theorem rows_mem : ∀ {n : Nat} {xs r : List Int}, r ∈ rowsI n xs ↔ r.length = n ∧ r.Nodup ∧ ∀ x ∈ r, x ∈ xs
  | 0, xs, r => by
    unfold rowsI
    rw [List.mem_singleton]
    constructor
    · rintro rfl; exact ⟨rfl, List.nodup_nil, by simp⟩
    · rintro ⟨h, _⟩; exact List.eq_nil_of_length_eq_zero h
  | n + 1, xs, r => by
    unfold rowsI
    rw [List.mem_flatMap]
    constructor
    · rintro ⟨x, hx, h⟩
      obtain ⟨t, ht, rfl⟩ := List.mem_map.mp h
      obtain ⟨h1, h2, h3⟩ := rows_mem.mp ht
      have h4 : ∀ y ∈ t, y ∈ xs ∧ y ≠ x := fun y hy => by
        have := List.mem_filter.mp (h3 y hy)
        exact ⟨this.1, by simpa using this.2⟩
      exact ⟨by simp [h1], List.nodup_cons.mpr ⟨fun z => (h4 x z).2 rfl, h2⟩, fun y hy => by
        rcases List.mem_cons.mp hy with rfl | hy
        · exact hx
        · exact (h4 y hy).1⟩
    · rintro ⟨h1, h2, h3⟩
      cases r with
      | nil => cases h1
      | cons x t =>
        obtain ⟨n1, n2⟩ := List.nodup_cons.mp h2
        refine ⟨x, h3 x (by simp), List.mem_map.mpr ⟨t, rows_mem.mpr ⟨by simpa using h1, n2, fun y hy => List.mem_filter.mpr ⟨h3 y (by simp [hy]), ?_⟩⟩, rfl⟩⟩
        have : y ≠ x := fun z => n1 (z ▸ hy)
        simpa using this
theorem rows_len : ∀ {n : Nat} {xs : List Int} {c : Nat}, xs.length ≤ c → (rowsI n xs).length ≤ c ^ n
  | 0, xs, c, _ => by simp [rowsI]
  | n + 1, xs, c, h => by
    unfold rowsI
    have := flat_len (xs := xs) (f := fun x => (rowsI n (xs.filter fun y => !decide (y = x))).map fun r => x :: r) (c := c ^ n) fun x _ => by
      rw [List.length_map]
      exact rows_len (Nat.le_trans (List.length_filter_le _ _) h)
    have h2 : xs.length * c ^ n ≤ c * c ^ n := Nat.mul_le_mul_right _ h
    rw [Nat.pow_succ, Nat.mul_comm (c ^ n) c]
    omega
theorem in_rows_ok : ∀ {n k : Nat} {xs : List Int}, n < k → xs.length ≤ 6 → n ≤ 6 → C.r_in_rows k [li xs, .int n] = .ok (.fr (lti (rowsI n xs)))
  | n, 0, xs, h, _, _ => absurd h (by omega)
  | 0, k + 1, xs, _, hl, _ => by
    have z1 : szOk 1 = true := szOk_of (by omega)
    have z0 : szOk 0 = true := szOk_of (by omega)
    simp only [C.r_in_rows, C.m_in_rows]
    generalize li xs = X at *
    simp [e_fnP, rowsI, z1, z0]
  | n + 1, k + 1, xs, h, hl, hn => by
    have go : ∀ x ∈ xs, C.r_in_rows k [li (xs.filter fun y => !decide (y = x)), .int n] = .ok (.fr (lti (rowsI n (xs.filter fun y => !decide (y = x))))) := fun x _ => in_rows_ok (by omega) (Nat.le_trans (List.length_filter_le _ _) hl) (by omega)
    have lp := for_idx (tm := tmName 3) (body := C.b_in_rows_1 (C.r_in_rows k)) (vs := [3, 4]) (ws := []) D.int xs (fun i => [some (li xs), some (.int ((n + 1 : Nat) : Int)), some (lti ((xs.take i).flatMap fun x => (rowsI n (xs.filter fun y => !decide (y = x))).map fun r => x :: r)), none, none, none, none]) fun i hi => by
      refine ⟨by simp, ?_⟩
      have e2 : xs.take (i + 1) = xs.take i ++ [xs[i]] := by rw [List.take_add_one, List.getElem?_eq_getElem hi]; rfl
      rw [e2, List.flatMap_append]
      simp only [List.flatMap_cons, List.flatMap_nil, List.append_nil]
      have g := go xs[i] (List.getElem_mem hi)
      generalize xs[i] = x at *
      have c1 := comp_filter (tm := tmName 5) (t := C.t_in_rows_1 (C.r_in_rows k)) (e := C.e_in_rows_1 (C.r_in_rows k)) (vs := [5]) (ws := []) (ρ := [some (li xs), some (.int ((n + 1 : Nat) : Int)), some (lti ((xs.take i).flatMap fun x => (rowsI n (xs.filter fun y => !decide (y = x))).map fun r => x :: r)), some (.int x), none, none, none]) D.int (fun y => !decide (y = x)) D.int xs fun y _ => by
        simp only [turnC, C.t_in_rows_1, C.e_in_rows_1]
        generalize (lti ((xs.take i).flatMap fun x => (rowsI n (xs.filter fun y => !decide (y = x))).map fun r => x :: r)) = FL at *
        generalize li xs = X at *
        by_cases c : y = x <;> simp [c]
      generalize hF : (xs.filter fun y => !decide (y = x)) = O at *
      have hO : O.length ≤ 6 := by rw [← hF]; exact Nat.le_trans (List.length_filter_le _ _) hl
      have rl := rows_len (n := n) (xs := O) (c := 6) hO
      have p6 : 6 ^ n ≤ 6 ^ 6 := Nat.pow_le_pow_right (by omega) (by omega)
      have rm : ∀ r ∈ rowsI n O, r.length = n := fun r hr => (rows_mem.mp hr).1
      have c2 := comp_map (tm := tmName 6) (t := cYes) (e := C.e_in_rows_2 (C.r_in_rows k)) (vs := [6]) (ws := []) (ρ := [some (li xs), some (.int ((n + 1 : Nat) : Int)), some (lti ((xs.take i).flatMap fun x => (rowsI n (xs.filter fun y => !decide (y = x))).map fun r => x :: r)), some (.int x), some (li O), none, none]) ti (fun r => ti (x :: r)) (rowsI n O) fun r hr => by
        have rl := rm r hr
        have z : szOk (1 + r.length) = true := szOk_of (by omega)
        have z' : szOk (r.length + 1) = true := szOk_of (by omega)
        simp only [turnC, C.e_in_rows_2]
        generalize (lti ((xs.take i).flatMap fun x => (rowsI n (xs.filter fun y => !decide (y = x))).map fun r => x :: r)) = FL at *
        generalize li xs = X at *
        generalize li O = XO at *
        simp [z, z', szOk_of]
      have fl := flat_len (xs := xs.take i) (f := fun x => (rowsI n (xs.filter fun y => !decide (y = x))).map fun r => x :: r) (c := 6 ^ n) fun x _ => by
        rw [List.length_map]
        exact rows_len (Nat.le_trans (List.length_filter_le _ _) hl)
      have fl2 : (xs.take i).length * 6 ^ n ≤ 6 * 6 ^ 6 := Nat.mul_le_mul (by rw [List.length_take]; omega) p6
      have m1 : (rowsI n O).map (fun r => ti (x :: r)) = ((rowsI n O).map fun r => x :: r).map ti := by rw [List.map_map]; rfl
      rw [m1] at c2
      generalize hG : (xs.take i).flatMap (fun x => (rowsI n (xs.filter fun y => !decide (y = x))).map fun r => x :: r) = FL at *
      have el : lti (FL ++ (rowsI n O).map fun r => x :: r) = .lst (FL.map ti ++ ((rowsI n O).map fun r => x :: r).map ti) := by show D.lst _ = _; rw [List.map_append]
      have zf : szOk ((FL.map ti).length + (((rowsI n O).map fun r => x :: r).map ti).length) = true := szOk_of (by rw [List.length_map, List.length_map, List.length_map]; omega)
      have zr : szOk ((rowsI n O).map ti).length = true := szOk_of (by rw [List.length_map]; omega)
      have zx : szOk (xs.map D.int).length = true := szOk_of (by rw [List.length_map]; omega)
      have q1 : li xs = .lst (xs.map D.int) := rfl
      have q2 : li O = .lst (O.map D.int) := rfl
      have q3 : lti FL = .lst (FL.map ti) := rfl
      have q4 : lti (rowsI n O) = .lst ((rowsI n O).map ti) := rfl
      rw [q4, q2] at g
      rw [q1, q3] at c1
      rw [q1, q2, q3] at c2
      rw [el, q1, q3]
      have sb : subD (.int ((n + 1 : Nat) : Int)) (.int 1) = .ok (.int (n : Nat)) := by
        rw [d_sub]
        have : ((n + 1 : Nat) : Int) - 1 = (n : Int) := by omega
        rw [this]
      generalize ((n + 1 : Nat) : Int) = n1 at *
      simp only [turnF, C.b_in_rows_1]
      generalize C.t_in_rows_1 (C.r_in_rows k) = T1 at *
      generalize C.e_in_rows_1 (C.r_in_rows k) = E1 at *
      generalize C.e_in_rows_2 (C.r_in_rows k) = E2 at *
      generalize (((rowsI n O).map fun r => x :: r).map ti) = A1 at *
      generalize (rowsI n O).map ti = A2 at *
      generalize FL.map ti = A3 at *
      generalize O.map D.int = A4 at *
      generalize xs.map D.int = A5 at *
      simp [zx, c1, sb, g, zr, c2, zf, -d_sub]
    rw [List.take_length] at lp
    have e0 : rowsI (n + 1) xs = xs.flatMap fun x => (rowsI n (xs.filter fun y => !decide (y = x))).map fun r => x :: r := rfl
    rw [← e0] at lp
    have lp : forL (tmName 3) (C.b_in_rows_1 (C.r_in_rows k)) [3, 4] [] (xs.map D.int) [some (li xs), some (.int ((n + 1 : Nat) : Int)), some (.lst []), none, none, none, none] = _ := lp
    have zx : szOk (xs.map D.int).length = true := szOk_of (by rw [List.length_map]; omega)
    have ne : eqD (.int ((n + 1 : Nat) : Int)) (.int 0) = .ok (.bl false) := by
      rw [eqD_int, decide_eq_false (by omega)]
    have z0 : szOk 0 = true := szOk_of (by omega)
    have q1 : li xs = .lst (xs.map D.int) := rfl
    rw [q1] at lp ⊢
    simp only [C.r_in_rows, C.m_in_rows]
    generalize ((n + 1 : Nat) : Int) = n1 at *
    generalize C.b_in_rows_1 (C.r_in_rows k) = B at *
    generalize lti (rowsI (n + 1) xs) = LX at *
    generalize xs.map D.int = XS at *
    simp [e_fnP, ne, lp, zx, z0, -eqD_int]
end H

set_option Elab.async false
set_option linter.all false
set_option maxRecDepth 100000
namespace H
open PySem PySem.Spec PyProof.Rows L2 Y
def withR (ws : List (List Int)) (m n : Nat) : List (List Int) := (rowsI n (rgI m)).filter (rndB ws)
def allR (ws : List (List Int)) (m : Nat) : List (List Int) := (List.range m).flatMap fun n => withR ws m (n + 1)
theorem rgI_len {m : Nat} : (rgI m).length = m := by unfold rgI; simp
theorem withR_len {ws : List (List Int)} {m n : Nat} (hm : m ≤ 6) (hn : n ≤ 6) : (withR ws m n).length ≤ 46656 := by
  have h1 := rows_len (n := n) (xs := rgI m) (c := 6) (by rw [rgI_len]; exact hm)
  have p6 : 6 ^ n ≤ 6 ^ 6 := Nat.pow_le_pow_right (by omega) hn
  have := List.length_filter_le (rndB ws) (rowsI n (rgI m))
  unfold withR
  omega
theorem rings_with_ok {ns : List RuleT} {most n : Nat} (h : NetOk ns most) (hm : most ≤ 20) (h6 : ns.length ≤ 6) (h1 : 1 ≤ n) (hn : n ≤ 6) : C.g_rings_with [dNet ns, .int n] = .ok (.fr (lti (withR (wiresI ns) ns.length n))) := by
  obtain ⟨sb, _, wk⟩ := pairs_ok h hm
  have ln : lenD [dNet ns] = .ok (.int ns.length) := by simp
  have rg := rgB_of (n := ns.length) (by omega)
  have er : D.lst (rgD 0 ns.length) = li (rgI ns.length) := by
    rw [rgD_nat]
    unfold rgI
    show D.lst _ = D.lst _
    rw [List.map_map]
    rfl
  have ir := in_rows_ok (n := n) (k := 40) (xs := rgI ns.length) (by omega) (by rw [rgI_len]; exact h6) hn
  have ir : C.g_in_rows [li (rgI ns.length), .int n] = .ok (.fr (.lst ((rowsI n (rgI ns.length)).map ti))) := ir
  have rl := rows_len (n := n) (xs := rgI ns.length) (c := 6) (by rw [rgI_len]; exact h6)
  have p6 : 6 ^ n ≤ 6 ^ 6 := Nat.pow_le_pow_right (by omega) hn
  have zr : szOk ((rowsI n (rgI ns.length)).map ti).length = true := szOk_of (by rw [List.length_map]; omega)
  have c := comp_filter (tm := tmName 3) (t := C.t_rings_with_1) (e := C.e_rings_with_1) (vs := [3]) (ws := []) (ρ := [some (dNet ns), some (.int n), some (prD (wiresI ns)), none]) ti (rndB (wiresI ns)) ti (rowsI n (rgI ns.length)) fun r hr => by
    have l := (rows_mem.mp hr).1
    cases r with
    | nil => simp at l; omega
    | cons a t =>
      have rd := is_round_ok (ws := wiresI ns) (n := a) (ms := t) (by omega)
      generalize rndB (wiresI ns) (a :: t) = q at *
      simp only [turnC, C.t_rings_with_1, C.e_rings_with_1]
      generalize prD (wiresI ns) = PD at *
      generalize ti (a :: t) = T at *
      generalize dNet ns = N at *
      cases q <;> simp [rd]
  have er2 : li (rgI ns.length) = .lst ((rgI ns.length).map D.int) := rfl
  have e3 : lti (withR (wiresI ns) ns.length n) = .lst (((rowsI n (rgI ns.length)).filter (rndB (wiresI ns))).map ti) := rfl
  rw [e3]
  simp only [C.g_rings_with, C.m_rings_with]
  generalize C.t_rings_with_1 = T1 at *
  generalize C.e_rings_with_1 = E1 at *
  generalize ((rowsI n (rgI ns.length)).filter (rndB (wiresI ns))).map ti = A1 at *
  generalize (rowsI n (rgI ns.length)).map ti = A2 at *
  generalize prD (wiresI ns) = PD at *
  generalize dNet ns = N at *
  generalize li (rgI ns.length) = LI at *
  simp [e_fnP, sb, ln, rg, er, ir, zr, c]
theorem rings_of_ok {ns : List RuleT} {most : Nat} (h : NetOk ns most) (hm : most ≤ 20) (h6 : ns.length ≤ 6) : C.g_rings_of [dNet ns] = .ok (.fr (lti (sortL (allR (wiresI ns) ns.length)))) := by
  have ln : lenD [dNet ns] = .ok (.int ns.length) := by simp
  have nf : C.g_need_few [dNet ns] = .ok (.fr .non) := by
    have : ¬ (6 : Int) < ns.length := by omega
    simp only [C.g_need_few, C.m_need_few]
    generalize dNet ns = N at *
    simp [e_fnP, ln, this]
  have lp := for_idx (tm := tmName 2) (body := C.b_rings_of_1) (vs := [2]) (ws := []) (fun k : Nat => D.int (1 + (k : Int))) (List.range ns.length) (fun i => [some (dNet ns), some (lti ((List.range i).flatMap fun n => withR (wiresI ns) ns.length (n + 1))), none]) fun i hi => by
    rw [List.length_range] at hi
    refine ⟨by simp, ?_⟩
    rw [List.getElem_range, flat_range]
    have rw1 := rings_with_ok (n := i + 1) h hm h6 (by omega) (by omega)
    have ei : (1 : Int) + (i : Int) = ((i + 1 : Nat) : Int) := by omega
    rw [ei]
    have fl := flat_len (xs := List.range i) (f := fun n => withR (wiresI ns) ns.length (n + 1)) (c := 46656) fun x hx => withR_len h6 (by have := List.mem_range.mp hx; omega)
    rw [List.length_range] at fl
    have wl := withR_len (ws := wiresI ns) (m := ns.length) (n := i + 1) h6 (by omega)
    have fl2 : i * 46656 ≤ 6 * 46656 := Nat.mul_le_mul_right _ (by omega)
    generalize (List.range i).flatMap (fun n => withR (wiresI ns) ns.length (n + 1)) = FL at *
    generalize withR (wiresI ns) ns.length (i + 1) = WR at *
    have el : lti (FL ++ WR) = .lst (FL.map ti ++ WR.map ti) := by show D.lst _ = _; rw [List.map_append]
    have q3 : lti FL = .lst (FL.map ti) := rfl
    have q4 : lti WR = .lst (WR.map ti) := rfl
    have zf : szOk ((FL.map ti).length + (WR.map ti).length) = true := szOk_of (by rw [List.length_map, List.length_map]; omega)
    rw [q4] at rw1
    rw [el, q3]
    generalize FL.map ti = A1 at *
    generalize WR.map ti = A2 at *
    generalize ((i + 1 : Nat) : Int) = i1 at *
    simp only [turnF, C.b_rings_of_1]
    generalize dNet ns = N at *
    simp [rw1, zf]
  rw [List.length_range] at lp
  have lp : forL (tmName 2) C.b_rings_of_1 [2] [] ((List.range ns.length).map fun k : Nat => D.int (1 + (k : Int))) [some (dNet ns), some (.lst []), none] = .ok (.nx, [some (dNet ns), some (lti (allR (wiresI ns) ns.length)), none]) := lp
  have so := sortD_lti (L := allR (wiresI ns) ns.length) fun r hr => by
    obtain ⟨n, _, hr⟩ := List.mem_flatMap.mp hr
    have := (rows_mem.mp (List.mem_filter.mp hr).1).1
    intro z
    rw [z] at this
    cases this
  have r1 : rngOk 1 = true := rngOk_of (by omega) (by omega)
  have r2 : rngOk ((ns.length : Int) + 1) = true := rngOk_of (by omega) (by omega)
  have zk : szOk ns.length = true := szOk_of (by omega)
  have z0 : szOk 0 = true := szOk_of (by omega)
  have en : ((ns.length : Int) + 1 - 1).toNat = ns.length := by omega
  simp only [C.g_rings_of, C.m_rings_of]
  generalize C.b_rings_of_1 = B at *
  generalize lti (sortL (allR (wiresI ns) ns.length)) = X at *
  generalize lti (allR (wiresI ns) ns.length) = AR at *
  generalize dNet ns = N at *
  simp [e_fnP, nf, ln, r1, r2, zk, en, lp, so, shAt, chkO_ws, szOk_of]
end H

set_option Elab.async false
set_option linter.all false
set_option maxRecDepth 100000
namespace H
open PySem PySem.Spec PyProof.Rows L2 Y
def adj : Int → List Int → List (List Int)
  | _, [] => []
  | a, k :: s => [a, k] :: adj k s
theorem ls_cons {a k : Int} {s : List Int} : lsI (a :: k :: s) = lsI (k :: s) := by
  unfold lsI
  rw [List.getD_eq_getElem?_getD, List.getD_eq_getElem?_getD]
  simp
theorem zip_adj : ∀ {s : List Int} {a z : Int}, (((a :: s).zip (s ++ [z])).map fun p => [p.1, p.2]) = adj a s ++ [[lsI (a :: s), z]]
  | [], a, z => rfl
  | k :: s, a, z => by
    rw [ls_cons]
    have ih := zip_adj (s := s) (a := k) (z := z)
    show [a, k] :: (((k :: s).zip (s ++ [z])).map fun p => [p.1, p.2]) = _
    rw [ih]
    rfl
theorem stI_adj {a : Int} {s : List Int} : stI (a :: s) = adj a s ++ [[lsI (a :: s), a]] := zip_adj
theorem mem_rg {m : Nat} {x : Int} : x ∈ rgI m ↔ 0 ≤ x ∧ x < m := by
  unfold rgI
  rw [List.mem_map]
  constructor
  · rintro ⟨k, hk, rfl⟩
    have := List.mem_range.mp hk
    omega
  · rintro ⟨h1, h2⟩
    exact ⟨x.toNat, List.mem_range.mpr (by omega), by omega⟩
theorem min_iff {a : Int} {s : List Int} : a = minI a s ↔ ∀ x ∈ s, a ≤ x := by
  constructor
  · intro h x hx
    rw [h]
    exact minI_le (by simp [hx])
  · intro h
    refine Int.le_antisymm ?_ (minI_le (by simp))
    rcases List.mem_cons.mp (minI_mem (n := a) (ms := s)) with e | e
    · omega
    · exact h _ e
theorem rnd_iff {ws : List (List Int)} {a : Int} {s : List Int} : rndB ws (a :: s) = true ↔ (∀ x ∈ s, a ≤ x) ∧ (∀ p ∈ adj a s, p ∈ prI ws) ∧ [lsI (a :: s), a] ∈ prI ws := by
  show (decide (a = minI a s) && (stI (a :: s)).all (inP ws)) = true ↔ _
  rw [Bool.and_eq_true, decide_eq_true_eq, min_iff, List.all_eq_true, stI_adj]
  constructor
  · rintro ⟨h1, h2⟩
    exact ⟨h1, fun p hp => of_decide_eq_true (h2 p (by simp [hp])), of_decide_eq_true (h2 _ (by simp))⟩
  · rintro ⟨h1, h2, h3⟩
    refine ⟨h1, fun p hp => ?_⟩
    rcases List.mem_append.mp hp with hp | hp
    · exact decide_eq_true (h2 p hp)
    · rw [List.mem_singleton.mp hp]; exact decide_eq_true h3
end H

set_option Elab.async false
set_option linter.all false
set_option maxRecDepth 100000
namespace H
open PySem PySem.Spec PyProof.Rows L2 Y
end H

set_option Elab.async false
set_option linter.all false
set_option maxRecDepth 100000
namespace H
open PySem PySem.Spec PyProof.Rows L2 Y
end H

set_option Elab.async false
set_option linter.all false
set_option maxRecDepth 100000
namespace H
open PySem PySem.Spec PyProof.Rows L2 Y
end H

set_option Elab.async false
set_option linter.all false
set_option maxRecDepth 100000
namespace H
open PySem PySem.Spec PyProof.Rows L2 Y
end H

set_option Elab.async false
set_option linter.all false
set_option maxRecDepth 100000
namespace H
open PySem PySem.Spec PyProof.Rows L2 Y
theorem eq_nilLT {S : List (List Int)} : eqD (lti S) (.lst []) = .ok (.bl S.isEmpty) := by
  have e : eqD (lti S) (lti []) = .ok (.bl (decide (S = []))) := by
    rw [eqD_of (fit_lti (n := 1)) (fit_lti (n := 1))]
    cases S with
    | nil => rfl
    | cons a S => rfl
  have e2 : decide (S = []) = S.isEmpty := by cases S <;> rfl
  rw [← e2]
  exact e
end H

set_option Elab.async false
set_option linter.all false
set_option maxRecDepth 100000
namespace H
open PySem PySem.Spec PyProof.Rows L2 Y
end H

set_option Elab.async false
set_option linter.all false
set_option maxRecDepth 100000
namespace H
open PySem PySem.Spec PyProof.Rows L2 Y
theorem all_mem {ws : List (List Int)} {m : Nat} {r : List Int} (hm : m ≤ 6) (h : r ∈ sortL (allR ws m)) : ∃ a s, r = a :: s ∧ r.length ≤ 6 ∧ ∀ p ∈ stI r, p ∈ prI ws := by
  obtain ⟨n, hn, hr⟩ := List.mem_flatMap.mp ((sortL_perm _).mem_iff.mp h)
  obtain ⟨h1, h2⟩ := List.mem_filter.mp hr
  have l := (rows_mem.mp h1).1
  have := List.mem_range.mp hn
  cases r with
  | nil => cases l
  | cons a s =>
    refine ⟨a, s, rfl, by omega, fun p hp => ?_⟩
    have h2 : (decide (a = minI a s) && (stI (a :: s)).all (inP ws)) = true := h2
    rw [Bool.and_eq_true, List.all_eq_true] at h2
    exact of_decide_eq_true (h2.2 p hp)
end H

set_option Elab.async false
set_option linter.all false
set_option maxRecDepth 100000
namespace H
open PySem PySem.Spec PyProof.Rows L2 Y
theorem for_first {α β : Type} {tm : GM} {body : SM} {vs ws : List Nat} (F : α → D) (f : α → Option β) (hd : β → Hd) : ∀ (xs : List α) (ρ : Y.Env), (∀ x ∈ xs, (f x = none → turnF tm body vs (F x) ρ = .ok (.nx, ρ)) ∧ (∀ b, f x = some b → ∃ ρ', turnF tm body vs (F x) ρ = .ok (.rt (hd b), ρ'))) →
    (xs.findSome? f = none → forL tm body vs ws (xs.map F) ρ = .ok (.nx, ρ)) ∧ (∀ b, xs.findSome? f = some b → ∃ ρ', forL tm body vs ws (xs.map F) ρ = .ok (.rt (hd b), ρ'))
  | [], ρ, _ => ⟨fun _ => rfl, fun b h => by cases h⟩
  | x :: xs, ρ, h => by
    obtain ⟨h1, h2⟩ := h x (by simp)
    have ih := for_first (ws := ws) F f hd xs ρ fun y hy => h y (by simp [hy])
    rw [List.map_cons, List.findSome?_cons]
    cases e : f x with
    | none =>
      have t := h1 e
      refine ⟨fun z => for_cons t (fun _ _ => rfl) (ih.1 z), fun b z => ?_⟩
      obtain ⟨ρ', r⟩ := ih.2 b z
      exact ⟨ρ', for_cons t (fun _ _ => rfl) r⟩
    | some b0 =>
      obtain ⟨ρ', t⟩ := h2 b0 e
      refine ⟨fun z => (by cases z), fun b z => ?_⟩
      cases z
      exact ⟨ρ', for_rt t⟩
end H

set_option Elab.async false
set_option linter.all false
set_option maxRecDepth 100000
namespace H
open PySem PySem.Spec PyProof.Rows L2 Y
end H

set_option Elab.async false
set_option linter.all false
set_option maxRecDepth 100000
namespace H
open PySem PySem.Spec PyProof.Rows L2 Y
abbrev StpT := Nat × Int
def wkE (Q : Nat → Nat → Int → Prop) : Nat → List StpT → Prop
  | _, [] => True
  | a, p :: L => Q a p.1 p.2 ∧ wkE Q p.1 L
def endV : Nat → List StpT → Nat
  | a, [] => a
  | _, p :: L => endV p.1 L
def sgW : List StpT → Int
  | [] => 1
  | p :: L => p.2 * sgW L
section
variable {Q : Nat → Nat → Int → Prop}
theorem wk_app : ∀ {A B : List StpT} {a : Nat}, wkE Q a (A ++ B) ↔ wkE Q a A ∧ wkE Q (endV a A) B
  | [], B, a => by simp [wkE, endV]
  | p :: A, B, a => by
    show (Q a p.1 p.2 ∧ wkE Q p.1 (A ++ B)) ↔ (Q a p.1 p.2 ∧ wkE Q p.1 A) ∧ wkE Q (endV p.1 A) B
    rw [wk_app, and_assoc]
theorem end_app : ∀ {A B : List StpT} {a : Nat}, endV a (A ++ B) = endV (endV a A) B
  | [], B, a => rfl
  | p :: A, B, a => by
    show endV p.1 (A ++ B) = endV (endV p.1 A) B
    exact end_app
theorem sg_app : ∀ {A B : List StpT}, sgW (A ++ B) = sgW A * sgW B
  | [], B => by show sgW B = 1 * sgW B; omega
  | p :: A, B => by
    show p.2 * sgW (A ++ B) = p.2 * sgW A * sgW B
    rw [sg_app, Int.mul_assoc]
theorem sg_pm (hQ : ∀ a b s, Q a b s → s = 1 ∨ s = -1) : ∀ {L : List StpT} {a : Nat}, wkE Q a L → sgW L = 1 ∨ sgW L = -1
  | [], _, _ => .inl rfl
  | p :: L, a, h => mul_sgn (hQ _ _ _ h.1) (sg_pm hQ h.2)
theorem nd_split : ∀ {L : List StpT}, ¬ (L.map (·.1)).Nodup → ∃ A x B y C, L = A ++ x :: (B ++ y :: C) ∧ x.1 = y.1
  | [], h => absurd (by simp) h
  | p :: L, h => by
    by_cases c : p.1 ∈ L.map (·.1)
    · obtain ⟨y, hy, e⟩ := List.mem_map.mp c
      obtain ⟨B, C, rfl⟩ := List.append_of_mem hy
      exact ⟨[], p, B, y, C, rfl, e.symm⟩
    · have : ¬ (L.map (·.1)).Nodup := fun z => h (by rw [List.map_cons, List.nodup_cons]; exact ⟨c, z⟩)
      obtain ⟨A, x, B, y, C, rfl, e⟩ := nd_split this
      exact ⟨p :: A, x, B, y, C, rfl, e⟩
theorem wk_inner {A B C : List StpT} {x y : StpT} {a : Nat} (h : wkE Q a (A ++ x :: (B ++ y :: C))) (e : x.1 = y.1) : wkE Q x.1 (B ++ [y]) ∧ endV x.1 (B ++ [y]) = x.1 := by
  have h1 := (wk_app.mp h).2.2
  have h2 := wk_app.mp h1
  refine ⟨wk_app.mpr ⟨h2.1, h2.2.1, trivial⟩, ?_⟩
  rw [end_app]
  exact e.symm
theorem wk_outer {A B C : List StpT} {x y : StpT} {a : Nat} (h : wkE Q a (A ++ x :: (B ++ y :: C))) (e : x.1 = y.1) (he : endV a (A ++ x :: (B ++ y :: C)) = a) : wkE Q a (A ++ x :: C) ∧ endV a (A ++ x :: C) = a := by
  have h0 := wk_app.mp h
  have h2 := wk_app.mp h0.2.2
  refine ⟨wk_app.mpr ⟨h0.1, h0.2.1, by rw [e]; exact h2.2.2⟩, ?_⟩
  rw [end_app] at he ⊢
  have he : endV x.1 (B ++ y :: C) = a := he
  rw [end_app] at he
  show endV x.1 C = a
  rw [e]
  exact he
theorem simple_of : ∀ (n : Nat) {a : Nat} {L : List StpT}, L.length ≤ n → L ≠ [] → wkE Q a L → endV a L = a → ∃ a' L', L' ≠ [] ∧ wkE Q a' L' ∧ endV a' L' = a' ∧ (L'.map (·.1)).Nodup
  | 0, a, L, hl, hn, _, _ => absurd (List.eq_nil_of_length_eq_zero (by omega)) hn
  | n + 1, a, L, hl, hn, hw, he => by
    by_cases nd : (L.map (·.1)).Nodup
    · exact ⟨a, L, hn, hw, he, nd⟩
    · obtain ⟨A, x, B, y, C, rfl, e⟩ := nd_split nd
      obtain ⟨i1, i2⟩ := wk_inner hw e
      exact simple_of n (by simp at hl ⊢; omega) (by simp) i1 i2
theorem neg_simple (hQ : ∀ a b s, Q a b s → s = 1 ∨ s = -1) : ∀ (n : Nat) {a : Nat} {L : List StpT}, L.length ≤ n → wkE Q a L → endV a L = a → sgW L = -1 → ∃ a' L', L' ≠ [] ∧ wkE Q a' L' ∧ endV a' L' = a' ∧ (L'.map (·.1)).Nodup ∧ sgW L' = -1
  | 0, a, L, hl, _, _, hs => by
    rw [List.eq_nil_of_length_eq_zero (by omega : L.length = 0)] at hs
    exact absurd hs (by decide)
  | n + 1, a, L, hl, hw, he, hs => by
    by_cases nd : (L.map (·.1)).Nodup
    · refine ⟨a, L, fun z => ?_, hw, he, nd, hs⟩
      rw [z] at hs
      exact absurd hs (by decide)
    · obtain ⟨A, x, B, y, C, rfl, e⟩ := nd_split nd
      obtain ⟨i1, i2⟩ := wk_inner hw e
      obtain ⟨o1, o2⟩ := wk_outer hw e he
      have p : sgW (A ++ x :: (B ++ y :: C)) = sgW (A ++ x :: C) * sgW (B ++ [y]) := by
        rw [sg_app, sg_app, sg_app]
        show sgW A * (x.2 * sgW (B ++ y :: C)) = sgW A * (x.2 * sgW C) * (sgW B * (y.2 * 1))
        rw [sg_app]
        show sgW A * (x.2 * (sgW B * (y.2 * sgW C))) = sgW A * (x.2 * sgW C) * (sgW B * (y.2 * 1))
        rw [Int.mul_one, Int.mul_assoc, Int.mul_assoc, Int.mul_comm (sgW C), Int.mul_assoc (sgW B)]
      rw [p] at hs
      rcases sg_pm hQ o1 with q | q
      · have : sgW (B ++ [y]) = -1 := by rw [q] at hs; omega
        exact neg_simple hQ n (by simp at hl ⊢; omega) i1 i2 this
      · exact neg_simple hQ n (by simp at hl ⊢; omega) o1 o2 q
end
def prs : Nat → List StpT → List (List Int)
  | _, [] => []
  | a, p :: L => [(a : Int), (p.1 : Int)] :: prs p.1 L
abbrev vs' (K : List StpT) : List Int := K.map fun p => (p.1 : Int)
theorem prs_adj : ∀ {K : List StpT} {a : Nat} {z : StpT}, prs a (K ++ [z]) = adj (a : Int) (vs' K) ++ [[lsI ((a : Int) :: vs' K), (z.1 : Int)]]
  | [], a, z => rfl
  | p :: K, a, z => by
    show [(a : Int), (p.1 : Int)] :: prs p.1 (K ++ [z]) = [(a : Int), (p.1 : Int)] :: adj (p.1 : Int) (vs' K) ++ [[lsI ((a : Int) :: (p.1 : Int) :: vs' K), (z.1 : Int)]]
    rw [prs_adj, ls_cons]
    rfl
section
variable {ws : List (List Int)} {m : Nat}
def inW (ws : List (List Int)) (a b : Nat) (s : Int) : Prop := [(a : Int), (b : Int), s] ∈ ws
theorem inW_ok (h : WOk m ws) {a b : Nat} {s : Int} (e : inW ws a b s) : a < m ∧ b < m ∧ (s = 1 ∨ s = -1) := by
  obtain ⟨j, k, hj, hk, q⟩ := h.2 _ e
  rcases q with q | q
  · injection q with q1 q; injection q with q2 q; injection q with q3 q
    exact ⟨by omega, by omega, .inl q3⟩
  · injection q with q1 q; injection q with q2 q; injection q with q3 q
    exact ⟨by omega, by omega, .inr q3⟩
theorem inW_pr {a b : Nat} {s : Int} (e : inW ws a b s) : [(a : Int), (b : Int)] ∈ prI ws := mem_prI.mpr ⟨_, e, rfl⟩
theorem inW_sg {a b : Nat} {s : Int} (e : inW ws a b s) : s ∈ sgs ws [(a : Int), (b : Int)] := by
  unfold sgs
  exact List.mem_map.mpr ⟨_, List.mem_filter.mpr ⟨e, decide_eq_true rfl⟩, rfl⟩
theorem sgs_ends (h : WOk m ws) {p : List Int} {s : Int} (hs : s ∈ sgs ws p) : s = fsI (sgs ws p) ∨ s = lsI (sgs ws p) := by
  have mem : ∀ x ∈ sgs ws p, x ∈ [(1 : Int), -1] := fun x hx => by
    obtain ⟨t, ht, rfl⟩ := List.mem_map.mp hx
    obtain ⟨j, k, _, _, e⟩ := h.2 t (List.mem_filter.mp ht).1
    rcases e with rfl | rfl <;> simp
  have nd : (sgs ws p).Nodup := by
    unfold sgs
    have n1 : (ws.filter fun t => decide (t.take 2 = p)).Nodup := List.Pairwise.sublist List.filter_sublist h.1
    refine List.pairwise_map.mpr (n1.imp_of_mem fun {a b} ha hb hab e => hab ?_)
    obtain ⟨a1, a2⟩ := List.mem_filter.mp ha
    obtain ⟨b1, b2⟩ := List.mem_filter.mp hb
    have a2 := of_decide_eq_true a2
    have b2 := of_decide_eq_true b2
    obtain ⟨j, k, _, _, ea⟩ := h.2 a a1
    obtain ⟨j', k', _, _, eb⟩ := h.2 b b1
    rcases ea with rfl | rfl <;> rcases eb with rfl | rfl <;> (simp at e a2 b2; try (rw [← a2] at b2; simp at b2; simp [b2]))
  have l2 := nodup_len nd mem
  have go : ∀ l : List Int, l.length ≤ 2 → s ∈ l → s = fsI l ∨ s = lsI l := fun l h1 h2 => by
    match l, h1, h2 with
    | [], _, h2 => cases h2
    | [x], _, h2 => exact .inl (List.mem_singleton.mp h2)
    | [x, y], _, h2 =>
      rcases List.mem_cons.mp h2 with e | e
      · exact .inl e
      · exact .inr (List.mem_singleton.mp e)
    | _ :: _ :: _ :: _, h1, _ => simp at h1
  exact go _ l2 hs
theorem sg_in (h : WOk m ws) : ∀ {L : List StpT} {a : Nat} {f : List Int} {x : Int}, wkE (inW ws) a L → x ∈ f → x * sgW L ∈ (prs a L).foldl (stepG ws) f
  | [], a, f, x, _, hx => by
    show x * 1 ∈ f
    rw [Int.mul_one]
    exact hx
  | p :: L, a, f, x, hw, hx => by
    show x * (p.2 * sgW L) ∈ (prs p.1 L).foldl (stepG ws) (stepG ws f [(a : Int), (p.1 : Int)])
    rw [← Int.mul_assoc]
    refine sg_in h hw.2 (mem_stepG.mpr ⟨x, hx, ?_⟩)
    rcases sgs_ends h (inW_sg hw.1) with e | e
    · exact .inl (by rw [← e])
    · exact .inr (by rw [← e])
theorem wk_lt (h : WOk m ws) : ∀ {L : List StpT} {a : Nat}, wkE (inW ws) a L → ∀ p ∈ L, p.1 < m
  | [], _, _, p, hp => by cases hp
  | q :: L, a, hw, p, hp => by
    rcases List.mem_cons.mp hp with rfl | hp
    · exact (inW_ok h hw.1).2.1
    · exact wk_lt h hw.2 p hp
theorem prs_in : ∀ {L : List StpT} {a : Nat}, wkE (inW ws) a L → ∀ p ∈ prs a L, p ∈ prI ws
  | [], _, _, p, hp => by cases hp
  | q :: L, a, hw, p, hp => by
    rcases List.mem_cons.mp hp with rfl | hp
    · exact inW_pr hw.1
    · exact prs_in hw.2 p hp
theorem least_v : ∀ {L : List StpT}, L ≠ [] → ∃ p ∈ L, ∀ q ∈ L, p.1 ≤ q.1
  | [], h => absurd rfl h
  | [x], _ => ⟨x, by simp, fun q hq => by rw [List.mem_singleton.mp hq]; exact Nat.le_refl _⟩
  | x :: y :: L, _ => by
    obtain ⟨p, hp, h⟩ := least_v (L := y :: L) (by simp)
    by_cases c : x.1 ≤ p.1
    · refine ⟨x, by simp, fun q hq => ?_⟩
      rcases List.mem_cons.mp hq with rfl | hq
      · exact Nat.le_refl _
      · exact Nat.le_trans c (h q hq)
    · refine ⟨p, List.mem_cons_of_mem _ hp, fun q hq => ?_⟩
      rcases List.mem_cons.mp hq with rfl | hq
      · omega
      · exact h q hq
/-- a closed walk that meets no switch twice is a ring -/
theorem ring_of (h : WOk m ws) {a : Nat} {L : List StpT} (hn : L ≠ []) (hw : wkE (inW ws) a L) (he : endV a L = a) (nd : (L.map (·.1)).Nodup) :
    ∃ r ∈ sortL (allR ws m), sgW L ∈ signsR ws (stI r) ∧ ∀ x ∈ r, ∃ p ∈ L, x = (p.1 : Int) := by
  obtain ⟨p, hp, least⟩ := least_v hn
  obtain ⟨A, B, rfl⟩ := List.append_of_mem hp
  obtain ⟨w1, w2⟩ := wk_app.mp hw
  have e2 : endV p.1 B = a := by rw [end_app] at he; exact he
  have w3 : wkE (inW ws) p.1 (B ++ A ++ [p]) := by
    rw [List.append_assoc]
    refine wk_app.mpr ⟨w2.2, ?_⟩
    rw [e2]
    exact wk_app.mpr ⟨w1, w2.1, trivial⟩
  have sg : sgW (B ++ A ++ [p]) = sgW (A ++ p :: B) := by
    rw [sg_app, sg_app, sg_app]
    show sgW B * sgW A * (p.2 * 1) = sgW A * (p.2 * sgW B)
    rw [Int.mul_one, Int.mul_comm (sgW B), Int.mul_assoc, Int.mul_comm (sgW B)]
  have pm : (p :: (B ++ A)).Perm (A ++ p :: B) := by
    have : (A ++ p :: B).Perm (p :: (A ++ B)) := List.perm_middle
    exact (List.Perm.cons p List.perm_append_comm).trans this.symm
  have e1 : stI ((p.1 : Int) :: vs' (B ++ A)) = prs p.1 (B ++ A ++ [p]) := by rw [prs_adj, stI_adj]
  have ndr : ((p.1 : Int) :: vs' (B ++ A)).Nodup := by
    have n1 : ((p :: (B ++ A)).map (·.1)).Nodup := (pm.map _).nodup_iff.mpr nd
    have : ((p.1 : Int) :: vs' (B ++ A)) = ((p :: (B ++ A)).map (·.1)).map fun k : Nat => (k : Int) := by rw [List.map_map]; rfl
    rw [this]
    refine List.pairwise_map.mpr (n1.imp fun hab e => hab (by omega))
  have lt : ∀ q ∈ A ++ p :: B, q.1 < m := wk_lt h hw
  have mem : ∀ x ∈ ((p.1 : Int) :: vs' (B ++ A)), ∃ q ∈ A ++ p :: B, x = (q.1 : Int) := fun x hx => by
    have : x ∈ (p :: (B ++ A)).map fun q => (q.1 : Int) := hx
    obtain ⟨q, hq, rfl⟩ := List.mem_map.mp this
    exact ⟨q, pm.mem_iff.mp hq, rfl⟩
  have rg : ∀ x ∈ ((p.1 : Int) :: vs' (B ++ A)), x ∈ rgI m := fun x hx => by
    obtain ⟨q, hq, rfl⟩ := mem x hx
    have := lt q hq
    exact mem_rg.mpr ⟨by omega, by omega⟩
  refine ⟨(p.1 : Int) :: vs' (B ++ A), (sortL_perm _).mem_iff.mpr ?_, ?_, mem⟩
  · have ln := nodup_len ndr rg
    rw [rgI_len, List.length_cons] at ln
    refine List.mem_flatMap.mpr ⟨(vs' (B ++ A)).length, List.mem_range.mpr (by omega), List.mem_filter.mpr ⟨rows_mem.mpr ⟨by simp, ndr, rg⟩, ?_⟩⟩
    have pin := prs_in w3
    rw [← e1, stI_adj] at pin
    refine rnd_iff.mpr ⟨fun x hx => ?_, fun q hq => pin q (List.mem_append_left _ hq), pin _ (by simp)⟩
    obtain ⟨q, hq, rfl⟩ := mem x (List.mem_cons_of_mem _ hx)
    have := least q hq
    omega
  · have := sg_in h (f := [1]) (x := 1) w3 (by simp)
    rw [Int.one_mul, sg] at this
    unfold signsR
    rw [e1]
    exact this
/-- a closed walk of sign -1: a ring that can be -1 -/
theorem neg_ring (h : WOk m ws) {a : Nat} {L : List StpT} (hw : wkE (inW ws) a L) (he : endV a L = a) (hs : sgW L = -1) : ∃ r ∈ sortL (allR ws m), (-1 : Int) ∈ signsR ws (stI r) := by
  obtain ⟨a', L', h1, h2, h3, h4, h5⟩ := neg_simple (fun a b s e => (inW_ok h e).2.2) _ (Nat.le_refl _) hw he hs
  obtain ⟨r, r1, r2, _⟩ := ring_of h h1 h2 h3 h4
  rw [h5] at r2
  exact ⟨r, r1, r2⟩
end
end H

set_option Elab.async false
set_option linter.all false
set_option maxRecDepth 100000
namespace H
open PySem PySem.Spec PyProof.Rows L2 Y
section
variable {ns : List RuleT} {most : Nat}
theorem wires_in (ok : NetOk ns most) {t : List Int} : t ∈ wiresI ns ↔ ∃ st, IsSt ns.length st ∧ ∃ j, j < ns.length ∧ ∃ k, k < ns.length ∧ chI ns st j k ≠ 0 ∧ t = [(j : Int), (k : Int), chI ns st j k] := by
  have a : t ∈ wiresI ns ↔ t ∈ wiresL ns := (sortL_perm _).mem_iff
  rw [a, wires_iff ok, lawL_mem]
  constructor
  · rintro ⟨st, h1, j, h2, k, h3, h4⟩; exact ⟨st, stands_st h1, j, List.mem_range.mp h2, k, List.mem_range.mp h3, h4⟩
  · rintro ⟨st, h1, j, h2, k, h3, h4⟩; exact ⟨st, mem_stands.mpr h1, j, List.mem_range.mpr h2, k, List.mem_range.mpr h3, h4⟩
def mixT (m : Nat) (a b : List Int) (i : Nat) : List Int := (List.range m).map fun j => if j < i then b.getD j 0 else a.getD j 0
theorem mix_get {m i j : Nat} {a b : List Int} (h : j < m) : (mixT m a b i).getD j 0 = if j < i then b.getD j 0 else a.getD j 0 := by
  unfold mixT
  rw [List.getD_eq_getElem?_getD, List.getElem?_map, List.getElem?_range h]
  rfl
theorem mix_len {m i : Nat} {a b : List Int} : (mixT m a b i).length = m := by unfold mixT; rw [List.length_map, List.length_range]
theorem mix_st {m i : Nat} {a b : List Int} (ha : IsSt m a) (hb : IsSt m b) : IsSt m (mixT m a b i) := ⟨mix_len, fun x hx => by
  obtain ⟨j, _, rfl⟩ := List.mem_map.mp hx
  split
  · exact hb.get j
  · exact ha.get j⟩
theorem mix_0 {m : Nat} {a b : List Int} (ha : IsSt m a) : mixT m a b 0 = a := getD_ext (by rw [mix_len, ha.len]) fun j hj => by
  rw [mix_len] at hj
  rw [mix_get hj, if_neg (by omega)]
theorem mix_m {m : Nat} {a b : List Int} (hb : IsSt m b) : mixT m a b m = b := getD_ext (by rw [mix_len, hb.len]) fun j hj => by
  rw [mix_len] at hj
  rw [mix_get hj, if_pos hj]
theorem first_turn {f : Nat → Int} {u v : Int} (hb : ∀ i, f i = u ∨ f i = v) (huv : u ≠ v) : ∀ n, f 0 = u → f n = v → ∃ i, i < n ∧ f i = u ∧ f (i + 1) = v
  | 0, h0, h1 => absurd (h0.symm.trans h1) huv
  | n + 1, h0, h1 => by
    rcases hb n with h | h
    · exact ⟨n, by omega, h, h1⟩
    · obtain ⟨i, hi, a, b⟩ := first_turn hb huv n h0 h
      exact ⟨i, by omega, a, b⟩
/-- an ought that differs: a wire from a switch that differs -/
theorem diff_wire (ok : NetOk ns most) {a b : List Int} (ha : IsSt ns.length a) (hb : IsSt ns.length b) {k : Nat} (hk : k < ns.length) (h : oughtI ns a k ≠ oughtI ns b k) :
    ∃ j, j < ns.length ∧ a.getD j 0 ≠ b.getD j 0 ∧ inW (wiresI ns) j k ((b.getD j 0 - a.getD j 0) * (oughtI ns b k - oughtI ns a k)) := by
  have bit := fun st => ok.bit hk st
  obtain ⟨i, hi, f0, f1⟩ := first_turn (f := fun i => oughtI ns (mixT ns.length a b i) k) (u := oughtI ns a k) (v := oughtI ns b k) (fun i => by
    have h1 := bit a
    have h2 := bit b
    have h3 := bit (mixT ns.length a b i)
    omega) h ns.length (by rw [mix_0 ha]) (by rw [mix_m hb])
  have s0 := mix_st (i := i) ha hb
  have s1 := mix_st (i := i + 1) ha hb
  have ga := ha.get i
  have gb := hb.get i
  have next : mixT ns.length a b (i + 1) = withI (mixT ns.length a b i) i (b.getD i 0) := getD_ext (by rw [mix_len, with_len (by rw [mix_len]; exact hi), mix_len]) fun j hj => by
    rw [mix_len] at hj
    rw [mix_get hj, with_get (by rw [mix_len]; exact hi)]
    by_cases e : j = i
    · subst e
      rw [if_pos (by omega), if_pos rfl]
    · rw [if_neg e, mix_get hj]
      by_cases c : j < i
      · rw [if_pos (by omega), if_pos c]
      · rw [if_neg (by omega), if_neg c]
  have back : mixT ns.length a b i = withI (mixT ns.length a b (i + 1)) i (a.getD i 0) := getD_ext (by rw [mix_len, with_len (by rw [mix_len]; exact hi), mix_len]) fun j hj => by
    rw [mix_len] at hj
    rw [mix_get hj, with_get (by rw [mix_len]; exact hi)]
    by_cases e : j = i
    · subst e
      rw [if_neg (by omega), if_pos rfl]
    · rw [if_neg e, mix_get hj]
      by_cases c : j < i
      · rw [if_pos c, if_pos (by omega)]
      · rw [if_neg c, if_neg (by omega)]
  have ne : a.getD i 0 ≠ b.getD i 0 := fun z => by
    have : mixT ns.length a b (i + 1) = mixT ns.length a b i := getD_ext (by rw [mix_len, mix_len]) fun j hj => by
      rw [mix_len] at hj
      rw [mix_get hj, mix_get hj]
      by_cases e : j = i
      · subst e
        rw [if_pos (by omega), if_neg (by omega), z]
      · by_cases c : j < i
        · rw [if_pos (by omega), if_pos c]
        · rw [if_neg (by omega), if_neg c]
    rw [this] at f1
    exact h (f0.symm.trans f1)
  refine ⟨i, hi, ne, (wires_in ok).mpr ?_⟩
  by_cases c : b.getD i 0 = 1
  · have a0 : a.getD i 0 = 0 := by omega
    rw [c] at next
    have ch : chI ns (mixT ns.length a b i) i k = oughtI ns b k - oughtI ns a k := by
      unfold chI
      rw [← next, f1, f0]
    refine ⟨_, s0, i, hi, k, hk, by rw [ch]; omega, ?_⟩
    rw [ch, c, a0]
    simp
  · have b0 : b.getD i 0 = 0 := by omega
    have a1 : a.getD i 0 = 1 := by omega
    rw [a1] at back
    have ch : chI ns (mixT ns.length a b (i + 1)) i k = oughtI ns a k - oughtI ns b k := by
      unfold chI
      rw [← back, f1, f0]
    refine ⟨_, s1, i, hi, k, hk, by rw [ch]; omega, ?_⟩
    rw [ch, a1, b0]
    have : (0 - 1) * (oughtI ns b k - oughtI ns a k) = oughtI ns a k - oughtI ns b k := by omega
    rw [this]
/-- the wires inside of what differs, of the sign of both differences -/
def dfQ (ns : List RuleT) (a b : List Int) (j k : Nat) (s : Int) : Prop := inW (wiresI ns) j k s ∧ a.getD j 0 ≠ b.getD j 0 ∧ a.getD k 0 ≠ b.getD k 0 ∧ s = (b.getD j 0 - a.getD j 0) * (b.getD k 0 - a.getD k 0)
theorem df_sg {a b : List Int} (ha : IsSt ns.length a) (hb : IsSt ns.length b) : ∀ {L : List StpT} {u : Nat}, a.getD u 0 ≠ b.getD u 0 → wkE (dfQ ns a b) u L → sgW L = (b.getD u 0 - a.getD u 0) * (b.getD (endV u L) 0 - a.getD (endV u L) 0)
  | [], u, h, _ => by
    have h1 := ha.get u
    have h2 := hb.get u
    show (1 : Int) = (b.getD u 0 - a.getD u 0) * (b.getD u 0 - a.getD u 0)
    have : b.getD u 0 - a.getD u 0 = 1 ∨ b.getD u 0 - a.getD u 0 = -1 := by omega
    rcases this with e | e <;> rw [e] <;> rfl
  | p :: L, u, h, hw => by
    obtain ⟨⟨q1, q2, q3, q4⟩, hw⟩ := hw
    have ih := df_sg ha hb q3 hw
    show p.2 * sgW L = (b.getD u 0 - a.getD u 0) * (b.getD (endV p.1 L) 0 - a.getD (endV p.1 L) 0)
    rw [ih, q4]
    have h1 := ha.get p.1
    have h2 := hb.get p.1
    have : b.getD p.1 0 - a.getD p.1 0 = 1 ∨ b.getD p.1 0 - a.getD p.1 0 = -1 := by omega
    rcases this with e | e <;> rw [e]
    · rw [Int.mul_one, Int.one_mul]
    · generalize b.getD u 0 - a.getD u 0 = x
      generalize b.getD (endV p.1 L) 0 - a.getD (endV p.1 L) 0 = y
      simp [Int.mul_neg, Int.neg_mul]
theorem wk_imp {Q R : Nat → Nat → Int → Prop} (h : ∀ a b s, Q a b s → R a b s) : ∀ {L : List StpT} {a : Nat}, wkE Q a L → wkE R a L
  | [], _, _ => trivial
  | _ :: _, _, hw => ⟨h _ _ _ hw.1, wk_imp h hw.2⟩
/-- two stands that stay where they differ: a ring of sign 1 among what differs -/
theorem pos_ring (ok : NetOk ns most) (w : WOk ns.length (wiresI ns)) {a b : List Int} (ha : IsSt ns.length a) (hb : IsSt ns.length b) (ne : a ≠ b) (sa : ∀ k, k < ns.length → a.getD k 0 ≠ b.getD k 0 → oughtI ns a k = a.getD k 0) (sb : ∀ k, k < ns.length → a.getD k 0 ≠ b.getD k 0 → oughtI ns b k = b.getD k 0) :
    ∃ r ∈ sortL (allR (wiresI ns) ns.length), (1 : Int) ∈ signsR (wiresI ns) (stI r) ∧ ∀ x ∈ r, ∃ k : Nat, x = (k : Int) ∧ k < ns.length ∧ a.getD k 0 ≠ b.getD k 0 := by
  have pred : ∀ k, k < ns.length → a.getD k 0 ≠ b.getD k 0 → ∃ j, j < ns.length ∧ a.getD j 0 ≠ b.getD j 0 ∧ ∃ s, dfQ ns a b j k s := fun k hk hd => by
    obtain ⟨j, hj, hd2, q⟩ := diff_wire ok ha hb hk (by rw [sa k hk hd, sb k hk hd]; exact hd)
    rw [sa k hk hd, sb k hk hd] at q
    exact ⟨j, hj, hd2, _, q, hd2, hd, rfl⟩
  have some_k : ∃ k, k < ns.length ∧ a.getD k 0 ≠ b.getD k 0 := by
    refine Classical.byContradiction fun z => ne (getD_ext (by rw [ha.len, hb.len]) fun k hk => ?_)
    refine Classical.byContradiction fun c => z ⟨k, by rw [ha.len] at hk; exact hk, c⟩
  have long : ∀ n, ∃ u L, u < ns.length ∧ a.getD u 0 ≠ b.getD u 0 ∧ wkE (dfQ ns a b) u L ∧ L.length = n := by
    intro n
    induction n with
    | zero =>
      obtain ⟨k, h1, h2⟩ := some_k
      exact ⟨k, [], h1, h2, trivial, rfl⟩
    | succ n ih =>
      obtain ⟨u, L, h1, h2, h3, h4⟩ := ih
      obtain ⟨j, hj, hd, s, q⟩ := pred u h1 h2
      exact ⟨j, (u, s) :: L, hj, hd, ⟨q, h3⟩, by rw [List.length_cons, h4]⟩
  obtain ⟨u, L, h1, h2, h3, h4⟩ := long (ns.length + 1)
  have wl := wk_lt w (wk_imp (fun _ _ _ q => q.1) h3)
  have nd : ¬ (L.map (·.1)).Nodup := fun z => by
    have := nodup_len (B := List.range ns.length) z fun x hx => by
      obtain ⟨p, hp, rfl⟩ := List.mem_map.mp hx
      exact List.mem_range.mpr (wl p hp)
    rw [List.length_map, List.length_range] at this
    omega
  obtain ⟨A, x, B, y, C, rfl, e⟩ := nd_split nd
  obtain ⟨i1, i2⟩ := wk_inner h3 e
  obtain ⟨a', L', l1, l2, l3, l4⟩ := simple_of _ (Nat.le_refl _) (by simp) i1 i2
  have vs : ∀ {K : List StpT} {u : Nat}, wkE (dfQ ns a b) u K → ∀ p ∈ K, a.getD p.1 0 ≠ b.getD p.1 0 := by
    intro K
    induction K with
    | nil => intro u _ p hp; cases hp
    | cons q K ih =>
      intro u hw p hp
      rcases List.mem_cons.mp hp with rfl | hp
      · exact hw.1.2.2.1
      · exact ih hw.2 p hp
  have da : a.getD a' 0 ≠ b.getD a' 0 := by
    cases L' with
    | nil => exact absurd rfl l1
    | cons p K => exact l2.1.2.1
  have sg := df_sg ha hb da l2
  rw [l3] at sg
  have sg1 : sgW L' = 1 := by
    have h1 := ha.get a'
    have h2 := hb.get a'
    have : b.getD a' 0 - a.getD a' 0 = 1 ∨ b.getD a' 0 - a.getD a' 0 = -1 := by omega
    rw [sg]
    rcases this with e | e <;> rw [e] <;> rfl
  have l2' := wk_imp (R := inW (wiresI ns)) (fun _ _ _ q => q.1) l2
  obtain ⟨r, r1, r2, r3⟩ := ring_of w l1 l2' l3 l4
  rw [sg1] at r2
  refine ⟨r, r1, r2, fun x hx => ?_⟩
  obtain ⟨p, hp, rfl⟩ := r3 x hx
  exact ⟨p.1, rfl, wk_lt w l2' p hp, vs l2 p hp⟩
end
end H

set_option Elab.async false
set_option linter.all false
set_option maxRecDepth 100000
namespace H
open PySem PySem.Spec PyProof.Rows L2 Y
theorem argmin {α : Type} (f : α → Nat) : ∀ {L : List α}, L ≠ [] → ∃ x ∈ L, ∀ y ∈ L, f x ≤ f y
  | [], h => absurd rfl h
  | [x], _ => ⟨x, by simp, fun q hq => by rw [List.mem_singleton.mp hq]; exact Nat.le_refl _⟩
  | x :: y :: L, _ => by
    obtain ⟨p, hp, h⟩ := argmin f (L := y :: L) (by simp)
    by_cases c : f x ≤ f p
    · refine ⟨x, by simp, fun q hq => ?_⟩
      rcases List.mem_cons.mp hq with rfl | hq
      · exact Nat.le_refl _
      · exact Nat.le_trans c (h q hq)
    · refine ⟨p, List.mem_cons_of_mem _ hp, fun q hq => ?_⟩
      rcases List.mem_cons.mp hq with rfl | hq
      · omega
      · exact h q hq
section
variable {ns : List RuleT} {most : Nat}
/-- what some stand of S and another tell apart -/
def vary (S : List (List Int)) (k : Nat) : Prop := ∃ x ∈ S, ∃ y ∈ S, x.getD k 0 ≠ y.getD k 0
def vaQ (ns : List RuleT) (S : List (List Int)) (j k : Nat) (s : Int) : Prop := inW (wiresI ns) j k s ∧ vary S j ∧ vary S k
def wayTo (ns : List RuleT) (S : List (List Int)) (u v : Nat) : Prop := ∃ L, wkE (vaQ ns S) u L ∧ endV u L = v
theorem way_tr {S : List (List Int)} {u v w : Nat} (h1 : wayTo ns S u v) (h2 : wayTo ns S v w) : wayTo ns S u w := by
  obtain ⟨A, a1, a2⟩ := h1
  obtain ⟨B, b1, b2⟩ := h2
  exact ⟨A ++ B, wk_app.mpr ⟨a1, by rw [a2]; exact b1⟩, by rw [end_app, a2, b2]⟩
/-- a block of switches that hear only one another among all that vary -/
theorem first_block {S : List (List Int)} {k0 : Nat} (hk0 : k0 < ns.length) (hv0 : vary S k0) (w : WOk ns.length (wiresI ns)) :
    ∃ v, v < ns.length ∧ vary S v ∧ ∃ C : Nat → Prop, C v ∧ (∀ u, C u → u < ns.length ∧ vary S u ∧ wayTo ns S v u ∧ wayTo ns S u v) ∧ ∀ u x s, vary S u → C x → inW (wiresI ns) u x s → C u := by
  classical
  let An : Nat → List Nat := fun v => (List.range ns.length).filter fun u => decide (vary S u ∧ wayTo ns S u v)
  obtain ⟨v, hv, least⟩ := argmin (fun v => (An v).length) (L := (List.range ns.length).filter fun u => decide (vary S u)) (List.ne_nil_of_mem (List.mem_filter.mpr ⟨List.mem_range.mpr hk0, decide_eq_true hv0⟩))
  obtain ⟨v1, v2⟩ := List.mem_filter.mp hv
  have v1 := List.mem_range.mp v1
  have v2 := of_decide_eq_true v2
  have memA : ∀ u v, u ∈ An v ↔ u < ns.length ∧ vary S u ∧ wayTo ns S u v := fun u v => by
    show u ∈ (List.range ns.length).filter _ ↔ _
    rw [List.mem_filter, List.mem_range, decide_eq_true_eq]
  have ndA : ∀ v, (An v).Nodup := fun v => List.Pairwise.sublist List.filter_sublist List.nodup_range
  refine ⟨v, v1, v2, fun u => u ∈ An v, (memA v v).mpr ⟨v1, v2, [], trivial, rfl⟩, fun u hu => ?_, fun u x s hu hx e => ?_⟩
  · obtain ⟨u1, u2, u3⟩ := (memA u v).mp hu
    refine ⟨u1, u2, ?_, u3⟩
    -- all that leads to u leads to v; u has no fewer
    have sub : ∀ x ∈ An u, x ∈ An v := fun x hx => by
      obtain ⟨x1, x2, x3⟩ := (memA x u).mp hx
      exact (memA x v).mpr ⟨x1, x2, way_tr x3 u3⟩
    have le := least u (List.mem_filter.mpr ⟨List.mem_range.mpr u1, decide_eq_true u2⟩)
    have all : ∀ x ∈ An v, x ∈ An u := fun x hx => by
      refine Classical.byContradiction fun c => ?_
      have := nodup_len (A := x :: An u) (B := An v) (List.nodup_cons.mpr ⟨c, ndA u⟩) fun y hy => by
        rcases List.mem_cons.mp hy with rfl | hy
        · exact hx
        · exact sub y hy
      rw [List.length_cons] at this
      have le : (An v).length ≤ (An u).length := le
      omega
    exact ((memA v u).mp (all v ((memA v v).mpr ⟨v1, v2, [], trivial, rfl⟩))).2.2
  · obtain ⟨x1, x2, x3⟩ := (memA x v).mp hx
    exact (memA u v).mpr ⟨(inW_ok w e).1, hu, way_tr ⟨[(x, s)], ⟨⟨e, hu, x2⟩, trivial⟩, rfl⟩ x3⟩
theorem va_sg {S : List (List Int)} (w : WOk ns.length (wiresI ns)) : ∀ a b s, vaQ ns S a b s → s = 1 ∨ s = -1 := fun a b s e => (inW_ok w e.1).2.2
/-- a block without a walk of sign -1 has one sign for each of its switches -/
theorem block_signs {S : List (List Int)} {v : Nat} {C : Nat → Prop} (w : WOk ns.length (wiresI ns)) (hC : ∀ u, C u → u < ns.length ∧ vary S u ∧ wayTo ns S v u ∧ wayTo ns S u v)
    (hn : ∀ (a : Nat) (L : List StpT), wkE (vaQ ns S) a L → endV a L = a → sgW L ≠ -1) : ∃ σ : Nat → Int, (∀ u, C u → σ u = 1 ∨ σ u = -1) ∧ ∀ u x s, C u → C x → vaQ ns S u x s → s = σ u * σ x := by
  classical
  have ex : ∀ u, ∃ L : List StpT, C u → wkE (vaQ ns S) v L ∧ endV v L = u := fun u => by
    by_cases c : C u
    · obtain ⟨_, _, ⟨L, h⟩, _⟩ := hC u c
      exact ⟨L, fun _ => h⟩
    · exact ⟨[], fun z => absurd z c⟩
  obtain ⟨F, hF⟩ := Classical.axiomOfChoice ex
  refine ⟨fun u => sgW (F u), fun u hu => sg_pm (va_sg w) (hF u hu).1, fun u x s hu hx e => ?_⟩
  obtain ⟨f1, f2⟩ := hF u hu
  obtain ⟨g1, g2⟩ := hF x hx
  obtain ⟨B, b1, b2⟩ := (hC x hx).2.2.2
  have c1 := hn v (F u ++ ((x, s) :: B)) (wk_app.mpr ⟨f1, by rw [f2]; exact ⟨e, b1⟩⟩) (by rw [end_app, f2]; exact b2)
  have c2 := hn v (F x ++ B) (wk_app.mpr ⟨g1, by rw [g2]; exact b1⟩) (by rw [end_app, g2]; exact b2)
  rw [sg_app] at c1 c2
  have c1 : sgW (F u) * (s * sgW B) ≠ -1 := c1
  have p1 := sg_pm (va_sg w) f1
  have p2 := sg_pm (va_sg w) g1
  have p3 := sg_pm (va_sg w) b1
  have p4 := va_sg w _ _ _ e
  show s = sgW (F u) * sgW (F x)
  rcases p1 with q1 | q1 <;> rcases p2 with q2 | q2 <;> rcases p3 with q3 | q3 <;> rcases p4 with q4 | q4 <;> rw [q1, q2, q4] <;> rw [q1, q3, q4] at c1 <;> rw [q2, q3] at c2 <;> first | rfl | (exfalso; exact c1 rfl) | (exfalso; exact c2 rfl)
/-- the bits of a block, turned so that all its wires are 1 -/
def zB (σ : Nat → Int) (x : List Int) (u : Nat) : Int := if σ u = 1 then x.getD u 0 else 1 - x.getD u 0
def zF (ns : List RuleT) (σ : Nat → Int) (x : List Int) (u : Nat) : Int := if σ u = 1 then oughtI ns x u else 1 - oughtI ns x u
theorem z_bit {σ : Nat → Int} {x : List Int} {u m : Nat} (h : IsSt m x) : zB σ x u = 0 ∨ zB σ x u = 1 := by
  have := h.get u
  unfold zB
  split <;> omega
theorem zf_bit (ok : NetOk ns most) {σ : Nat → Int} {x : List Int} {u : Nat} (hu : u < ns.length) : zF ns σ x u = 0 ∨ zF ns σ x u = 1 := by
  have := ok.bit hu x
  unfold zF
  split <;> omega
structure Blk (ns : List RuleT) (S : List (List Int)) (C : Nat → Prop) (σ : Nat → Int) : Prop where
  lt : ∀ u, C u → u < ns.length ∧ vary S u
  cl : ∀ u x s, vary S u → C x → inW (wiresI ns) u x s → C u
  pm : ∀ u, C u → σ u = 1 ∨ σ u = -1
  sg : ∀ u x s, C u → C x → vaQ ns S u x s → s = σ u * σ x
theorem blk_mono (ok : NetOk ns most) {S : List (List Int)} {C : Nat → Prop} {σ : Nat → Int} (b : Blk ns S C σ) (hS : ∀ x ∈ S, IsSt ns.length x) {x y : List Int} (hx : x ∈ S) (hy : y ∈ S) (h : ∀ u, C u → zB σ x u ≤ zB σ y u) {k : Nat} (hk : C k) : zF ns σ x k ≤ zF ns σ y k := by
  obtain ⟨k1, k2⟩ := b.lt k hk
  have f1 := zf_bit ok (σ := σ) (x := x) k1
  have f2 := zf_bit ok (σ := σ) (x := y) k1
  refine Int.not_lt.mp fun c => ?_
  have e1 : zF ns σ x k = 1 := by omega
  have e2 : zF ns σ y k = 0 := by omega
  have ne : oughtI ns x k ≠ oughtI ns y k := fun z => by
    unfold zF at e1 e2
    rw [z] at e1
    omega
  obtain ⟨j, hj, hd, hw⟩ := diff_wire ok (hS x hx) (hS y hy) k1 ne
  have vj : vary S j := ⟨x, hx, y, hy, hd⟩
  have cj := b.cl j k _ vj hk hw
  have q := b.sg j k _ cj hk ⟨hw, vj, k2⟩
  have hz := h j cj
  have pj := b.pm j cj
  have pk := b.pm k hk
  have xj := (hS x hx).get j
  have yj := (hS y hy).get j
  have ox := ok.bit k1 x
  have oy := ok.bit k1 y
  unfold zF at e1 e2
  unfold zB at hz
  have dj : y.getD j 0 - x.getD j 0 = 1 ∨ y.getD j 0 - x.getD j 0 = -1 := by omega
  have dk : oughtI ns y k - oughtI ns x k = 1 ∨ oughtI ns y k - oughtI ns x k = -1 := by omega
  have hz1 : σ j = 1 → x.getD j 0 ≤ y.getD j 0 := fun a => by simp only [if_pos a] at hz; exact hz
  have hz2 : σ j = -1 → y.getD j 0 ≤ x.getD j 0 := fun a => by
    have a' : ¬ σ j = 1 := by rw [a]; decide
    simp only [if_neg a'] at hz
    omega
  have ez1 : σ k = 1 → oughtI ns x k = 1 ∧ oughtI ns y k = 0 := fun a => by
    simp only [if_pos a] at e1 e2
    exact ⟨e1, e2⟩
  have ez2 : σ k = -1 → oughtI ns x k = 0 ∧ oughtI ns y k = 1 := fun a => by
    have a' : ¬ σ k = 1 := by rw [a]; decide
    simp only [if_neg a'] at e1 e2
    omega
  rcases pj with a | a <;> rcases pk with c | c
  · have := hz1 a
    have := ez1 c
    have d : y.getD j 0 - x.getD j 0 = 1 := by omega
    have g : oughtI ns y k - oughtI ns x k = -1 := by omega
    rw [a, c, d, g] at q
    exact absurd q (by decide)
  · have := hz1 a
    have := ez2 c
    have d : y.getD j 0 - x.getD j 0 = 1 := by omega
    have g : oughtI ns y k - oughtI ns x k = 1 := by omega
    rw [a, c, d, g] at q
    exact absurd q (by decide)
  · have := hz2 a
    have := ez1 c
    have d : y.getD j 0 - x.getD j 0 = -1 := by omega
    have g : oughtI ns y k - oughtI ns x k = -1 := by omega
    rw [a, c, d, g] at q
    exact absurd q (by decide)
  · have := hz2 a
    have := ez2 c
    have d : y.getD j 0 - x.getD j 0 = -1 := by omega
    have g : oughtI ns y k - oughtI ns x k = 1 := by omega
    rw [a, c, d, g] at q
    exact absurd q (by decide)
theorem flip_at2 {m k j : Nat} {x : List Int} (h : IsSt m x) (hk : k < m) : (flipI x k).getD j 0 = if j = k then 1 - x.getD k 0 else x.getD j 0 := by
  unfold flipI
  exact with_get (by rw [h.len]; exact hk)
theorem wrong_iff {x : List Int} {k : Nat} : k ∈ wrongI ns x ↔ k < ns.length ∧ oughtI ns x k ≠ x.getD k 0 := by
  unfold wrongI
  rw [List.mem_filter, List.mem_range]
  simp
/-- a den: closed, and from each of it one comes to each of it -/
structure DenS (ns : List RuleT) (S : List (List Int)) : Prop where
  st : ∀ x ∈ S, IsSt ns.length x
  cl : ∀ x ∈ S, ∀ k ∈ wrongI ns x, flipI x k ∈ S
  all : ∀ x ∈ S, ∀ y ∈ S, y ∈ reachI ns x
/-- the number of ones in a block -/
noncomputable def cntB (σ : Nat → Int) (C : Nat → Prop) (m : Nat) (x : List Int) : Nat := by
  classical exact ((List.range m).filter fun u => decide (C u ∧ zB σ x u = 1)).length
theorem cnt_le {σ : Nat → Int} {C : Nat → Prop} {m : Nat} {x : List Int} : cntB σ C m x ≤ m := by
  classical
  unfold cntB
  refine Nat.le_trans (List.length_filter_le _ _) ?_
  rw [List.length_range]
  exact Nat.le_refl _
theorem cnt_lt {σ : Nat → Int} {C : Nat → Prop} {m : Nat} {x y : List Int} {k : Nat} (hk : k < m) (ck : C k) (h : ∀ u, C u → zB σ x u = 1 → zB σ y u = 1) (hx : zB σ x k ≠ 1) (hy : zB σ y k = 1) : cntB σ C m x < cntB σ C m y := by
  classical
  unfold cntB
  have nd : ((List.range m).filter fun u => decide (C u ∧ zB σ x u = 1)).Nodup := List.Pairwise.sublist List.filter_sublist List.nodup_range
  have := nodup_len (A := k :: (List.range m).filter fun u => decide (C u ∧ zB σ x u = 1)) (B := (List.range m).filter fun u => decide (C u ∧ zB σ y u = 1)) (List.nodup_cons.mpr ⟨fun z => hx (of_decide_eq_true (List.mem_filter.mp z).2).2, nd⟩) fun u hu => by
    rcases List.mem_cons.mp hu with rfl | hu
    · exact List.mem_filter.mpr ⟨List.mem_range.mpr hk, decide_eq_true ⟨ck, hy⟩⟩
    · obtain ⟨h1, h2⟩ := List.mem_filter.mp hu
      have h2 := of_decide_eq_true h2
      exact List.mem_filter.mpr ⟨h1, decide_eq_true ⟨h2.1, h u h2.1 h2.2⟩⟩
  rw [List.length_cons] at this
  exact this
theorem z_flip {σ : Nat → Int} {m k u : Nat} {x : List Int} (h : IsSt m x) (hk : k < m) : zB σ (flipI x k) u = if u = k then 1 - zB σ x k else zB σ x u := by
  unfold zB
  rw [flip_at2 h hk]
  by_cases e : u = k
  · subst e
    rw [if_pos rfl, if_pos rfl]
    split <;> omega
  · rw [if_neg e, if_neg e]
theorem z_wrong {σ : Nat → Int} {x : List Int} {k : Nat} (hk : k < ns.length) (h : zF ns σ x k ≠ zB σ x k) : k ∈ wrongI ns x := by
  refine wrong_iff.mpr ⟨hk, fun z => h ?_⟩
  unfold zF zB
  rw [z]
/-- up: a stand where nothing of the block wants to rise -/
theorem go_up (ok : NetOk ns most) {S : List (List Int)} {C : Nat → Prop} {σ : Nat → Int} (b : Blk ns S C σ) (d : DenS ns S) : ∀ (n : Nat) {x : List Int}, x ∈ S → ns.length - cntB σ C ns.length x ≤ n → ∃ y ∈ S, ∀ k, C k → zF ns σ y k ≤ zB σ y k := by
  intro n
  induction n with
  | zero =>
    intro x hx hn
    refine ⟨x, hx, fun k hk => Int.not_lt.mp fun c => ?_⟩
    have k1 := (b.lt k hk).1
    have f1 := zf_bit ok (σ := σ) (x := x) k1
    have f2 := z_bit (σ := σ) (u := k) (d.st x hx)
    have lt := cnt_lt (σ := σ) (C := C) (x := x) (y := flipI x k) k1 hk (fun u _ h => by
      rw [z_flip (d.st x hx) k1]
      by_cases e : u = k
      · subst e; omega
      · rw [if_neg e]; exact h) (by omega) (by rw [z_flip (d.st x hx) k1, if_pos rfl]; omega)
    have := cnt_le (σ := σ) (C := C) (m := ns.length) (x := flipI x k)
    omega
  | succ n ih =>
    intro x hx hn
    by_cases q : ∀ k, C k → zF ns σ x k ≤ zB σ x k
    · exact ⟨x, hx, q⟩
    · obtain ⟨k, hk, c⟩ : ∃ k, C k ∧ zB σ x k < zF ns σ x k := by
        refine Classical.byContradiction fun z => q fun k hk => Int.not_lt.mp fun c => z ⟨k, hk, c⟩
      have k1 := (b.lt k hk).1
      have f1 := zf_bit ok (σ := σ) (x := x) k1
      have f2 := z_bit (σ := σ) (u := k) (d.st x hx)
      have lt := cnt_lt (σ := σ) (C := C) (x := x) (y := flipI x k) k1 hk (fun u _ h => by
        rw [z_flip (d.st x hx) k1]
        by_cases e : u = k
        · subst e; omega
        · rw [if_neg e]; exact h) (by omega) (by rw [z_flip (d.st x hx) k1, if_pos rfl]; omega)
      have := cnt_le (σ := σ) (C := C) (m := ns.length) (x := flipI x k)
      exact ih (d.cl x hx k (z_wrong (σ := σ) k1 (by omega))) (by omega)
/-- down: a stand where the block stays -/
theorem go_down (ok : NetOk ns most) {S : List (List Int)} {C : Nat → Prop} {σ : Nat → Int} (b : Blk ns S C σ) (d : DenS ns S) : ∀ (n : Nat) {x : List Int}, x ∈ S → cntB σ C ns.length x ≤ n → (∀ k, C k → zF ns σ x k ≤ zB σ x k) → ∃ y ∈ S, ∀ k, C k → zF ns σ y k = zB σ y k := by
  intro n
  have step : ∀ {x : List Int} {k : Nat}, x ∈ S → (∀ k, C k → zF ns σ x k ≤ zB σ x k) → C k → zF ns σ x k ≠ zB σ x k → flipI x k ∈ S ∧ cntB σ C ns.length (flipI x k) < cntB σ C ns.length x ∧ ∀ j, C j → zF ns σ (flipI x k) j ≤ zB σ (flipI x k) j := fun {x k} hx hle hk c => by
    have k1 := (b.lt k hk).1
    have f1 := zf_bit ok (σ := σ) (x := x) k1
    have f2 := z_bit (σ := σ) (u := k) (d.st x hx)
    have l := hle k hk
    have hm := d.cl x hx k (z_wrong k1 c)
    have zf := fun u => z_flip (σ := σ) (u := u) (d.st x hx) k1
    have lt := cnt_lt (σ := σ) (C := C) (x := flipI x k) (y := x) k1 hk (fun u _ h => by
      rw [zf] at h
      by_cases e : u = k
      · subst e; omega
      · rw [if_neg e] at h; exact h) (by rw [zf, if_pos rfl]; omega) (by omega)
    refine ⟨hm, lt, fun j hj => ?_⟩
    have mono := blk_mono ok b d.st hm hx (fun u hu => by
      rw [zf]
      by_cases e : u = k
      · subst e; rw [if_pos rfl]; omega
      · rw [if_neg e]; exact Int.le_refl _) hj
    rw [zf]
    by_cases e : j = k
    · subst e
      rw [if_pos rfl]
      omega
    · rw [if_neg e]
      exact Int.le_trans mono (hle j hj)
  induction n with
  | zero =>
    intro x hx hn hle
    refine ⟨x, hx, fun k hk => Classical.byContradiction fun c => ?_⟩
    have := (step hx hle hk c).2.1
    omega
  | succ n ih =>
    intro x hx hn hle
    by_cases q : ∀ k, C k → zF ns σ x k = zB σ x k
    · exact ⟨x, hx, q⟩
    · obtain ⟨k, hk, c⟩ : ∃ k, C k ∧ zF ns σ x k ≠ zB σ x k := by
        refine Classical.byContradiction fun z => q fun k hk => Classical.byContradiction fun c => z ⟨k, hk, c⟩
      obtain ⟨s1, s2, s3⟩ := step hx hle hk c
      exact ih s1 (by omega) s3
/-- no walk of sign -1: a den of one stand -/
theorem den_one (ok : NetOk ns most) (w : WOk ns.length (wiresI ns)) {S : List (List Int)} (d : DenS ns S) (hn : ∀ (a : Nat) (L : List StpT), wkE (inW (wiresI ns)) a L → endV a L = a → sgW L ≠ -1) {x y : List Int} (hx : x ∈ S) (hy : y ∈ S) : x = y := by
  refine Classical.byContradiction fun ne => ?_
  have some_k : ∃ k, k < ns.length ∧ x.getD k 0 ≠ y.getD k 0 := by
    refine Classical.byContradiction fun z => ne (getD_ext (by rw [(d.st x hx).len, (d.st y hy).len]) fun k hk => ?_)
    refine Classical.byContradiction fun c => z ⟨k, by rw [(d.st x hx).len] at hk; exact hk, c⟩
  obtain ⟨k0, hk0, hd0⟩ := some_k
  obtain ⟨v, v1, v2, C, cv, hC, hcl⟩ := first_block hk0 ⟨x, hx, y, hy, hd0⟩ w
  obtain ⟨σ, s1, s2⟩ := block_signs (S := S) w hC fun a L h1 h2 => hn a L (wk_imp (fun _ _ _ q => q.1) h1) h2
  have b : Blk ns S C σ := ⟨fun u hu => ⟨(hC u hu).1, (hC u hu).2.1⟩, hcl, s1, s2⟩
  obtain ⟨u, hu, up⟩ := go_up ok b d _ hx (Nat.le_refl _)
  obtain ⟨z, hz, fix⟩ := go_down ok b d _ hu (Nat.le_refl _) up
  have keep : ∀ t ∈ reachI ns z, t ∈ S ∧ ∀ k, C k → zB σ t k = zB σ z k := by
    refine reach_keeps (P := fun t => t ∈ S ∧ ∀ k, C k → zB σ t k = zB σ z k) (d.st z hz) ⟨hz, fun _ _ => rfl⟩ fun t ht ⟨h1, h2⟩ k hk => ⟨d.cl t h1 k hk, fun j hj => ?_⟩
    obtain ⟨k1, k2⟩ := wrong_iff.mp hk
    rw [z_flip ht k1]
    by_cases e : j = k
    · subst e
      exfalso
      have m1 := blk_mono ok b d.st h1 hz (fun u hu => by rw [h2 u hu]; exact Int.le_refl _) hj
      have m2 := blk_mono ok b d.st hz h1 (fun u hu => by rw [h2 u hu]; exact Int.le_refl _) hj
      have fz := fix j hj
      have hj2 := h2 j hj
      have : zF ns σ t j = zB σ t j := by omega
      apply k2
      unfold zF zB at this
      split at this <;> omega
    · rw [if_neg e]
      exact h2 j hj
  obtain ⟨p, hp, q, hq, hpq⟩ := v2
  have a1 := (keep p (d.all z hz p hp)).2 v cv
  have a2 := (keep q (d.all z hz q hq)).2 v cv
  have e : zB σ p v = zB σ q v := a1.trans a2.symm
  unfold zB at e
  split at e <;> omega
end
end H

set_option Elab.async false
set_option linter.all false
set_option maxRecDepth 100000
namespace H
open PySem PySem.Spec PyProof.Rows L2 Y
section
variable {ns : List RuleT} {most : Nat}
theorem den_of {S : List (List Int)} (h : S ∈ densI ns) : DenS ns S ∧ S ≠ [] ∧ ∀ x ∈ S, S = Rs ns x := by
  obtain ⟨st, hs, e, hst, hd, _⟩ := dens_mem h
  have hd := (den_iff hs).mp hd
  have self : ∀ x ∈ S, S = Rs ns x := fun x hx => by rw [e] at hx ⊢; exact (hd x hx).symm
  have sts : ∀ x ∈ S, IsSt ns.length x := fun x hx => by rw [e] at hx; exact Rs_st hs hx
  refine ⟨⟨sts, fun x hx k hk => ?_, fun x hx y hy => ?_⟩, List.ne_nil_of_mem hst, self⟩
  · rw [e] at hx ⊢
    exact mem_Rs.mpr (reach_closed hs x (mem_Rs.mp hx) k hk)
  · rw [self x hx] at hy
    exact mem_Rs.mp hy
theorem den_inK {st : List Int} (hs : IsSt ns.length st) (h : denB ns st = true) : Rs ns st ∈ densI ns := by
  refine (sortF_perm (F := foundI ns)).mem_iff.mpr ?_
  have hself := Rs_self hs
  obtain ⟨hh, he⟩ := head_mem (d := ([] : List Int)) hself
  have hd := (den_iff hs).mp h
  have e2 := hd _ hh
  have hhs := Rs_st hs hh
  unfold foundI
  refine List.mem_map.mpr ⟨(Rs ns st).headD [], List.mem_filter.mpr ⟨mem_stands.mpr hhs, ?_⟩, e2⟩
  unfold selB
  rw [Bool.and_eq_true, decide_eq_true_eq]
  refine ⟨by rw [e2], (den_iff hhs).mpr fun t ht => ?_⟩
  rw [e2] at ht ⊢
  exact hd t ht
theorem Rs_leK {st t : List Int} (hs : IsSt ns.length st) (ht : t ∈ Rs ns st) : (Rs ns t).length ≤ (Rs ns st).length :=
  nodup_len (Rs_nd (Rs_st hs ht)) fun x hx => Rs_trans hs ht hx
theorem den_fromK : ∀ (n : Nat) (st : List Int), IsSt ns.length st → (Rs ns st).length = n → ∃ t ∈ Rs ns st, denB ns t = true := by
  intro n
  induction n using Nat.strongRecOn with
  | _ n ih =>
    intro st hs hl
    cases c : denB ns st with
    | true => exact ⟨st, Rs_self hs, c⟩
    | false =>
      unfold denB at c
      rw [List.all_eq_false] at c
      obtain ⟨t, ht, h⟩ := c
      have h := of_decide_eq_false (by simpa using h)
      have := Rs_leK hs ht
      obtain ⟨u, hu, hd⟩ := ih (Rs ns t).length (by omega) t (Rs_st hs ht) rfl
      exact ⟨u, Rs_trans hs ht hu, hd⟩
theorem den_reachedK {st : List Int} (hs : IsSt ns.length st) : ∃ S ∈ densI ns, ∀ x ∈ S, x ∈ Rs ns st := by
  obtain ⟨t, ht, h⟩ := den_fromK _ st hs rfl
  exact ⟨_, den_inK (Rs_st hs ht) h, fun x hx => Rs_trans hs ht hx⟩
theorem dens_someK : 0 < (densI ns).length := by
  have hs : IsSt ns.length (List.replicate ns.length (0 : Int)) := ⟨by simp, fun x hx => by rw [List.eq_of_mem_replicate hx]; omega⟩
  obtain ⟨S, hS, _⟩ := den_reachedK hs
  exact List.length_pos_of_mem hS
/-- every sign that some ring can have -/
def allSg (ns : List RuleT) : List Int := (sortL (allR (wiresI ns) ns.length)).flatMap fun r => signsR (wiresI ns) (stI r)
def dist (m : Nat) (a b : List Int) : Nat := ((List.range m).filter fun j => !decide (a.getD j 0 = b.getD j 0)).length
theorem dist_less {m k : Nat} {a b c : List Int} (hk : k < m) (h1 : a.getD k 0 ≠ b.getD k 0) (h2 : c.getD k 0 = b.getD k 0) (h3 : ∀ j, j ≠ k → c.getD j 0 = a.getD j 0) : dist m c b < dist m a b := by
  unfold dist
  have nd : ((List.range m).filter fun j => !decide (c.getD j 0 = b.getD j 0)).Nodup := List.Pairwise.sublist List.filter_sublist List.nodup_range
  have := nodup_len (A := k :: (List.range m).filter fun j => !decide (c.getD j 0 = b.getD j 0)) (B := (List.range m).filter fun j => !decide (a.getD j 0 = b.getD j 0)) (List.nodup_cons.mpr ⟨fun z => by
    have := (List.mem_filter.mp z).2
    rw [decide_eq_true h2] at this
    exact absurd this (by decide), nd⟩) fun u hu => by
    rcases List.mem_cons.mp hu with rfl | hu
    · exact List.mem_filter.mpr ⟨List.mem_range.mpr hk, by rw [decide_eq_false h1]; rfl⟩
    · obtain ⟨u1, u2⟩ := List.mem_filter.mp hu
      refine List.mem_filter.mpr ⟨u1, ?_⟩
      by_cases e : u = k
      · subst e; rw [decide_eq_false h1]; rfl
      · rw [h3 u e] at u2; exact u2
  rw [List.length_cons] at this
  exact this
theorem dist_sym {m : Nat} {a b : List Int} : dist m a b = dist m b a := by
  unfold dist
  congr 1
  refine List.filter_congr fun j _ => ?_
  congr 1
  exact decide_eq_decide.mpr ⟨fun h => h.symm, fun h => h.symm⟩
/-- two dens: a ring of sign 1 -/
theorem dens_pos (ok : NetOk ns most) (w : WOk ns.length (wiresI ns)) {S T : List (List Int)} (hS : S ∈ densI ns) (hT : T ∈ densI ns) (ne : S ≠ T) : (1 : Int) ∈ allSg ns := by
  obtain ⟨dS', nS, sS⟩ := den_of hS
  obtain ⟨dT, nT, sT⟩ := den_of hT
  have pairs : (S.flatMap fun a => T.map fun b => (a, b)) ≠ [] := by
    obtain ⟨a, ha⟩ := List.exists_mem_of_ne_nil S nS
    obtain ⟨b, hb⟩ := List.exists_mem_of_ne_nil T nT
    exact List.ne_nil_of_mem (List.mem_flatMap.mpr ⟨a, ha, List.mem_map.mpr ⟨b, hb, rfl⟩⟩)
  obtain ⟨p, hp, least⟩ := argmin (fun p : List Int × List Int => dist ns.length p.1 p.2) pairs
  obtain ⟨a, ha, hp⟩ := List.mem_flatMap.mp hp
  obtain ⟨b, hb, rfl⟩ := List.mem_map.mp hp
  have least : ∀ x ∈ S, ∀ y ∈ T, dist ns.length a b ≤ dist ns.length x y := fun x hx y hy => least (x, y) (List.mem_flatMap.mpr ⟨x, hx, List.mem_map.mpr ⟨y, hy, rfl⟩⟩)
  have sa := dS'.st a ha
  have sb := dT.st b hb
  have nab : a ≠ b := fun z => ne (by rw [sS a ha, z, ← sT b hb])
  obtain ⟨r, r1, r2, _⟩ := pos_ring ok w sa sb nab (fun k hk hd => by
    refine Classical.byContradiction fun c => ?_
    have m := dS'.cl a ha k (wrong_iff.mpr ⟨hk, c⟩)
    have l := least _ m b hb
    have ga := sa.get k
    have gb := sb.get k
    have := dist_less (m := ns.length) (a := a) (b := b) (c := flipI a k) hk hd (by rw [flip_at2 sa hk, if_pos rfl]; omega) fun j hj => by rw [flip_at2 sa hk, if_neg hj]
    omega) (fun k hk hd => by
    refine Classical.byContradiction fun c => ?_
    have m := dT.cl b hb k (wrong_iff.mpr ⟨hk, c⟩)
    have l := least a ha _ m
    have ga := sa.get k
    have gb := sb.get k
    have := dist_less (m := ns.length) (a := b) (b := a) (c := flipI b k) hk (fun z => hd z.symm) (by rw [flip_at2 sb hk, if_pos rfl]; omega) fun j hj => by rw [flip_at2 sb hk, if_neg hj]
    rw [dist_sym, dist_sym (a := b)] at this
    omega)
  exact List.mem_flatMap.mpr ⟨r, r1, r2⟩
/-- a den of two: a ring of sign -1 -/
theorem den_neg (ok : NetOk ns most) (w : WOk ns.length (wiresI ns)) {S : List (List Int)} (hS : S ∈ densI ns) (h : S.length ≠ 1) : (-1 : Int) ∈ allSg ns := by
  obtain ⟨d, nS, sS⟩ := den_of hS
  refine Classical.byContradiction fun c => ?_
  have one := fun x hx y hy => den_one ok w d (x := x) (y := y) (fun a L h1 h2 h3 => by
    obtain ⟨r, r1, r2⟩ := neg_ring w h1 h2 h3
    exact c (List.mem_flatMap.mpr ⟨r, r1, r2⟩)) hx hy
  have nd : S.Nodup := by
    obtain ⟨x, hx⟩ := List.exists_mem_of_ne_nil S nS
    rw [sS x hx]
    exact Rs_nd (d.st x hx)
  match S, nS, h, one, nd with
  | [], n, _, _, _ => exact n rfl
  | [x], _, h, _, _ => exact h rfl
  | x :: y :: t, _, _, one, nd =>
    have := one x (by simp) y (by simp)
    subst this
    simp at nd
theorem rest_Rs {x : List Int} (hs : IsSt ns.length x) (h : wrongI ns x = []) : Rs ns x = [x] := by
  have k : ∀ y ∈ reachI ns x, y = x := reach_keeps (P := fun y => y = x) hs rfl fun y _ e k hk => by
    subst e
    rw [h] at hk
    cases hk
  have nd := Rs_nd hs
  have self := Rs_self hs
  have al : ∀ y ∈ Rs ns x, y = x := fun y hy => k y (mem_Rs.mp hy)
  match hR : Rs ns x with
  | [] => rw [hR] at self; cases self
  | [y] => rw [al y (by rw [hR]; simp)]
  | y :: z :: t =>
    have a := al y (by rw [hR]; simp)
    have b := al z (by rw [hR]; simp)
    rw [hR, a, b] at nd
    simp at nd
theorem mem_restsI {x : List Int} : x ∈ restsI ns ↔ IsSt ns.length x ∧ wrongI ns x = [] := by
  unfold restsI
  rw [List.mem_filter, List.isEmpty_iff]
  exact ⟨fun h => ⟨stands_st h.1, h.2⟩, fun h => ⟨mem_stands.mpr h.1, h.2⟩⟩
theorem rest_den {x : List Int} (h : x ∈ restsI ns) : [x] ∈ densI ns := by
  obtain ⟨hs, hw⟩ := mem_restsI.mp h
  have e := rest_Rs hs hw
  have := den_inK (ns := ns) hs ((den_iff hs).mpr fun t ht => by
    rw [e] at ht
    rw [List.mem_singleton.mp ht])
  rwa [e] at this
theorem den_rest {x : List Int} (h : [x] ∈ densI ns) : x ∈ restsI ns := by
  obtain ⟨d, _, _⟩ := den_of h
  refine mem_restsI.mpr ⟨d.st x (by simp), ?_⟩
  refine Classical.byContradiction fun c => ?_
  obtain ⟨k, hk⟩ := List.exists_mem_of_ne_nil _ c
  have m := List.mem_singleton.mp (d.cl x (by simp) k hk)
  have hs := d.st x (by simp)
  have f := flip_at2 (j := k) hs (wrong_iff.mp hk).1
  rw [if_pos rfl, m] at f
  have := hs.get k
  omega
/-- with no ring: one rest, and it is the one den -/
theorem no_rings (ok : NetOk ns most) (w : WOk ns.length (wiresI ns)) (h : sortL (allR (wiresI ns) ns.length) = []) : ∃ x, restsI ns = [x] ∧ densI ns = [[x]] := by
  have none : ∀ s : Int, s ∉ allSg ns := fun s hs => by
    unfold allSg at hs
    rw [h] at hs
    cases hs
  have one : ∀ S ∈ densI ns, S.length = 1 := fun S hS => Classical.byContradiction fun c => none _ (den_neg ok w hS c)
  have same : ∀ S ∈ densI ns, ∀ T ∈ densI ns, S = T := fun S hS T hT => Classical.byContradiction fun c => none _ (dens_pos ok w hS hT c)
  have pos := dens_someK (ns := ns)
  have nd := dens_nd (ns := ns)
  obtain ⟨x, ex⟩ : ∃ x, densI ns = [[x]] := by
    match hD : densI ns, pos with
    | [S], _ =>
      have := one S (by rw [hD]; simp)
      match S, this with
      | [x], _ => exact ⟨x, rfl⟩
    | S :: T :: t, _ =>
      have := same S (by rw [hD]; simp) T (by rw [hD]; simp)
      rw [hD, this] at nd
      simp at nd
  refine ⟨x, ?_, ex⟩
  have rnd : (restsI ns).Nodup := List.Pairwise.sublist List.filter_sublist (stands_nodup _)
  have all : ∀ y ∈ restsI ns, y = x := fun y hy => by
    have := rest_den hy
    rw [ex] at this
    have := List.mem_singleton.mp this
    injection this
  have mem : x ∈ restsI ns := den_rest (by rw [ex]; simp)
  match hR : restsI ns with
  | [] => rw [hR] at mem; cases mem
  | [y] => rw [all y (by rw [hR]; simp)]
  | y :: z :: t =>
    have a := all y (by rw [hR]; simp)
    have b := all z (by rw [hR]; simp)
    rw [hR, a, b] at rnd
    simp at rnd
end
end H

set_option Elab.async false
set_option linter.all false
set_option maxRecDepth 100000
namespace H
open PySem PySem.Spec PyProof.Rows L2 Y
section
variable {ns : List RuleT} {most : Nat}
theorem signs_of_ok (h : NetOk ns most) (hm : most ≤ 20) (h6 : ns.length ≤ 6) {r : List Int} (hr : r ∈ sortL (allR (wiresI ns) ns.length)) : C.g_signs_of [dNet ns, ti r] = .ok (.vl (li (signsR (wiresI ns) (stI r)))) ∧ SgnOk (signsR (wiresI ns) (stI r)) := by
  obtain ⟨a, s, e, hl, hp⟩ := all_mem h6 hr
  obtain ⟨n, hn, hq⟩ := List.mem_flatMap.mp ((sortL_perm _).mem_iff.mp hr)
  obtain ⟨q1, q2⟩ := List.mem_filter.mp hq
  obtain ⟨_, nd, mem⟩ := rows_mem.mp q1
  obtain ⟨sb, _, wk⟩ := pairs_ok h hm
  obtain ⟨so, sk⟩ := signs_on_ok wk hp (by omega)
  have th : Th (ti r) := th_ti (by omega)
  have ir := is_ring_ok h hm th
  have rb : ringB (wiresI ns) ns.length (ti r) = true := by
    rw [ring_tup]
    unfold ringI
    rw [q2, decide_eq_true nd, Bool.and_true, Bool.and_true]
    unfold insB
    rw [List.all_eq_true]
    intro x hx
    have := mem_rg.mp (mem x hx)
    simp [this.1, this.2]
  rw [rb] at ir
  refine ⟨?_, sk⟩
  simp only [C.g_signs_of, C.m_signs_of]
  generalize li (signsR (wiresI ns) (stI r)) = X at *
  generalize ti r = T at *
  generalize prD (wiresI ns) = PD at *
  generalize dNet ns = N at *
  simp [e_fnP, ir, sb, so]
theorem allR_lenK (h6 : ns.length ≤ 6) : (sortL (allR (wiresI ns) ns.length)).length ≤ 279936 := by
  rw [(sortL_perm _).length_eq]
  unfold allR
  have := flat_len (xs := List.range ns.length) (f := fun n => withR (wiresI ns) ns.length (n + 1)) (c := 46656) fun n hn => withR_len h6 (by have := List.mem_range.mp hn; omega)
  rw [List.length_range] at this
  have h2 : ns.length * 46656 ≤ 6 * 46656 := Nat.mul_le_mul_right _ h6
  omega
end
end H

set_option Elab.async false
set_option linter.all false
set_option maxRecDepth 100000
namespace H
open PySem PySem.Spec PyProof.Rows L2 Y
end H

set_option Elab.async false
set_option linter.all false
set_option maxRecDepth 100000
namespace H
open PySem PySem.Spec PyProof.Rows L2 Y
def lx : List Nat → List Nat → Prop
  | x :: xs, y :: ys => x < y ∨ (x = y ∧ lx xs ys)
  | _, _ => False
def sl (a b : List Nat) : Prop := a.length < b.length ∨ (a.length = b.length ∧ lx a b)
def sle (a b : List Nat) : Prop := a = b ∨ sl a b
theorem lx_tr : ∀ {a b c : List Nat}, lx a b → lx b c → lx a c
  | [], _, _, h, _ => h.elim
  | _ :: _, [], _, h, _ => h.elim
  | _ :: _, _ :: _, [], _, h => h.elim
  | x :: xs, y :: ys, z :: zs, h, h2 => by
    rcases h with h | ⟨h, h3⟩ <;> rcases h2 with h2 | ⟨h2, h4⟩
    · exact .inl (by omega)
    · exact .inl (by omega)
    · exact .inl (by omega)
    · exact .inr ⟨h.trans h2, lx_tr h3 h4⟩
theorem lx_app : ∀ {a b c d : List Nat}, lx a b → lx (a ++ c) (b ++ d)
  | [], _, _, _, h => h.elim
  | _ :: _, [], _, _, h => h.elim
  | x :: xs, y :: ys, c, d, h => h.imp id fun h => ⟨h.1, lx_app h.2⟩
theorem lx_last {x y : Nat} (h : x < y) : ∀ {a : List Nat}, lx (a ++ [x]) (a ++ [y])
  | [] => .inl h
  | _ :: _ => .inr ⟨rfl, lx_last h⟩
theorem sl_snoc {a b : List Nat} {x y : Nat} (h : sl a b) : sl (a ++ [x]) (b ++ [y]) := by
  rcases h with h | ⟨h, h2⟩
  · exact .inl (by simp; omega)
  · exact .inr ⟨by simp [h], lx_app h2⟩
theorem sl_last {a : List Nat} {x y : Nat} (h : x < y) : sl (a ++ [x]) (a ++ [y]) := .inr ⟨by simp, lx_last h⟩
theorem sl_tr {a b c : List Nat} (h : sl a b) (h2 : sl b c) : sl a c := by
  rcases h with h | ⟨h, h3⟩ <;> rcases h2 with h2 | ⟨h2, h4⟩
  · exact .inl (by omega)
  · exact .inl (by omega)
  · exact .inl (by omega)
  · exact .inr ⟨by omega, lx_tr h3 h4⟩
theorem sle_sl {a b c : List Nat} (h : sle a b) (h2 : sl b c) : sl a c := by
  rcases h with rfl | h
  · exact h2
  · exact sl_tr h h2
theorem sle_tr {a b c : List Nat} (h : sle a b) (h2 : sle b c) : sle a c := by
  rcases h2 with rfl | h2
  · exact h
  · exact .inr (sle_sl h h2)
theorem sle_snoc {a b : List Nat} {x : Nat} (h : sle a b) : sle (a ++ [x]) (b ++ [x]) := by
  rcases h with rfl | h
  · exact .inl rfl
  · exact .inr (sl_snoc h)
def Wk (ns : List RuleT) : List Int → List Nat → List Int → Prop
  | s, [], t => s = t
  | s, k :: ks, t => k ∈ wrongI ns s ∧ Wk ns (flipI s k) ks t
theorem wk_snoc {ns : List RuleT} {k : Nat} {t : List Int} : ∀ {w : List Nat} {s : List Int}, Wk ns s (w ++ [k]) t ↔ ∃ u, Wk ns s w u ∧ k ∈ wrongI ns u ∧ t = flipI u k
  | [], s => by
    constructor
    · rintro ⟨h, h2⟩; exact ⟨s, rfl, h, h2.symm⟩
    · rintro ⟨u, rfl, h, h2⟩; exact ⟨h, h2.symm⟩
  | x :: w, s => by
    constructor
    · rintro ⟨h, h2⟩
      obtain ⟨u, h3, h4⟩ := wk_snoc.mp h2
      exact ⟨u, ⟨h, h3⟩, h4⟩
    · rintro ⟨u, ⟨h, h3⟩, h4⟩
      exact ⟨h, wk_snoc.mpr ⟨u, h3, h4⟩⟩
theorem flip_flip {m k : Nat} {st : List Int} (h : IsSt m st) (hk : k < m) : flipI (flipI st k) k = st := by
  have hl : k < st.length := by rw [h.len]; exact hk
  refine List.ext_getElem? fun i => ?_
  unfold flipI withI
  have e : (st.take k).length = k := by rw [List.length_take]; omega
  have e2 : (st.take k ++ (1 - st.getD k 0) :: st.drop (k + 1)).getD k 0 = 1 - st.getD k 0 := by
    rw [List.getD_eq_getElem?_getD, List.getElem?_append_right (by omega), e, Nat.sub_self]
    rfl
  rw [e2]
  have e3 : (st.take k ++ (1 - st.getD k 0) :: st.drop (k + 1)).take k = st.take k := by
    rw [List.take_append_of_le_length (by omega), List.take_take, Nat.min_self]
  have e4 : (st.take k ++ (1 - st.getD k 0) :: st.drop (k + 1)).drop (k + 1) = st.drop (k + 1) := by
    rw [List.drop_append, e, List.drop_eq_nil_of_le (by omega), List.nil_append, show k + 1 - k = 1 by omega]
    rfl
  rw [e3, e4, show (1 : Int) - (1 - st.getD k 0) = st.getD k 0 by omega]
  rw [List.getD_eq_getElem?_getD, List.getElem?_eq_getElem hl]
  have : st = st.take k ++ st[k] :: st.drop (k + 1) := by rw [List.getElem_cons_drop, List.take_append_drop]
  conv => rhs; rw [this]
  rfl
abbrev EnT := List Int × List Nat
def addE (s : EnT) (L : List EnT) (k : Nat) : List EnT := if flipI s.1 k ∈ L.map (·.1) then L else L ++ [(flipI s.1 k, s.2 ++ [k])]
def stepE (ns : List RuleT) (L : List EnT) (s : EnT) : List EnT := (wrongI ns s.1).foldl (addE s) L
def bfsE (ns : List RuleT) : Nat → Nat → List EnT → List EnT
  | 0, _, L => L
  | n + 1, i, L => match L[i]? with
    | some s => bfsE ns n (i + 1) (stepE ns L s)
    | none => L
theorem addE_fst {s : EnT} {L : List EnT} {k : Nat} : (addE s L k).map (·.1) = addS (L.map (·.1)) (flipI s.1 k) := by
  unfold addE addS
  by_cases c : flipI s.1 k ∈ L.map (·.1)
  · rw [if_pos c, if_pos c]
  · rw [if_neg c, if_neg c, List.map_append]; rfl
theorem foldE_fst {s : EnT} : ∀ {ks : List Nat} {L : List EnT}, (ks.foldl (addE s) L).map (·.1) = (ks.map (flipI s.1)).foldl addS (L.map (·.1))
  | [], _ => rfl
  | k :: ks, L => by rw [List.foldl_cons, foldE_fst, addE_fst]; rfl
theorem stepE_fst {ns : List RuleT} {L : List EnT} {s : EnT} : (stepE ns L s).map (·.1) = stepS ns (L.map (·.1)) s.1 := foldE_fst
theorem bfsE_fst {ns : List RuleT} : ∀ {n i : Nat} {L : List EnT}, (bfsE ns n i L).map (·.1) = bfs ns n i (L.map (·.1))
  | 0, _, _ => rfl
  | n + 1, i, L => by
    unfold bfsE bfs
    rw [List.getElem?_map]
    cases e : L[i]? with
    | none => rfl
    | some s =>
      show (bfsE ns n (i + 1) (stepE ns L s)).map (·.1) = bfs ns n (i + 1) (stepS ns (L.map (·.1)) s.1)
      rw [bfsE_fst, stepE_fst]
def kidE (p : EnT) (k : Nat) : EnT := (flipI p.1 k, p.2 ++ [k])
/-- what holds of the entries; dn: the changes that were looked at -/
structure BI (ns : List RuleT) (st0 : List Int) (L : List EnT) (dn : EnT → Nat → Prop) : Prop where
  wk : ∀ e ∈ L, Wk ns st0 e.2 e.1
  srt : L.Pairwise fun a b => sl a.2 b.2
  par : ∀ e ∈ L, e = (st0, []) ∨ ∃ p k, p ∈ L ∧ dn p k ∧ k ∈ wrongI ns p.1 ∧ e = kidE p k
  all : ∀ p ∈ L, ∀ k ∈ wrongI ns p.1, dn p k → ∃ e ∈ L, e.1 = flipI p.1 k ∧ sle e.2 (p.2 ++ [k])
theorem BI.add {ns : List RuleT} {st0 : List Int} {L : List EnT} {dn dn' : EnT → Nat → Prop} {s : EnT} {k : Nat} (h : BI ns st0 L dn) (hs : s ∈ L) (hk : k ∈ wrongI ns s.1) (lt : ∀ p ∈ L, ∀ j, dn p j → sl p.2 s.2 ∨ p = s ∧ j < k)
    (d1 : ∀ p j, dn p j → dn' p j) (d2 : dn' s k) (d3 : ∀ p ∈ L, ∀ j, dn' p j → dn p j ∨ p = s ∧ j = k) (d4 : ∀ j, ¬ dn' (kidE s k) j) : BI ns st0 (addE s L k) dn' := by
  have big : ∀ e ∈ L, sl e.2 (s.2 ++ [k]) := fun e he => by
    rcases h.par e he with rfl | ⟨p, j, hp, hd, hj, rfl⟩
    · exact .inl (by simp)
    · rcases lt p hp j hd with z | ⟨rfl, z⟩
      · exact sl_snoc z
      · exact sl_last z
  unfold addE
  by_cases c : flipI s.1 k ∈ L.map (·.1)
  · rw [if_pos c]
    refine ⟨h.wk, h.srt, fun e he => ?_, fun p hp j hj hd => ?_⟩
    · rcases h.par e he with z | ⟨p, j, hp, hd, hj, z⟩
      · exact .inl z
      · exact .inr ⟨p, j, hp, d1 p j hd, hj, z⟩
    · rcases d3 p hp j hd with z | ⟨rfl, rfl⟩
      · exact h.all p hp j hj z
      · obtain ⟨e, he, ee⟩ := List.mem_map.mp c
        exact ⟨e, he, ee, .inr (big e he)⟩
  · rw [if_neg c]
    refine ⟨fun e he => ?_, ?_, fun e he => ?_, fun p hp j hj hd => ?_⟩
    · rcases List.mem_append.mp he with he | he
      · exact h.wk e he
      · obtain rfl := List.mem_singleton.mp he
        exact wk_snoc.mpr ⟨_, h.wk s hs, hk, rfl⟩
    · refine List.pairwise_append.mpr ⟨h.srt, List.pairwise_singleton _ _, fun a ha b hb => ?_⟩
      obtain rfl := List.mem_singleton.mp hb
      exact big a ha
    · rcases List.mem_append.mp he with he | he
      · rcases h.par e he with z | ⟨p, j, hp, hd, hj, z⟩
        · exact .inl z
        · exact .inr ⟨p, j, List.mem_append_left _ hp, d1 p j hd, hj, z⟩
      · obtain rfl := List.mem_singleton.mp he
        exact .inr ⟨s, k, List.mem_append_left _ hs, d2, hk, rfl⟩
    · rcases List.mem_append.mp hp with hp | hp
      · rcases d3 p hp j hd with z | ⟨rfl, rfl⟩
        · obtain ⟨e, he, e1, e2⟩ := h.all p hp j hj z
          exact ⟨e, List.mem_append_left _ he, e1, e2⟩
        · exact ⟨kidE p j, List.mem_append_right _ (List.mem_singleton.mpr rfl), rfl, .inl rfl⟩
      · obtain rfl := List.mem_singleton.mp hp
        exact absurd hd (d4 j)
def dnI (L : List EnT) (i : Nat) (p : EnT) : Prop := ∃ j, j < i ∧ L[j]? = some p
theorem addE_app {s : EnT} {L : List EnT} {k : Nat} : ∃ M, addE s L k = L ++ M ∧ ∀ x ∈ M, x = kidE s k := by
  unfold addE
  by_cases c : flipI s.1 k ∈ L.map (·.1)
  · rw [if_pos c]; exact ⟨[], by simp, by simp⟩
  · rw [if_neg c]; exact ⟨_, rfl, fun x hx => List.mem_singleton.mp hx⟩
theorem get_app {L M : List EnT} {j : Nat} (h : j < L.length) : (L ++ M)[j]? = L[j]? := List.getElem?_append_left h
theorem inner_bi {ns : List RuleT} {st0 : List Int} {s : EnT} {i : Nat} : ∀ (ks pre : List Nat) (L : List EnT), L[i]? = some s → pre ++ ks = wrongI ns s.1 → BI ns st0 L (fun p k => dnI L i p ∨ p = s ∧ k ∈ pre) →
    BI ns st0 (ks.foldl (addE s) L) (fun p k => dnI (ks.foldl (addE s) L) i p ∨ p = s ∧ k ∈ wrongI ns s.1) ∧ (ks.foldl (addE s) L)[i]? = some s
  | [], pre, L, hs, e, h => by
    rw [List.append_nil] at e
    rw [e] at h
    exact ⟨h, hs⟩
  | k :: ks, pre, L, hs, e, h => by
    have hi : i < L.length := (List.getElem?_eq_some_iff.mp hs).1
    have hsm : s ∈ L := List.mem_of_getElem? hs
    have asc : (pre ++ k :: ks).Pairwise (· < ·) := by
      rw [e]
      exact List.pairwise_lt_range.filter _
    have pk : ∀ a ∈ pre, a < k := fun a ha => (List.pairwise_append.mp asc).2.2 a ha k (by simp)
    obtain ⟨M, eM, hM⟩ := addE_app (s := s) (L := L) (k := k)
    have hs' : (addE s L k)[i]? = some s := by rw [eM, get_app hi]; exact hs
    have sub : ∀ p, dnI L i p → sl p.2 s.2 := fun p ⟨j, hj, ej⟩ => by
      obtain ⟨h1, e1⟩ := List.getElem?_eq_some_iff.mp ej
      obtain ⟨h2, e2⟩ := List.getElem?_eq_some_iff.mp hs
      have := List.pairwise_iff_getElem.mp h.srt j i h1 h2 hj
      rw [e1, e2] at this
      exact this
    have dd : ∀ p, dnI (addE s L k) i p ↔ dnI L i p := fun p => by
      unfold dnI
      rw [eM]
      constructor
      · rintro ⟨j, hj, ej⟩; rw [get_app (by omega)] at ej; exact ⟨j, hj, ej⟩
      · rintro ⟨j, hj, ej⟩; exact ⟨j, hj, by rw [get_app (by omega)]; exact ej⟩
    have kn : ∀ p, p ∈ L → p ≠ kidE s k ∨ True := fun _ _ => .inr trivial
    have b := h.add (k := k) (dn' := fun p j => dnI (addE s L k) i p ∨ p = s ∧ j ∈ pre ++ [k]) hsm (by rw [← e]; simp) (fun p hp j hd => ?_) (fun p j hd => ?_) (.inr ⟨rfl, by simp⟩) (fun p hp j hd => ?_) (fun j hd => ?_)
    · exact inner_bi ks (pre ++ [k]) (addE s L k) hs' (by rw [List.append_assoc]; exact e) b
    · rcases hd with z | ⟨z, z2⟩
      · exact .inl (sub p z)
      · exact .inr ⟨z, pk j z2⟩
    · rcases hd with z | ⟨z, z2⟩
      · exact .inl ((dd p).mpr z)
      · exact .inr ⟨z, List.mem_append_left _ z2⟩
    · rcases hd with z | ⟨z, z2⟩
      · exact .inl (.inl ((dd p).mp z))
      · rcases List.mem_append.mp z2 with z2 | z2
        · exact .inl (.inr ⟨z, z2⟩)
        · exact .inr ⟨z, List.mem_singleton.mp z2⟩
    · have len : (kidE s k).2.length = s.2.length + 1 := by simp [kidE]
      rcases hd with z | ⟨z, _⟩
      · have := sub _ ((dd _).mp z)
        rcases this with h | h
        · omega
        · omega
      · rw [z] at len; omega
theorem bfs_bi {ns : List RuleT} {st0 : List Int} : ∀ (n i : Nat) (L : List EnT), 2 ^ ns.length < n + i → InS ns.length (L.map (·.1)) → i ≤ L.length → BI ns st0 L (fun p _ => dnI L i p) →
    BI ns st0 (bfsE ns n i L) (fun _ _ => True)
  | 0, i, L, hn, h0, hi, h => by
    have := h0.len
    rw [List.length_map] at this
    omega
  | n + 1, i, L, hn, h0, hi, h => by
    unfold bfsE
    cases e : L[i]? with
    | none =>
      have hl : L.length ≤ i := List.getElem?_eq_none_iff.mp e
      refine ⟨h.wk, h.srt, fun e he => ?_, fun p hp k hk _ => ?_⟩
      · rcases h.par e he with z | ⟨p, k, hp, _, hk, z⟩
        · exact .inl z
        · exact .inr ⟨p, k, hp, trivial, hk, z⟩
      · have hp : p ∈ L := hp
        refine h.all p hp k hk ?_
        obtain ⟨j, hj, ej⟩ := List.getElem_of_mem hp
        exact ⟨j, by omega, by rw [List.getElem?_eq_getElem hj, ej]⟩
    | some s =>
      have hil : i < L.length := (List.getElem?_eq_some_iff.mp e).1
      have hs : IsSt ns.length s.1 := h0.st s.1 (List.mem_map.mpr ⟨s, List.mem_of_getElem? e, rfl⟩)
      obtain ⟨b1, b2⟩ := inner_bi (ns := ns) (st0 := st0) (s := s) (i := i) (wrongI ns s.1) [] L e rfl ⟨h.wk, h.srt, fun x hx => by
          rcases h.par x hx with z | ⟨p, k, hp, hd, hk, z⟩
          · exact .inl z
          · exact .inr ⟨p, k, hp, .inl hd, hk, z⟩, fun p hp k hk hd => by
          rcases hd with z | ⟨_, z⟩
          · exact h.all p hp k hk z
          · cases z⟩
      have b1 : BI ns st0 (stepE ns L s) (fun p k => dnI (stepE ns L s) i p ∨ p = s ∧ k ∈ wrongI ns s.1) := b1
      have b2 : (stepE ns L s)[i]? = some s := b2
      have ll : L.length ≤ (stepE ns L s).length := by
        have := stepS_len (ns := ns) (L := L.map (·.1)) (st := s.1)
        rw [← stepE_fst, List.length_map, List.length_map] at this
        exact this
      refine bfs_bi n (i + 1) (stepE ns L s) (by omega) (by rw [stepE_fst]; exact h0.step hs) (by omega) ⟨b1.wk, b1.srt, fun x hx => ?_, fun p hp k hk hd => ?_⟩
      · rcases b1.par x hx with z | ⟨p, k, hp, hd, hk, z⟩
        · exact .inl z
        · refine .inr ⟨p, k, hp, ?_, hk, z⟩
          rcases hd with ⟨j, hj, ej⟩ | ⟨rfl, _⟩
          · exact ⟨j, by omega, ej⟩
          · exact ⟨i, by omega, b2⟩
      · refine b1.all p hp k hk ?_
        obtain ⟨j, hj, ej⟩ := hd
        by_cases c : j < i
        · exact .inl ⟨j, c, ej⟩
        · have : j = i := by omega
          subst this
          rw [b2] at ej
          cases ej
          exact .inr ⟨rfl, hk⟩
/-- the first of the shortest -/
def Best (ns : List RuleT) (s : List Int) (w : List Nat) (t : List Int) : Prop := Wk ns s w t ∧ ∀ w', Wk ns s w' t → sle w w'
def searE (ns : List RuleT) (st : List Int) : List EnT := bfsE ns (2 ^ ns.length + 1) 0 [(st, [])]
theorem sear_fst {ns : List RuleT} {st : List Int} : (searE ns st).map (·.1) = reachI ns st := bfsE_fst
theorem sear_bi {ns : List RuleT} {st : List Int} (hs : IsSt ns.length st) : BI ns st (searE ns st) (fun _ _ => True) :=
  bfs_bi _ 0 [(st, [])] (by omega) (one_in hs) (by simp) ⟨fun e he => by
    obtain rfl := List.mem_singleton.mp he
    rfl, List.pairwise_singleton _ _, fun e he => .inl (List.mem_singleton.mp he), fun p hp k hk ⟨j, hj, _⟩ => by omega⟩
theorem bfsE_sub {ns : List RuleT} {x : EnT} : ∀ {n i : Nat} {L : List EnT}, x ∈ L → x ∈ bfsE ns n i L
  | 0, _, _, h => h
  | n + 1, i, L, h => by
    unfold bfsE
    cases e : L[i]? with
    | none => exact h
    | some s =>
      refine bfsE_sub (n := n) (i := i + 1) (L := stepE ns L s) ?_
      have : ∀ (ks : List Nat) (L : List EnT), x ∈ L → x ∈ ks.foldl (addE s) L := fun ks => by
        induction ks with
        | nil => intro L h; exact h
        | cons k ks ih =>
          intro L h
          obtain ⟨M, eM, _⟩ := addE_app (s := s) (L := L) (k := k)
          exact ih _ (by rw [eM]; exact List.mem_append_left _ h)
      exact this _ _ h
theorem sear_min {ns : List RuleT} {st : List Int} (hs : IsSt ns.length st) : ∀ (n : Nat) (w : List Nat) (t : List Int), w.length = n → Wk ns st w t → ∃ e ∈ searE ns st, e.1 = t ∧ sle e.2 w
  | 0, w, t, hl, h => by
    obtain rfl := List.length_eq_zero_iff.mp hl
    obtain rfl := h
    exact ⟨(st, []), bfsE_sub (by simp), rfl, .inl rfl⟩
  | n + 1, w, t, hl, h => by
    have ne : w ≠ [] := fun z => by rw [z] at hl; cases hl
    have ew := List.dropLast_concat_getLast ne
    rw [← ew] at h
    obtain ⟨u, h1, hk, rfl⟩ := wk_snoc.mp h
    obtain ⟨p, hp, e1, e2⟩ := sear_min hs n w.dropLast u (by rw [List.length_dropLast, hl]; rfl) h1
    obtain ⟨e, he, e3, e4⟩ := (sear_bi hs).all p hp _ (by rw [e1]; exact hk) trivial
    refine ⟨e, he, by rw [e3, e1], ?_⟩
    rw [← ew]
    exact sle_tr e4 (sle_snoc e2)
theorem sear_best {ns : List RuleT} {st : List Int} (hs : IsSt ns.length st) {e : EnT} (he : e ∈ searE ns st) : Best ns st e.2 e.1 := by
  refine ⟨(sear_bi hs).wk e he, fun w hw => ?_⟩
  obtain ⟨e', he', e1, e2⟩ := sear_min hs _ w e.1 rfl hw
  have nd : ((searE ns st).map (·.1)).Nodup := by rw [sear_fst]; exact (reach_in hs).1.nd
  have : e' = e := by
    obtain ⟨i, hi, ei⟩ := List.getElem_of_mem he'
    obtain ⟨j, hj, ej⟩ := List.getElem_of_mem he
    have : i = j := (List.getElem_inj (h₀ := by rw [List.length_map]; exact hi) (h₁ := by rw [List.length_map]; exact hj) nd).mp (by rw [List.getElem_map, List.getElem_map, ei, ej, e1])
    subst this
    rw [← ei, ej]
  rw [← this]
  exact e2
theorem reach_wk {ns : List RuleT} {st t : List Int} (hs : IsSt ns.length st) : t ∈ reachI ns st ↔ ∃ w, Wk ns st w t := by
  rw [← sear_fst]
  constructor
  · intro h
    obtain ⟨e, he, rfl⟩ := List.mem_map.mp h
    exact ⟨e.2, (sear_bi hs).wk e he⟩
  · rintro ⟨w, hw⟩
    obtain ⟨e, he, e1, _⟩ := sear_min hs _ w t rfl hw
    exact List.mem_map.mpr ⟨e, he, e1⟩
end H

set_option Elab.async false
set_option linter.all false
set_option maxRecDepth 100000
namespace H
open PySem PySem.Spec PyProof.Rows L2 Y
def parD (e : EnT) : D := match e.2.getLast? with
  | some k => .tup [.int (k : Nat), ti (flipI e.1 k)]
  | none => .non
abbrev stE (L : List EnT) : List (List Int) := L.map (·.1)
theorem parD_kid {m : Nat} {p : EnT} {k : Nat} (h : IsSt m p.1) (hk : k < m) : parD (kidE p k) = .tup [.int (k : Nat), ti p.1] := by
  unfold parD kidE
  simp only [List.getLast?_concat]
  rw [flip_flip h hk]
theorem search_inE {ns : List RuleT} {st0 : List Int} {s : EnT} {i : Nat} (hm : ns.length ≤ 20) (hs : IsSt ns.length s.1) (L : List EnT) (h0 : InS ns.length (stE L)) (h2 : L[i]? = some s) :
    forL (tmTup [5, 6]) C.b_search_from_1 [5, 6] [] ((wrongI ns s.1).map fun k : Nat => D.tup [.int (k : Nat), ti (flipI s.1 k)]) [some (dNet ns), some (ti st0), some (.dit ((stE L).map kt) (L.map parD)), some (lti (stE L)), some (.int i), none, none]
      = .ok (.nx, [some (dNet ns), some (ti st0), some (.dit ((stE (stepE ns L s)).map kt) ((stepE ns L s).map parD)), some (lti (stE (stepE ns L s))), some (.int i), none, none]) ∧ (stepE ns L s)[i]? = some s := by
  obtain ⟨a, b, c⟩ := for_run (tm := tmTup [5, 6]) (body := C.b_search_from_1) (vs := [5, 6]) (ws := []) (fun k : Nat => D.tup [.int (k : Nat), ti (flipI s.1 k)]) (fun L : List EnT => [some (dNet ns), some (ti st0), some (.dit ((stE L).map kt) (L.map parD)), some (lti (stE L)), some (.int i), none, none]) (addE s) (fun L => InS ns.length (stE L) ∧ L[i]? = some s) (wrongI ns s.1) L ⟨h0, h2⟩ fun L k ⟨h0, h2⟩ hk => by
    have hf := flip_st hs (wrong_lt hk)
    have lL := h0.len
    have p20 := pow20 hm
    have f := find_kt (L := stE L) (ds := L.map parD) (t := flipI s.1 k) (by rw [List.length_map, List.length_map])
    have gk := get_kt (L := stE L) (ds := L.map parD) (t := flipI s.1 k)
    have hi : i < L.length := (List.getElem?_eq_some_iff.mp h2).1
    have a := atI_of (xs := (stE L).map ti) (i := (i : Int)) (j := i) (x := ti s.1) rfl (by rw [List.getElem?_map, List.getElem?_map, h2]; rfl)
    have zl : szOk ((stE L).length + 1) = true := szOk_of (by omega)
    unfold addE
    by_cases c : flipI s.1 k ∈ stE L
    · rw [if_pos c]
      rw [decide_eq_true c] at f
      refine ⟨⟨h0, h2⟩, by simp, ?_⟩
      simp only [turnF, C.b_search_from_1]
      generalize findD ((stE L).map kt) (L.map parD) (kt (flipI s.1 k)) = F at f gk
      obtain ⟨y, rfl⟩ := Option.isSome_iff_exists.mp f
      generalize ti (flipI s.1 k) = T at gk
      generalize (stE L).map kt = KS at gk
      generalize L.map parD = DS at gk
      generalize (stE L).map ti = TS at a
      simp [gk]
    · rw [if_neg c]
      rw [decide_eq_false c] at f
      have ad := h0.add hf
      unfold addS at ad
      rw [if_neg c] at ad
      have es : stE (L ++ [(flipI s.1 k, s.2 ++ [k])]) = stE L ++ [flipI s.1 k] := by rw [stE, List.map_append]; rfl
      have ep : (L ++ [(flipI s.1 k, s.2 ++ [k])]).map parD = L.map parD ++ [.tup [.int (k : Nat), ti s.1]] := by
        rw [List.map_append]
        have := parD_kid (p := s) hs (wrong_lt hk)
        unfold kidE at this
        rw [List.map_singleton, this]
      refine ⟨⟨by rw [es]; exact ad, by rw [List.getElem?_append_left hi]; exact h2⟩, by simp, ?_⟩
      have pk := put_kt (L := stE L) (ds := L.map parD) (t := flipI s.1 k) (d := .tup [.int (k : Nat), ti s.1]) c (by omega)
      show turnF _ _ _ _ _ = R.ok (Fl.nx, [some (dNet ns), some (ti st0), some (.dit ((stE (L ++ [(flipI s.1 k, s.2 ++ [k])])).map kt) ((L ++ [(flipI s.1 k, s.2 ++ [k])]).map parD)), some (lti (stE (L ++ [(flipI s.1 k, s.2 ++ [k])]))), some (.int i), none, none])
      rw [es, ep]
      have em : lti (stE L ++ [flipI s.1 k]) = .lst ((stE L).map ti ++ [ti (flipI s.1 k)]) := by
        show D.lst _ = _
        rw [List.map_append]; rfl
      rw [em]
      simp only [turnF, C.b_search_from_1]
      generalize findD ((stE L).map kt) (L.map parD) (kt (flipI s.1 k)) = F at f gk
      have f : F = none := by cases F with | none => rfl | some y => cases f
      subst f
      generalize (stE L ++ [flipI s.1 k]).map kt = KS2 at pk
      have zt : szOk (((stE L).map ti).length + 1) = true := by rw [List.length_map]; exact zl
      generalize ti (flipI s.1 k) = T at gk pk
      generalize (stE L).map kt = KS at gk pk
      generalize L.map parD = DS at gk pk
      have hTS2 : lti (stE L) = .lst ((stE L).map ti) := rfl
      rw [hTS2]
      generalize (stE L).map ti = TS at a zt
      generalize ti s.1 = S at *
      simp [gk, pk, a, zt, szOk_of]
  exact ⟨a, c⟩
theorem search_goE {ns : List RuleT} {st0 : List Int} (g : GoodNet ns) (hm : ns.length ≤ 20) : ∀ (n i : Nat) (L : List EnT), 2 ^ ns.length < n + i → InS ns.length (stE L) → i ≤ L.length →
    whileN (cBl (cOp ltD (cVar 4) (cCall lenD (cCons (cOwn 3) (cNil))))) C.b_search_from_2 [5, 6] n [some (dNet ns), some (ti st0), some (.dit ((stE L).map kt) (L.map parD)), some (lti (stE L)), some (.int i), none, none]
      = .ok (.nx, [some (dNet ns), some (ti st0), some (.dit ((stE (bfsE ns n i L)).map kt) ((bfsE ns n i L).map parD)), some (lti (stE (bfsE ns n i L))), some (.int (bfsE ns n i L).length), none, none])
  | 0, i, L, hn, h0, hi => by
    have := h0.len
    rw [List.length_map] at this
    omega
  | n + 1, i, L, hn, h0, hi => by
    have lL := h0.len
    have p20 := pow20 hm
    have zl : szOk ((stE L).map ti).length = true := szOk_of (by rw [List.length_map]; omega)
    have t : cBl (cOp ltD (cVar 4) (cCall lenD (cCons (cOwn 3) (cNil)))) [some (dNet ns), some (ti st0), some (.dit ((stE L).map kt) (L.map parD)), some (lti (stE L)), some (.int i), none, none] = .ok (decide (i < L.length), [some (dNet ns), some (ti st0), some (.dit ((stE L).map kt) (L.map parD)), some (lti (stE L)), some (.int i), none, none]) := by
      have e : decide ((i : Int) < (((stE L).map ti).length : Int)) = decide (i < L.length) := by rw [List.length_map, List.length_map, Bool.eq_iff_iff, decide_eq_true_eq, decide_eq_true_eq]; omega
      have hT : lti (stE L) = .lst ((stE L).map ti) := rfl
      rw [hT]
      generalize (stE L).map kt = KS
      generalize L.map parD = DS
      rw [← e]
      generalize (stE L).map ti = TS at zl
      simp [zl]
    rcases Nat.lt_or_ge i L.length with c | c
    · rw [decide_eq_true c] at t
      have e2 : L[i]? = some L[i] := List.getElem?_eq_getElem c
      generalize L[i] = s at e2
      have hs : IsSt ns.length s.1 := h0.st s.1 (List.mem_map.mpr ⟨s, List.mem_of_getElem? e2, rfl⟩)
      obtain ⟨e3, _⟩ := search_inE (st0 := st0) (i := i) hm hs L h0 e2
      have h3 : InS ns.length (stE (stepE ns L s)) := by
        show InS ns.length ((stepE ns L s).map (·.1))
        rw [stepE_fst]; exact h0.step hs
      have ll : L.length ≤ (stepE ns L s).length := by
        have := stepS_len (ns := ns) (L := L.map (·.1)) (st := s.1)
        rw [← stepE_fst, List.length_map, List.length_map] at this
        exact this
      have e4 := search_goE (st0 := st0) g hm n (i + 1) (stepE ns L s) (by omega) h3 (by omega)
      have eb : bfsE ns (n + 1) i L = bfsE ns n (i + 1) (stepE ns L s) := by rw [bfsE, e2]
      rw [eb]
      have so := steps_ok g hm hs
      have a := atI_of (xs := (stE L).map ti) (i := (i : Int)) (j := i) (x := ti s.1) rfl (by rw [List.getElem?_map, List.getElem?_map, e2]; rfl)
      have b : C.b_search_from_2 [some (dNet ns), some (ti st0), some (.dit ((stE L).map kt) (L.map parD)), some (lti (stE L)), some (.int i), none, none] = .ok (.nx, [some (dNet ns), some (ti st0), some (.dit ((stE (stepE ns L s)).map kt) ((stepE ns L s).map parD)), some (lti (stE (stepE ns L s))), some (.int ((i + 1 : Nat) : Int)), none, none]) := by
        simp only [C.b_search_from_2]
        generalize C.b_search_from_1 = B at e3 ⊢
        have zw : szOk ((wrongI ns s.1).map (fun k : Nat => D.tup [.int (k : Nat), ti (flipI s.1 k)])).length = true := szOk_of (by rw [List.length_map]; have := wrong_len (ns := ns) (st := s.1); omega)
        generalize (wrongI ns s.1).map (fun k : Nat => D.tup [.int (k : Nat), ti (flipI s.1 k)]) = W at e3 so zw
        generalize (stepE ns L s).map parD = DS2 at *
        generalize (stE (stepE ns L s)).map kt = KS2 at *
        generalize lti (stE (stepE ns L s)) = LS2 at *
        have hT : lti (stE L) = .lst ((stE L).map ti) := rfl
        rw [hT] at e3 ⊢
        generalize (stE L).map ti = TS at *
        generalize (stE L).map kt = KS at *
        generalize L.map parD = DS at *
        simp [a, so, e3, zw]
      rw [whileN_step' t b]
      exact e4
    · rw [decide_eq_false (by omega)] at t
      have e2 : L[i]? = none := List.getElem?_eq_none c
      have eb : bfsE ns (n + 1) i L = L := by rw [bfsE, e2]
      have ei : i = L.length := by omega
      rw [eb, whileN_stop' t, ei]
theorem searchE_ok {ns : List RuleT} {st : List Int} (g : GoodNet ns) (hm : ns.length ≤ 20) (hs : IsSt ns.length st) : C.g_search_from [dNet ns, ti st] = .ok (.fr (.dit ((stE (searE ns st)).map kt) ((searE ns st).map parD))) := by
  have e := search_goE (st0 := st) g hm (2 ^ ns.length + 1) 0 [(st, [])] (by omega) (one_in hs) (by simp)
  have e := sWhile_of e
  have e : sWhile (cBl (cOp ltD (cVar 4) (cCall lenD (cCons (cOwn 3) (cNil))))) C.b_search_from_2 [5, 6] [some (dNet ns), some (ti st), some (.dit [kt st] [.non]), some (.lst [ti st]), some (.int 0), none, none] = .ok (.nx, [some (dNet ns), some (ti st), some (.dit ((stE (searE ns st)).map kt) ((searE ns st).map parD)), some (lti (stE (searE ns st))), some (.int (searE ns st).length), none, none]) := e
  simp only [C.g_search_from, C.m_search_from]
  generalize C.b_search_from_2 = B at e ⊢
  generalize (stE (searE ns st)).map kt = KS at e ⊢
  generalize (searE ns st).map parD = DS at e ⊢
  generalize lti (stE (searE ns st)) = S at e
  have e : sWhile _ B [5, 6] [some (dNet ns), some (.tup (st.map D.int)), some (.dit [kt st] [.non]), some (.lst [.tup (st.map D.int)]), some (.int 0), none, none] = _ := e
  have k1 := keys_ti st
  show fnP 2 7 _ [dNet ns, .tup (st.map D.int)] = _
  generalize kt st = K1 at k1 e
  generalize st.map D.int = T at *
  generalize (searE ns st).length = n at *
  simp [e_fnP, e, k1, shAt, szOk_of]
theorem find_par {L : List EnT} {e : EnT} : (stE L).Nodup → e ∈ L → findD ((stE L).map kt) (L.map parD) (kt e.1) = some (parD e) := by
  induction L with
  | nil => intro _ h; cases h
  | cons x L ih =>
    intro nd h
    show (if kt x.1 = kt e.1 then some (parD x) else findD ((stE L).map kt) (L.map parD) (kt e.1)) = _
    obtain ⟨n1, n2⟩ := List.nodup_cons.mp (show (x.1 :: stE L).Nodup from nd)
    rcases List.mem_cons.mp h with rfl | h
    · rw [if_pos rfl]
    · have ne : ¬ kt x.1 = kt e.1 := fun z => n1 (by rw [kt_inj.mp z]; exact List.mem_map.mpr ⟨e, h, rfl⟩)
      rw [if_neg ne]
      exact ih n2 h
theorem way_go {ns : List RuleT} {one : List Int} {L : List EnT} {N : D} (nd : (stE L).Nodup) (hs : ∀ e ∈ L, IsSt ns.length e.1) (par : ∀ e ∈ L, e = (one, []) ∨ ∃ p k, p ∈ L ∧ k ∈ wrongI ns p.1 ∧ e = kidE p k) :
    ∀ (n : Nat) (e : EnT) (F : List Nat), e ∈ L → e.2.length = n → F.length + n ≤ 10000000 → ∃ ρ', whileN (cBl (cOp isNotD (cDGet (cVar 3) (cVar 2)) (cC .non))) C.b_way_of_1 [5] (n + 1) [some N, some (ti one), some (ti e.1), some (.dit ((stE L).map kt) (L.map parD)), some (ln' F), none] = .ok (.nx, ρ') ∧ ρ' = [some N, some (ti one), some (ti one), some (.dit ((stE L).map kt) (L.map parD)), some (ln' (F ++ e.2.reverse)), none] := by
  intro n
  induction n with
  | zero =>
    intro e F he hl hz
    have e2 : e.2 = [] := List.length_eq_zero_iff.mp hl
    have e1 : e = (one, []) := by
      rcases par e he with z | ⟨p, k, _, _, rfl⟩
      · exact z
      · simp [kidE] at hl
    subst e1
    have f := find_par nd he
    have gk := get_kt (L := stE L) (ds := L.map parD) (t := one)
    have f : findD ((stE L).map kt) (L.map parD) (kt one) = some .non := f
    rw [f] at gk
    have t : cBl (cOp isNotD (cDGet (cVar 3) (cVar 2)) (cC .non)) [some N, some (ti one), some (ti one), some (.dit ((stE L).map kt) (L.map parD)), some (ln' F), none] = .ok (false, [some N, some (ti one), some (ti one), some (.dit ((stE L).map kt) (L.map parD)), some (ln' F), none]) := by
      generalize ti one = T at *
      generalize (stE L).map kt = KS at *
      generalize L.map parD = DS at *
      simp [gk, Y.isNon]
    exact ⟨_, whileN_stop' t, by simp⟩
  | succ n ih =>
    intro e F he hl hz
    rcases par e he with rfl | ⟨p, k, hp, hk, rfl⟩
    · cases hl
    · have f := find_par nd he
      rw [parD_kid (hs p hp) (wrong_lt hk)] at f
      have gk := get_kt (L := stE L) (ds := L.map parD) (t := (kidE p k).1)
      rw [f] at gk
      have t : cBl (cOp isNotD (cDGet (cVar 3) (cVar 2)) (cC .non)) [some N, some (ti one), some (ti (kidE p k).1), some (.dit ((stE L).map kt) (L.map parD)), some (ln' F), none] = .ok (true, [some N, some (ti one), some (ti (kidE p k).1), some (.dit ((stE L).map kt) (L.map parD)), some (ln' F), none]) := by
        generalize ti (kidE p k).1 = T at *
        generalize ti one = T1 at *
        generalize (stE L).map kt = KS at *
        generalize L.map parD = DS at *
        simp [gk, Y.isNon]
      have b : C.b_way_of_1 [some N, some (ti one), some (ti (kidE p k).1), some (.dit ((stE L).map kt) (L.map parD)), some (ln' F), none] = .ok (.nx, [some N, some (ti one), some (ti p.1), some (.dit ((stE L).map kt) (L.map parD)), some (ln' (F ++ [k])), some (.int (k : Nat))]) := by
        have el : ln' (F ++ [k]) = .lst (F.map (fun i : Nat => D.int (i : Nat)) ++ [.int (k : Nat)]) := by
          show D.lst _ = _
          rw [List.map_append]; rfl
        have zF : szOk (F.length + 1) = true := szOk_of (by omega)
        rw [el]
        simp only [C.b_way_of_1]
        have hF : ln' F = .lst (F.map fun i : Nat => D.int (i : Nat)) := rfl
        rw [hF]
        have zF2 : szOk ((F.map fun i : Nat => D.int (i : Nat)).length + 1) = true := by rw [List.length_map]; exact zF
        generalize (F.map fun i : Nat => D.int (i : Nat)) = FD at *
        generalize ti (kidE p k).1 = T at *
        generalize ti p.1 = TP at *
        generalize ti one = T1 at *
        generalize (stE L).map kt = KS at *
        generalize L.map parD = DS at *
        simp [gk, zF2]
      have kl : (kidE p k).2.length = p.2.length + 1 := by simp [kidE]
      obtain ⟨ρ', i1, i2⟩ := ih p (F ++ [k]) hp (by omega) (by simp; omega)
      refine ⟨ρ', ?_, ?_⟩
      · rw [whileN_step' t b]
        exact i1
      · rw [i2]
        have : F ++ [k] ++ p.2.reverse = F ++ (kidE p k).2.reverse := by simp [kidE]
        rw [this]
theorem way_of_ok {ns : List RuleT} {one other : List Int} (g : GoodNet ns) (hm : ns.length ≤ 19) (hs : IsSt ns.length one) (ho : IsSt ns.length other) :
    (other ∉ reachI ns one → C.g_way_of [dNet ns, ti one, ti other] = .ok (.fr .non)) ∧ (other ∈ reachI ns one → ∃ w, Best ns one w other ∧ w.length ≤ 2 ^ 20 ∧ C.g_way_of [dNet ns, ti one, ti other] = .ok (.fr (ln' w))) := by
  have lk : ∀ s : List Int, IsSt ns.length s → C.g_look_at_stand [dNet ns, ti s] = .ok (.fr .non) := fun s h => by
    have l := look_at_stand_ok (n := ns.map dRule) (xs := s) (by rw [h.len]; omega) h.bit (by rw [h.len, List.length_map])
    exact l
  have l1 := lk one hs
  have l2 := lk other ho
  have se := searchE_ok g (by omega) hs
  have nd : (stE (searE ns one)).Nodup := by
    show ((searE ns one).map (·.1)).Nodup
    rw [sear_fst]; exact (reach_in hs).1.nd
  have stt : ∀ e ∈ searE ns one, IsSt ns.length e.1 := fun e he => (reach_in hs).1.st e.1 (by rw [← sear_fst]; exact List.mem_map.mpr ⟨e, he, rfl⟩)
  have par : ∀ e ∈ searE ns one, e = (one, []) ∨ ∃ p k, p ∈ searE ns one ∧ k ∈ wrongI ns p.1 ∧ e = kidE p k := fun e he => by
    rcases (sear_bi hs).par e he with z | ⟨p, k, hp, _, hk, z⟩
    · exact .inl z
    · exact .inr ⟨p, k, hp, hk, z⟩
  have fk := find_kt (L := stE (searE ns one)) (ds := (searE ns one).map parD) (t := other) (by rw [List.length_map, List.length_map])
  have gk := get_kt (L := stE (searE ns one)) (ds := (searE ns one).map parD) (t := other)
  have mem : other ∈ stE (searE ns one) ↔ other ∈ reachI ns one := by rw [← sear_fst]
  refine ⟨fun h => ?_, fun h => ?_⟩
  · rw [decide_eq_false fun z => h (mem.mp z)] at fk
    simp only [C.g_way_of, C.m_way_of]
    generalize findD ((stE (searE ns one)).map kt) ((searE ns one).map parD) (kt other) = F at *
    have : F = none := by cases F with | none => rfl | some y => cases fk
    subst this
    generalize (stE (searE ns one)).map kt = KS at *
    generalize (searE ns one).map parD = DS at *
    generalize ti other = T at *
    generalize ti one = T1 at *
    generalize dNet ns = N at *
    simp [e_fnP, l1, l2, se, gk]
  · obtain ⟨e, he, e1⟩ := List.mem_map.mp (mem.mpr h)
    have bst := sear_best hs he
    rw [decide_eq_true (mem.mpr h)] at fk
    have wl : e.2.length ≤ 2 ^ 20 := by
      have : ∀ (n : Nat) (e : EnT), e ∈ searE ns one → e.2.length = n → n < (searE ns one).length := by
        intro n
        intro e he hl
        -- the ways ahead of it lie in the search
        have pre : ∀ j, j ≤ n → ∃ p ∈ searE ns one, p.2.length = n - j := by
          intro j
          induction j with
          | zero => intro _; exact ⟨e, he, by omega⟩
          | succ j ih =>
            intro hj
            obtain ⟨p, hp, pl⟩ := ih (by omega)
            rcases par p hp with rfl | ⟨q, k, hq, _, rfl⟩
            · simp at pl; omega
            · exact ⟨q, hq, by simp [kidE] at pl; omega⟩
        have sub : ∀ i ∈ List.range (n + 1), i ∈ (searE ns one).map fun e => e.2.length := fun i hi => by
          have hi := List.mem_range.mp hi
          obtain ⟨p, hp, pl⟩ := pre (n - i) (by omega)
          exact List.mem_map.mpr ⟨p, hp, by omega⟩
        have := nodup_len List.nodup_range sub
        rw [List.length_range, List.length_map] at this
        omega
      have h1 := this _ e he rfl
      have h2 := (reach_in (ns := ns) hs).1.len
      rw [← sear_fst, List.length_map] at h2
      have := pow20 (m := ns.length) (by omega)
      omega
    refine ⟨e.2, by rw [← e1]; exact bst, wl, ?_⟩
    obtain ⟨ρ', w1, w2⟩ := way_go (N := dNet ns) nd stt par e.2.length e [] he rfl (by simp; omega)
    have w := sWhile_of w1
    rw [w2, List.nil_append] at w
    have e1 : e.1 = other := e1
    rw [e1] at w
    have w : sWhile (cBl (cOp isNotD (cDGet (cVar 3) (cVar 2)) (cC .non))) C.b_way_of_1 [5] [some (dNet ns), some (ti one), some (ti other), some (.dit ((stE (searE ns one)).map kt) ((searE ns one).map parD)), some (.lst []), none] = .ok (.nx, [some (dNet ns), some (ti one), some (ti one), some (.dit ((stE (searE ns one)).map kt) ((searE ns one).map parD)), some (.lst (e.2.reverse.map fun i : Nat => D.int (i : Nat))), none]) := w
    have rv : (e.2.reverse.map fun i : Nat => D.int (i : Nat)).reverse = e.2.map fun i : Nat => D.int (i : Nat) := by rw [← List.map_reverse, List.reverse_reverse]
    have re : ln' e.2 = .lst (e.2.map fun i : Nat => D.int (i : Nat)) := rfl
    rw [re, ← rv]
    simp only [C.g_way_of, C.m_way_of]
    generalize findD ((stE (searE ns one)).map kt) ((searE ns one).map parD) (kt other) = F at *
    obtain ⟨y, rfl⟩ := Option.isSome_iff_exists.mp fk
    generalize (e.2.reverse.map fun i : Nat => D.int (i : Nat)) = RD at *
    generalize (stE (searE ns one)).map kt = KS at *
    generalize (searE ns one).map parD = DS at *
    generalize C.b_way_of_1 = B at *
    generalize ti other = T at *
    generalize ti one = T1 at *
    generalize dNet ns = N at *
    simp [e_fnP, l1, l2, se, gk, w, shAt]
end H

set_option Elab.async false
set_option linter.all false
set_option maxRecDepth 100000
set_option maxHeartbeats 4000000
namespace H
open PySem PySem.Spec PyProof.Rows L2 Y
def preB (ns : List RuleT) (j k : Nat) : Bool := decide ([(j : Int), (k : Int)] ∈ prI (wiresI ns))
def leftN (m : Nat) (row : List Nat) : List Nat := (List.range m).filter fun k => !decide (k ∈ row)
def freeO (ns : List RuleT) (row : List Nat) (k : Nat) : Option Nat := if ((leftN ns.length row).any fun j => preB ns j k) = true then none else some k
def nextO (ns : List RuleT) (row : List Nat) : Option Nat := (leftN ns.length row).findSome? (freeO ns row)
section
variable {ns : List RuleT} {most : Nat}
theorem in_lnK {k : Nat} {row : List Nat} : ninD (.int (k : Nat)) (ln' row) = .ok (.bl (!decide (k ∈ row))) := by
  have e : ln' row = li (row.map fun k : Nat => (k : Int)) := by
    show D.lst _ = D.lst _
    rw [List.map_map]
    rfl
  rw [e, nin_of in_li]
  refine congrArg (fun q => Y.R.ok (D.bl (!q))) (decide_eq_decide.mpr ?_)
  rw [List.mem_map]
  constructor
  · rintro ⟨a, ha, e⟩
    have : a = k := by omega
    rw [← this]; exact ha
  · intro h
    exact ⟨k, h, rfl⟩
theorem pre_ok (h : NetOk ns most) {j k : Nat} : ∃ o, getDic (prD (wiresI ns)) (.tup [.int (j : Nat), .int (k : Nat)]) = .ok o ∧ o.isSome = preB ns j k := by
  refine ⟨_, get_pr (p := [(j : Int), (k : Int)]), ?_⟩
  unfold preB
  by_cases c : [(j : Int), (k : Int)] ∈ prI (wiresI ns)
  · rw [if_pos c, decide_eq_true c]; rfl
  · rw [if_neg c, decide_eq_false c]; rfl
theorem next_free_ok (h : NetOk ns most) (hm : most ≤ 20) {row : List Nat} (hr : row.length ≤ 1000) : (∀ k, nextO ns row = some k → C.g_next_free [dNet ns, ln' row] = .ok (.vl (.int k))) ∧ (nextO ns row = none → C.g_next_free [dNet ns, ln' row] = .ok (.fr .non)) := by
  have hle := h.le
  obtain ⟨sb, _, wk⟩ := pairs_ok h hm
  have ln : lenD [dNet ns] = .ok (.int ns.length) := by rw [d_lenT, List.length_map]
  have ll : (leftN ns.length row).length ≤ ns.length := by
    have := List.length_filter_le (fun k => !decide (k ∈ row)) (List.range ns.length)
    rw [List.length_range] at this
    exact this
  have c1 := comp_filter (tm := tmName 4) (t := C.t_next_free_1) (e := C.e_next_free_1) (vs := [4]) (ws := []) (ρ := [some (dNet ns), some (ln' row), some (prD (wiresI ns)), none, none, none]) (fun k : Nat => D.int (k : Nat)) (fun k => !decide (k ∈ row)) (fun k : Nat => D.int (k : Nat)) (List.range ns.length) fun k hk => by
    have i := in_lnK (k := k) (row := row)
    simp only [turnC, C.t_next_free_1, C.e_next_free_1]
    generalize (!decide (k ∈ row)) = q at *
    generalize ln' row = RD at *
    generalize prD (wiresI ns) = PD at *
    generalize dNet ns = N at *
    cases q <;> simp [i]
  have zl : szOk ((leftN ns.length row).map fun k : Nat => D.int (k : Nat)).length = true := szOk_of (by rw [List.length_map]; omega)
  have lp := for_first (tm := tmName 4) (body := C.b_next_free_1) (vs := [4]) (ws := []) (fun k : Nat => D.int (k : Nat)) (freeO ns row) (fun k => Hd.vl (.int (k : Nat))) (leftN ns.length row) [some (dNet ns), some (ln' row), some (prD (wiresI ns)), some (ln' (leftN ns.length row)), none, none] fun k hk => by
    have c2 := comp_map (tm := tmName 5) (t := cYes) (e := C.e_next_free_2) (vs := [5]) (ws := []) (ρ := [some (dNet ns), some (ln' row), some (prD (wiresI ns)), some (ln' (leftN ns.length row)), some (.int k), none]) (fun j : Nat => D.int (j : Nat)) (fun j => D.bl (preB ns j k)) (leftN ns.length row) fun j hj => by
      obtain ⟨o, g1, g2⟩ := pre_ok h (j := j) (k := k)
      rw [← g2]
      simp only [turnC, C.e_next_free_2]
      generalize ln' (leftN ns.length row) = LD at *
      generalize ln' row = RD at *
      generalize dNet ns = N at *
      generalize prD (wiresI ns) = PD at *
      simp [g1, szOk_of]
    have e2 : ((leftN ns.length row).map fun j => D.bl (preB ns j k)) = ((leftN ns.length row).map fun j => preB ns j k).map D.bl := by rw [List.map_map]; rfl
    rw [e2] at c2
    have an := d_any (xs := (leftN ns.length row).map fun j => preB ns j k)
    have ea : ((leftN ns.length row).map fun j => preB ns j k).any id = (leftN ns.length row).any fun j => preB ns j k := by rw [List.any_map]; rfl
    rw [ea] at an
    have zb : szOk (((leftN ns.length row).map fun j => preB ns j k).map D.bl).length = true := szOk_of (by rw [List.length_map, List.length_map]; omega)
    unfold freeO
    have eL : ln' (leftN ns.length row) = .lst ((leftN ns.length row).map fun k : Nat => D.int (k : Nat)) := rfl
    rw [eL] at c2 ⊢
    generalize ((leftN ns.length row).map fun j => preB ns j k).map D.bl = BD at *
    generalize ((leftN ns.length row).any fun j => preB ns j k) = q at *
    generalize ((leftN ns.length row).map fun k : Nat => D.int (k : Nat)) = LD at *
    cases q with
    | true =>
      refine ⟨fun _ => ?_, fun b z => by simp at z⟩
      simp only [turnF, C.b_next_free_1]
      generalize C.e_next_free_2 = E at *
      generalize ln' row = RD at *
      generalize dNet ns = N at *
      generalize prD (wiresI ns) = PD at *
      simp [zl, c2, zb, an, -d_any]
    | false =>
      refine ⟨fun z => by simp at z, fun b z => ?_⟩
      simp at z
      subst z
      refine ⟨[some (dNet ns), some (ln' row), some (prD (wiresI ns)), some (.lst LD), some (.int k), none], ?_⟩
      simp only [turnF, C.b_next_free_1]
      generalize C.e_next_free_2 = E at *
      generalize ln' row = RD at *
      generalize dNet ns = N at *
      generalize prD (wiresI ns) = PD at *
      simp [zl, c2, zb, an, -d_any]
  have rk : rngOk ns.length = true := rngOk_of (by omega) (by omega)
  have zk : szOk ns.length = true := szOk_of (by omega)
  have eL : ln' (leftN ns.length row) = .lst ((leftN ns.length row).map fun k : Nat => D.int (k : Nat)) := rfl
  have eF : ((List.range ns.length).filter fun k => !decide (k ∈ row)) = leftN ns.length row := rfl
  rw [eL] at lp
  rw [eF] at c1
  unfold nextO
  refine ⟨fun k q => ?_, fun q => ?_⟩
  · obtain ⟨ρ', l⟩ := lp.2 k q
    simp only [C.g_next_free, C.m_next_free]
    generalize C.b_next_free_1 = B at *
    generalize C.t_next_free_1 = T at *
    generalize C.e_next_free_1 = E at *
    generalize ((leftN ns.length row).map fun k : Nat => D.int (k : Nat)) = LD at *
    generalize ln' row = RD at *
    generalize dNet ns = N at *
    generalize prD (wiresI ns) = PD at *
    simp [e_fnP, sb, ln, rk, zk, c1, zl, l, -d_lenT]
  · have l := lp.1 q
    simp only [C.g_next_free, C.m_next_free]
    generalize C.b_next_free_1 = B at *
    generalize C.t_next_free_1 = T at *
    generalize C.e_next_free_1 = E at *
    generalize ((leftN ns.length row).map fun k : Nat => D.int (k : Nat)) = LD at *
    generalize ln' row = RD at *
    generalize dNet ns = N at *
    generalize prD (wiresI ns) = PD at *
    simp [e_fnP, sb, ln, rk, zk, c1, zl, l, -d_lenT]
theorem mem_left {m k : Nat} {row : List Nat} : k ∈ leftN m row ↔ k < m ∧ k ∉ row := by
  unfold leftN
  rw [List.mem_filter, List.mem_range]
  simp
/-- each comes after all it hears -/
structure Topo (ns : List RuleT) (row : List Nat) : Prop where
  nd : row.Nodup
  lt : ∀ k ∈ row, k < ns.length
  pre : ∀ i (h : i < row.length), ∀ j, j < ns.length → preB ns j row[i] = true → j ∈ row.take i
theorem topo_add {row : List Nat} {k : Nat} (t : Topo ns row) (h : nextO ns row = some k) : Topo ns (row ++ [k]) := by
  unfold nextO at h
  obtain ⟨k', hk', e⟩ := List.exists_of_findSome?_eq_some h
  unfold freeO at e
  split at e
  · cases e
  · rename_i c
    cases e
    obtain ⟨l1, l2⟩ := mem_left.mp hk'
    refine ⟨?_, fun x hx => ?_, fun i hi j hj hp => ?_⟩
    · refine List.pairwise_append.mpr ⟨t.nd, List.pairwise_singleton _ _, fun a ha b hb e => ?_⟩
      rw [List.mem_singleton.mp hb] at e
      exact l2 (e ▸ ha)
    · rcases List.mem_append.mp hx with hx | hx
      · exact t.lt x hx
      · rw [List.mem_singleton.mp hx]; exact l1
    · rw [List.length_append, List.length_singleton] at hi
      by_cases ci : i < row.length
      · rw [List.getElem_append_left ci] at hp
        rw [List.take_append_of_le_length (by omega)]
        exact t.pre i ci j hj hp
      · have ei : i = row.length := by omega
        subst ei
        rw [List.take_append_of_le_length (Nat.le_refl _), List.take_length]
        rw [List.getElem_append_right (Nat.le_refl _)] at hp
        have hp : preB ns j k = true := by simpa using hp
        refine Classical.byContradiction fun z => c ?_
        rw [List.any_eq_true]
        exact ⟨j, mem_left.mpr ⟨hj, z⟩, hp⟩
/-- none is free: there is a ring -/
theorem stuck_ring (w : WOk ns.length (wiresI ns)) {row : List Nat} (nd : row.Nodup) (hl : row.length < ns.length) (h : nextO ns row = none) : sortL (allR (wiresI ns) ns.length) ≠ [] := by
  have pred : ∀ k, k ∈ leftN ns.length row → ∃ j, j ∈ leftN ns.length row ∧ ∃ s, inW (wiresI ns) j k s := fun k hk => by
    unfold nextO at h
    rw [List.findSome?_eq_none_iff] at h
    have := h k hk
    unfold freeO at this
    split at this
    · rename_i c
      rw [List.any_eq_true] at c
      obtain ⟨j, hj, hp⟩ := c
      obtain ⟨t, ht, e⟩ := mem_prI.mp (of_decide_eq_true hp)
      obtain ⟨a, b, ha, hb, q⟩ := w.2 t ht
      refine ⟨j, hj, ?_⟩
      rcases q with rfl | rfl
      · have : [(a : Int), (b : Int)] = [(j : Int), (k : Int)] := e
        injection this with e1 e2; injection e2 with e2
        have e1 : a = j := by omega
        have e2 : b = k := by omega
        subst e1 e2
        exact ⟨_, ht⟩
      · have : [(a : Int), (b : Int)] = [(j : Int), (k : Int)] := e
        injection this with e1 e2; injection e2 with e2
        have e1 : a = j := by omega
        have e2 : b = k := by omega
        subst e1 e2
        exact ⟨_, ht⟩
    · cases this
  have some_k : ∃ k, k ∈ leftN ns.length row := by
    refine Classical.byContradiction fun z => ?_
    have := nodup_len (A := List.range ns.length) (B := row) List.nodup_range fun k hk => by
      refine Classical.byContradiction fun c => z ⟨k, mem_left.mpr ⟨List.mem_range.mp hk, c⟩⟩
    rw [List.length_range] at this
    omega
  have long : ∀ n, ∃ u L, u ∈ leftN ns.length row ∧ wkE (inW (wiresI ns)) u L ∧ L.length = n := by
    intro n
    induction n with
    | zero =>
      obtain ⟨k, h1⟩ := some_k
      exact ⟨k, [], h1, trivial, rfl⟩
    | succ n ih =>
      obtain ⟨u, L, h1, h3, h4⟩ := ih
      obtain ⟨j, hj, s, q⟩ := pred u h1
      exact ⟨j, (u, s) :: L, hj, ⟨q, h3⟩, by rw [List.length_cons, h4]⟩
  obtain ⟨u, L, h1, h3, h4⟩ := long (ns.length + 1)
  have wl := wk_lt w h3
  have ndL : ¬ (L.map (·.1)).Nodup := fun z => by
    have := nodup_len (B := List.range ns.length) z fun x hx => by
      obtain ⟨p, hp, rfl⟩ := List.mem_map.mp hx
      exact List.mem_range.mpr (wl p hp)
    rw [List.length_map, List.length_range] at this
    omega
  obtain ⟨A, x, B, y, C, rfl, e⟩ := nd_split ndL
  obtain ⟨i1, i2⟩ := wk_inner h3 e
  obtain ⟨a', L', l1, l2, l3, l4⟩ := simple_of _ (Nat.le_refl _) (by simp) i1 i2
  obtain ⟨r, r1, _⟩ := ring_of w l1 l2 l3 l4
  exact List.ne_nil_of_mem r1
theorem ring_pred {r : List Int} {x : Int} (h : x ∈ r) : ∃ y ∈ r, [y, x] ∈ stI r := by
  cases r with
  | nil => cases h
  | cons a s =>
    have hl : (a :: s).length = (s ++ [a]).length := by simp
    have : x ∈ s ++ [a] := by
      rcases List.mem_cons.mp h with rfl | h
      · simp
      · simp [h]
    obtain ⟨i, hi, e⟩ := List.getElem_of_mem this
    have h2 : i < (a :: s).length := by omega
    refine ⟨(a :: s)[i], List.getElem_mem h2, ?_⟩
    unfold stI
    refine List.mem_map.mpr ⟨((a :: s)[i], x), ?_, rfl⟩
    refine List.mem_iff_getElem?.mpr ⟨i, List.getElem?_zip_eq_some.mpr ⟨List.getElem?_eq_getElem h2, ?_⟩⟩
    show (s ++ [a])[i]? = some x
    rw [List.getElem?_eq_getElem hi, e]
/-- all in order: there is no ring -/
theorem topo_none {row : List Nat} (t : Topo ns row) (hl : ns.length ≤ row.length) (h6 : ns.length ≤ 6) : sortL (allR (wiresI ns) ns.length) = [] := by
  have all : ∀ k, k < ns.length → k ∈ row := fun k hk => by
    refine Classical.byContradiction fun c => ?_
    have := nodup_len (A := k :: row) (B := List.range ns.length) (List.nodup_cons.mpr ⟨c, t.nd⟩) fun x hx => by
      rcases List.mem_cons.mp hx with rfl | hx
      · exact List.mem_range.mpr hk
      · exact List.mem_range.mpr (t.lt x hx)
    rw [List.length_cons, List.length_range] at this
    omega
  refine Classical.byContradiction fun c => ?_
  obtain ⟨r, hr⟩ := List.exists_mem_of_ne_nil _ c
  obtain ⟨a, s, e, _, hp⟩ := all_mem h6 hr
  obtain ⟨n, hn, hq⟩ := List.mem_flatMap.mp ((sortL_perm _).mem_iff.mp hr)
  obtain ⟨_, _, mem⟩ := rows_mem.mp (List.mem_filter.mp hq).1
  obtain ⟨x, hx, least⟩ := argmin (fun x : Int => row.idxOf x.toNat) (L := r) (by rw [e]; simp)
  obtain ⟨y, hy, hyx⟩ := ring_pred hx
  have x0 := mem_rg.mp (mem x hx)
  have y0 := mem_rg.mp (mem y hy)
  have xr := all x.toNat (by omega)
  have xi := List.idxOf_lt_length_of_mem xr
  have gx := List.getElem_idxOf xi
  have := t.pre (row.idxOf x.toNat) xi y.toNat (by omega) (by
    rw [gx]
    refine decide_eq_true ?_
    have e1 : ((y.toNat : Nat) : Int) = y := by omega
    have e2 : ((x.toNat : Nat) : Int) = x := by omega
    rw [e1, e2]
    exact hp _ hyx)
  have l := least y hy
  obtain ⟨i, hi, e⟩ := List.getElem_of_mem this
  rw [List.length_take] at hi
  rw [List.getElem_take] at e
  have : row.idxOf y.toNat ≤ i := by
    have : row.idxOf row[i] = i := by rw [t.nd.idxOf_getElem]
    rw [e] at this
    omega
  omega
end
end H

set_option Elab.async false
set_option linter.all false
set_option maxRecDepth 100000
set_option maxHeartbeats 4000000
namespace H
open PySem PySem.Spec PyProof.Rows L2 Y
section
variable {ns : List RuleT} {most : Nat}
theorem many_go (h : NetOk ns most) (hm : most ≤ 20) (h6 : ns.length ≤ 6) {x1 x2 : Option D} {b : Nat} (hb : b ≤ ns.length) (hne : withR (wiresI ns) ns.length b ≠ []) : ∀ (n a : Nat), 1 ≤ a → a ≤ b → b - a < n → ∃ c, 1 ≤ c ∧ c ≤ 6 ∧ withR (wiresI ns) ns.length c ≠ [] ∧
    whileN (cBl (cOp eqD (cCallF C.g_rings_with (cCons (cVar 0) (cCons (cVar 3) (cNil)))) (cLst (cNil)))) C.b_order_paper_1 [] n [some (dNet ns), x1, x2, some (.int a)] = .ok (.nx, [some (dNet ns), x1, x2, some (.int c)])
  | 0, a, _, _, hn => by omega
  | n + 1, a, h1, h2, hn => by
    have rw' := rings_with_ok h hm h6 (n := a) h1 (by omega)
    have eq := eq_nilLT (S := withR (wiresI ns) ns.length a)
    have t : cBl (cOp eqD (cCallF C.g_rings_with (cCons (cVar 0) (cCons (cVar 3) (cNil)))) (cLst (cNil))) [some (dNet ns), x1, x2, some (.int a)] = .ok ((withR (wiresI ns) ns.length a).isEmpty, [some (dNet ns), x1, x2, some (.int a)]) := by
      generalize lti (withR (wiresI ns) ns.length a) = LD at *
      generalize dNet ns = N at *
      simp [rw', eq, szOk_of]
    cases q : (withR (wiresI ns) ns.length a).isEmpty with
    | false =>
      rw [q] at t
      refine ⟨a, h1, by omega, fun z => ?_, ?_⟩
      · rw [z] at q; cases q
      · exact whileN_stop t
    | true =>
      rw [q] at t
      have ab : a ≠ b := fun z => by
        rw [z, List.isEmpty_iff] at q
        exact hne q
      obtain ⟨c, c1, c2, c3, e⟩ := many_go h hm h6 (x1 := x1) (x2 := x2) hb hne n (a + 1) (by omega) (by omega) (by omega)
      refine ⟨c, c1, c2, c3, ?_⟩
      have bd : C.b_order_paper_1 [some (dNet ns), x1, x2, some (.int a)] = .ok (.nx, [some (dNet ns), x1, x2, some (.int ((a + 1 : Nat) : Int))]) := by
        simp only [C.b_order_paper_1]
        generalize dNet ns = N at *
        simp
      rw [whileN_step t bd]
      exact e
def ordD (row : List Nat) : D := .tup [.str (Str.ofString "order"), ln' row]
def rngD (r : List Int) : D := .tup [.str (Str.ofString "ring"), ti r]
theorem order_go (h : NetOk ns most) (hm : most ≤ 20) (h6 : ns.length ≤ 6) (w : WOk ns.length (wiresI ns)) : ∀ (n : Nat) (row : List Nat), Topo ns row → ns.length - row.length < n →
    (∃ row', Topo ns row' ∧ ns.length ≤ row'.length ∧ whileN (cBl (cOp ltD (cCall lenD (cCons (cOwn 1) (cNil))) (cCall lenD (cCons (cVar 0) (cNil))))) C.b_order_paper_2 [2, 3] n [some (dNet ns), some (ln' row), none, none] = .ok (.nx, [some (dNet ns), some (ln' row'), none, none])) ∨
    (sortL (allR (wiresI ns) ns.length) ≠ [] ∧ ∃ r ro x2 x3, whileN (cBl (cOp ltD (cCall lenD (cCons (cOwn 1) (cNil))) (cCall lenD (cCons (cVar 0) (cNil))))) C.b_order_paper_2 [2, 3] n [some (dNet ns), some (ln' row), none, none] = .ok (.rt (.fr (rngD r)), [some (dNet ns), some (ln' ro), x2, x3]))
  | 0, row, t, hn => by omega
  | n + 1, row, t, hn => by
    have hle := h.le
    have ln : lenD [dNet ns] = .ok (.int ns.length) := by rw [d_lenT, List.length_map]
    have lr : lenD [ln' row] = .ok (.int row.length) := by rw [d_lenL, List.length_map]
    have rle : row.length ≤ ns.length := by
      have := nodup_len (A := row) (B := List.range ns.length) t.nd fun x hx => List.mem_range.mpr (t.lt x hx)
      rw [List.length_range] at this
      exact this
    have tst : cBl (cOp ltD (cCall lenD (cCons (cOwn 1) (cNil))) (cCall lenD (cCons (cVar 0) (cNil)))) [some (dNet ns), some (ln' row), none, none] = .ok (decide (row.length < ns.length), [some (dNet ns), some (ln' row), none, none]) := by
      have lt : ltD (.int (row.length : Nat)) (.int (ns.length : Nat)) = .ok (.bl (decide (row.length < ns.length))) := by
        rw [d_lt]
        exact congrArg (fun q => Y.R.ok (D.bl q)) (decide_eq_decide.mpr (by omega))
      generalize decide (row.length < ns.length) = q at *
      generalize ln' row = RD at *
      generalize dNet ns = N at *
      simp [ln, lr, lt, -d_lt, -d_lenT, -d_lenL]
    by_cases c : row.length < ns.length
    · rw [decide_eq_true c] at tst
      obtain ⟨f1, f2⟩ := next_free_ok h hm (row := row) (by omega)
      cases q : nextO ns row with
      | some k =>
        have nf := f1 k q
        have t2 := topo_add t q
        have zl : szOk (row.length + 1) = true := szOk_of (by omega)
        have bd : C.b_order_paper_2 [some (dNet ns), some (ln' row), none, none] = .ok (.nx, [some (dNet ns), some (ln' (row ++ [k])), some (.int k), none]) := by
          have el : ln' (row ++ [k]) = .lst ((row.map fun k : Nat => D.int (k : Nat)) ++ [.int k]) := by simp
          rw [el]
          have er : ln' row = .lst (row.map fun k : Nat => D.int (k : Nat)) := rfl
          rw [er] at nf ⊢
          have zl2 : szOk ((row.map fun k : Nat => D.int (k : Nat)).length + 1) = true := by rw [List.length_map]; exact zl
          simp only [C.b_order_paper_2]
          generalize (row.map fun k : Nat => D.int (k : Nat)) = RD at *
          generalize C.b_order_paper_1 = B1 at *
          generalize dNet ns = N at *
          have ii : isD (.int (k : Nat)) .non = .ok (.bl false) := rfl
          simp [nf, zl2, ii, D.nl, Y.isNon]
        have ih := order_go h hm h6 w n (row ++ [k]) t2 (by rw [List.length_append, List.length_singleton]; omega)
        rcases ih with ⟨row', r1, r2, e⟩ | ⟨r1, r, ro, x2, x3, e⟩
        · exact .inl ⟨row', r1, r2, by rw [whileN_step tst bd]; exact e⟩
        · exact .inr ⟨r1, r, ro, x2, x3, by rw [whileN_step tst bd]; exact e⟩
      | none =>
        have nf := f2 q
        have ne := stuck_ring w t.nd c q
        refine .inr ⟨ne, ?_⟩
        obtain ⟨r0, hr0⟩ := List.exists_mem_of_ne_nil _ ne
        obtain ⟨b, hb, hq⟩ := List.mem_flatMap.mp ((sortL_perm _).mem_iff.mp hr0)
        have hb := List.mem_range.mp hb
        obtain ⟨cc, c1, c2, c3, e⟩ := many_go h hm h6 (x1 := some (ln' row)) (x2 := some .non) (b := b + 1) (by omega) (List.ne_nil_of_mem hq) (b + 1) 1 (by omega) (by omega) (by omega)
        have ws := sWhile_of e
        have rwk := rings_with_ok h hm h6 (n := cc) c1 c2
        obtain ⟨r, rs, er⟩ : ∃ r rs, withR (wiresI ns) ns.length cc = r :: rs := by
          cases hW : withR (wiresI ns) ns.length cc with
          | nil => exact absurd hW c3
          | cons r rs => exact ⟨r, rs, rfl⟩
        rw [er] at rwk
        have i0 : ixD (lti (r :: rs)) (.int 0) = .ok (ti r) := by
          show (match atI ((r :: rs).map ti) 0 with | some d => Y.R.ok d | none => Y.R.stk) = _
          rw [show atI ((r :: rs).map ti) 0 = some (ti r) from atI_of (j := 0) rfl rfl]
        have ws : sWhile (cBl (cOp eqD (cCallF C.g_rings_with (cCons (cVar 0) (cCons (cVar 3) (cNil)))) (cLst (cNil)))) C.b_order_paper_1 [] [some (dNet ns), some (ln' row), some .non, some (.int 1)] = .ok (.nx, [some (dNet ns), some (ln' row), some .non, some (.int cc)]) := ws
        have nlr : D.nl (ti r) = true := nls_ints
        have bd : C.b_order_paper_2 [some (dNet ns), some (ln' row), none, none] = .ok (.rt (.fr (rngD r)), [some (dNet ns), some (ln' row), some .non, some (.int cc)]) := by
          unfold rngD
          have er : ln' row = .lst (row.map fun k : Nat => D.int (k : Nat)) := rfl
          rw [er] at nf ws ⊢
          simp only [C.b_order_paper_2]
          generalize (row.map fun k : Nat => D.int (k : Nat)) = RD at *
          generalize C.b_order_paper_1 = B1 at *
          generalize lti (r :: rs) = LR at *
          generalize ti r = TR at *
          generalize dNet ns = N at *
          have ii : isD .non .non = .ok (.bl true) := rfl
          simp [nf, ii, ws, rwk, i0, szOk_of, D.nl, Y.isNon]
        refine ⟨r, row, some .non, some (.int cc), ?_⟩
        unfold whileN
        rw [tst]
        simp only [R.bind_ok, if_true]
        rw [bd]
        rfl
    · rw [decide_eq_false c] at tst
      exact .inl ⟨row, t, by omega, whileN_stop tst⟩
theorem order_paper_ok (h : NetOk ns most) (hm : most ≤ 20) (h6 : ns.length ≤ 6) (w : WOk ns.length (wiresI ns)) :
    (∃ row, Topo ns row ∧ ns.length ≤ row.length ∧ C.g_order_paper [dNet ns] = .ok (.fr (ordD row))) ∨ (sortL (allR (wiresI ns) ns.length) ≠ [] ∧ ∃ r, C.g_order_paper [dNet ns] = .ok (.fr (rngD r))) := by
  have t0 : Topo ns [] := ⟨by simp, by simp, fun i hi => by simp at hi⟩
  rcases order_go h hm h6 w (ns.length + 1) [] t0 (by simp) with ⟨row, t, hl, e⟩ | ⟨ne, r, ro, x2, x3, e⟩
  · refine .inl ⟨row, t, hl, ?_⟩
    have ws := sWhile_of e
    have ws : sWhile (cBl (cOp ltD (cCall lenD (cCons (cOwn 1) (cNil))) (cCall lenD (cCons (cVar 0) (cNil))))) C.b_order_paper_2 [2, 3] [some (dNet ns), some (.lst []), none, none] = _ := ws
    have nl : nls (row.map fun k : Nat => D.int (k : Nat)) = true := nls_map fun _ _ => rfl
    unfold ordD
    simp only [C.g_order_paper, C.m_order_paper]
    have er : ln' row = .lst (row.map fun k : Nat => D.int (k : Nat)) := rfl
    rw [er] at ws ⊢
    generalize (row.map fun k : Nat => D.int (k : Nat)) = RD at *
    generalize C.b_order_paper_2 = B at *
    generalize dNet ns = N at *
    simp [e_fnP, ws, shAt, chkO_ws, szOk_of, nl, D.nl]
  · refine .inr ⟨ne, r, ?_⟩
    have ws := sWhile_of e
    have ws : sWhile (cBl (cOp ltD (cCall lenD (cCons (cOwn 1) (cNil))) (cCall lenD (cCons (cVar 0) (cNil))))) C.b_order_paper_2 [2, 3] [some (dNet ns), some (.lst []), none, none] = _ := ws
    have er : ln' ro = .lst (ro.map fun k : Nat => D.int (k : Nat)) := rfl
    rw [er] at ws
    simp only [C.g_order_paper, C.m_order_paper]
    generalize (ro.map fun k : Nat => D.int (k : Nat)) = ROD at *
    generalize C.b_order_paper_2 = B at *
    generalize rngD r = RD at *
    generalize dNet ns = N at *
    simp [e_fnP, ws, shAt, chkO_ws, szOk_of]
theorem wk_joinK {s u t : List Int} : ∀ {v : List Nat} {w : List Nat} {s : List Int}, Wk ns s v u → Wk ns u w t → Wk ns s (v ++ w) t
  | [], w, s, h1, h2 => by
    have h1 : s = u := h1
    rw [h1]
    exact h2
  | k :: v, w, s, h1, h2 => ⟨h1.1, wk_joinK (s := s) h1.2 h2⟩
theorem sweep (ok : NetOk ns most) {row : List Nat} (t : Topo ns row) {st : List Int} (hs : IsSt ns.length st) : ∀ i, i ≤ row.length → ∃ (w : List Nat) (s : List Int), Wk ns st w s ∧ IsSt ns.length s ∧ w.length ≤ i ∧ ∀ k ∈ row.take i, oughtI ns s k = s.getD k 0
  | 0, _ => ⟨[], st, rfl, hs, Nat.le_refl _, by simp⟩
  | i + 1, hi => by
    obtain ⟨w, s, h1, h2, h3, h4⟩ := sweep ok t hs i (by omega)
    have hk : row[i] < ns.length := t.lt _ (List.getElem_mem (by omega))
    have e1 : row.take (i + 1) = row.take i ++ [row[i]] := by rw [List.take_add_one, List.getElem?_eq_getElem (by omega)]; rfl
    by_cases c : oughtI ns s row[i] = s.getD row[i] 0
    · refine ⟨w, s, h1, h2, by omega, fun k hk' => ?_⟩
      rw [e1] at hk'
      rcases List.mem_append.mp hk' with hk' | hk'
      · exact h4 k hk'
      · rw [List.mem_singleton.mp hk']; exact c
    · have wr : row[i] ∈ wrongI ns s := wrong_iff.mpr ⟨hk, c⟩
      have fs := flip_st h2 hk
      have fg := fun j => flip_at2 (j := j) h2 hk
      have keep : ∀ k, k < ns.length → preB ns row[i] k = false → oughtI ns (flipI s row[i]) k = oughtI ns s k := fun k hk2 hp => by
        refine Classical.byContradiction fun z => ?_
        obtain ⟨j, hj, hd, q⟩ := diff_wire ok fs h2 hk2 z
        rw [fg] at hd
        by_cases e : j = row[i]
        · have : preB ns j k = true := decide_eq_true (inW_pr q)
          rw [e, hp] at this
          cases this
        · rw [if_neg e] at hd
          exact hd rfl
      have not_self : preB ns row[i] row[i] = false := by
        cases q : preB ns row[i] row[i] with
        | false => rfl
        | true =>
          have := t.pre i (by omega) row[i] hk q
          obtain ⟨a, ha, e⟩ := List.getElem_of_mem this
          rw [List.length_take] at ha
          rw [List.getElem_take] at e
          have := (List.getElem_inj t.nd).mp e
          omega
      refine ⟨w ++ [row[i]], flipI s row[i], wk_joinK (s := st) h1 ⟨wr, rfl⟩, fs, by rw [List.length_append, List.length_singleton]; omega, fun k hk' => ?_⟩
      rw [e1] at hk'
      rcases List.mem_append.mp hk' with hk' | hk'
      · have kl : k < ns.length := t.lt k (List.mem_of_mem_take hk')
        obtain ⟨a, ha, ea⟩ := List.getElem_of_mem hk'
        rw [List.length_take] at ha
        rw [List.getElem_take] at ea
        have np : preB ns row[i] k = false := by
          cases q : preB ns row[i] k with
          | false => rfl
          | true =>
            rw [← ea] at q
            have := t.pre a (by omega) row[i] hk q
            obtain ⟨b, hb, e⟩ := List.getElem_of_mem this
            rw [List.length_take] at hb
            rw [List.getElem_take] at e
            have := (List.getElem_inj t.nd).mp e
            omega
        have kne : k ≠ row[i] := fun z => by
          rw [← ea] at z
          have := (List.getElem_inj t.nd).mp z
          omega
        rw [keep k kl np, fg, if_neg kne]
        exact h4 k hk'
      · rw [List.mem_singleton.mp hk', keep _ hk not_self, fg, if_pos rfl]
        have a := h2.get row[i]
        have b := ok.bit hk s
        omega
theorem short_way (ok : NetOk ns most) {row : List Nat} (t : Topo ns row) (hl : ns.length ≤ row.length) {x : List Int} (hx : restsI ns = [x]) {st : List Int} (hs : IsSt ns.length st) : ∃ w : List Nat, Wk ns st w x ∧ w.length ≤ ns.length := by
  obtain ⟨w, s, h1, h2, h3, h4⟩ := sweep ok t hs row.length (Nat.le_refl _)
  rw [List.take_length] at h4
  have rle : row.length ≤ ns.length := by
    have := nodup_len (A := row) (B := List.range ns.length) t.nd fun x hx => List.mem_range.mpr (t.lt x hx)
    rw [List.length_range] at this
    exact this
  have all : ∀ k, k < ns.length → k ∈ row := fun k hk => by
    refine Classical.byContradiction fun c => ?_
    have := nodup_len (A := k :: row) (B := List.range ns.length) (List.nodup_cons.mpr ⟨c, t.nd⟩) fun x hx => by
      rcases List.mem_cons.mp hx with rfl | hx
      · exact List.mem_range.mpr hk
      · exact List.mem_range.mpr (t.lt x hx)
    rw [List.length_cons, List.length_range] at this
    omega
  have : s ∈ restsI ns := by
    refine mem_restsI.mpr ⟨h2, ?_⟩
    refine Classical.byContradiction fun c => ?_
    obtain ⟨k, hk⟩ := List.exists_mem_of_ne_nil _ c
    obtain ⟨k1, k2⟩ := wrong_iff.mp hk
    exact k2 (h4 k (all k k1))
  rw [hx] at this
  rw [← List.mem_singleton.mp this]
  exact ⟨w, h1, by omega⟩
theorem way_short (ok : NetOk ns most) (hm : most ≤ 19) {row : List Nat} (t : Topo ns row) (hl : ns.length ≤ row.length) {x : List Int} (hx : restsI ns = [x]) {st : List Int} (hs : IsSt ns.length st) : ∃ w : List Nat, C.g_way_of [dNet ns, ti st, ti x] = .ok (.fr (ln' w)) ∧ w.length ≤ ns.length := by
  have hle := ok.le
  have g := ok.good (by omega)
  have xs : IsSt ns.length x := (mem_restsI.mp (by rw [hx]; simp)).1
  obtain ⟨w, h1, h2⟩ := short_way ok t hl hx hs
  obtain ⟨w', b, _, e⟩ := (way_of_ok g (by omega) hs xs).2 ((reach_wk hs).mpr ⟨w, h1⟩)
  refine ⟨w', e, ?_⟩
  rcases b.2 w h1 with q | q
  · rw [q]; exact h2
  · rcases q with q | q
    · omega
    · omega
end
end H

set_option Elab.async false
set_option linter.all false
set_option maxRecDepth 100000
set_option maxHeartbeats 4000000
namespace H
open PySem PySem.Spec PyProof.Rows L2 Y
theorem e_ro : eqD (.str (Str.ofString "order")) (.str (Str.ofString "ring")) = .ok (.bl false) := by
  rw [eqD_of (n := 1) (by unfold Fit; decide +kernel) (by unfold Fit; decide +kernel)]
  have : eqP (.str (Str.ofString "order")) (.str (Str.ofString "ring")) = false := by rw [eqP_str]; decide +kernel
  rw [this]
theorem e_rrK : eqD (.str (Str.ofString "ring")) (.str (Str.ofString "ring")) = .ok (.bl true) := eqD_refl (n := 1) (by unfold Fit; decide +kernel)
theorem n_oo : neD (.str (Str.ofString "order")) (.str (Str.ofString "order")) = .ok (.bl false) := neD_refl (n := 1) (by unfold Fit; decide +kernel)
theorem ix_ord {row : List Nat} : ixD (ordD row) (.int 0) = .ok (.str (Str.ofString "order")) := by
  unfold ordD
  rw [d_ixT, (i2 (a := .str (Str.ofString "order")) (b := ln' row)).1]
theorem ix_rng {r : List Int} : ixD (rngD r) (.int 0) = .ok (.str (Str.ofString "ring")) := by
  unfold rngD
  rw [d_ixT, (i2 (a := .str (Str.ofString "ring")) (b := ti r)).1]
section
variable {ns : List RuleT} {most : Nat}
theorem sgs_loop27 (h : NetOk ns most) (hm : most ≤ 20) (h6 : ns.length ≤ 6) {x0 x1 : Option D} : forL (tmName 5) C.b_law_k27_1 [5] [] ((sortL (allR (wiresI ns) ns.length)).map ti) [x0, x1, some (dNet ns), some (lti (sortL (allR (wiresI ns) ns.length))), some (.lst []), none, none, none, none] = .ok (.nx, [x0, x1, some (dNet ns), some (lti (sortL (allR (wiresI ns) ns.length))), some (li (allSg ns)), none, none, none, none]) := by
  have rl := allR_lenK (ns := ns) h6
  have sof := fun r hr => signs_of_ok h hm h6 (r := r) hr
  have e0 : allSg ns = (sortL (allR (wiresI ns) ns.length)).flatMap fun r => signsR (wiresI ns) (stI r) := rfl
  rw [e0]
  generalize sortL (allR (wiresI ns) ns.length) = RS at *
  have lp := for_idx (tm := tmName 5) (body := C.b_law_k27_1) (vs := [5]) (ws := []) ti RS (fun i => [x0, x1, some (dNet ns), some (lti RS), some (li ((RS.take i).flatMap fun r => signsR (wiresI ns) (stI r))), none, none, none, none]) fun i hi => by
    refine ⟨by simp, ?_⟩
    have e1 : RS.take (i + 1) = RS.take i ++ [RS[i]] := by rw [List.take_add_one, List.getElem?_eq_getElem hi]; rfl
    obtain ⟨so, sk⟩ := sof RS[i] (List.getElem_mem hi)
    have la : ((RS.take i).flatMap fun r => signsR (wiresI ns) (stI r)).length ≤ 559872 := by
      have := flat_len (xs := RS.take i) (f := fun r => signsR (wiresI ns) (stI r)) (c := 2) fun r hr => (sof r (List.mem_of_mem_take hr)).2.1
      rw [List.length_take] at this
      omega
    have lb := sk.1
    rw [e1, List.flatMap_append, List.flatMap_singleton]
    generalize signsR (wiresI ns) (stI RS[i]) = B at *
    generalize (RS.take i).flatMap (fun r => signsR (wiresI ns) (stI r)) = A at *
    have z : szOk ((A.map D.int).length + (B.map D.int).length) = true := szOk_of (by rw [List.length_map, List.length_map]; omega)
    have eab : li (A ++ B) = .lst (A.map D.int ++ B.map D.int) := by rw [← List.map_append]
    have ea : li A = .lst (A.map D.int) := rfl
    have eb : li B = .lst (B.map D.int) := rfl
    rw [eab, ea]
    rw [eb] at so
    simp only [turnF, C.b_law_k27_1]
    generalize A.map D.int = AD at *
    generalize B.map D.int = BD at *
    generalize ti RS[i] = T at *
    generalize lti RS = RD at *
    generalize dNet ns = N at *
    simp [so, z]
  rw [List.take_length] at lp
  exact lp
theorem ringless_ok (ok : NetOk ns most) (hm : most ≤ 6) {row : List Nat} (t : Topo ns row) (hl : ns.length ≤ row.length) (op : C.g_order_paper [dNet ns] = .ok (.fr (ordD row))) {x : List Int} (hx : restsI ns = [x]) (hd : densI ns = [[x]]) : C.g__law_ringless [dNet ns, llti (densI ns), lti (restsI ns)] = .ok (.fr (.bl true)) := by
  have hle := ok.le
  have rd := readings_ok (m := ns.length) (by omega)
  have sl := stands_len ns.length
  have p2 : 2 ^ ns.length ≤ 2 ^ 6 := Nat.pow_le_pow_right (by omega) (by omega)
  have ln : lenD [dNet ns] = .ok (.int ns.length) := by rw [d_lenT, List.length_map]
  have i0 : ixD (lti (restsI ns)) (.int 0) = .ok (ti x) := by
    rw [hx]
    show (match atI ([x].map ti) 0 with | some d => Y.R.ok d | none => Y.R.stk) = _
    rw [show atI ([x].map ti) 0 = some (ti x) from atI_of (j := 0) rfl rfl]
  obtain ⟨ρ', lp⟩ := for_all (tm := tmName 3) (body := C.b__law_ringless_1) (vs := [3, 4]) (ws := []) ti (fun _ => true) (.fr (.bl false)) (stands ns.length) [some (dNet ns), some (llti (densI ns)), some (lti (restsI ns)), none, none] (fun st hst _ => by
    obtain ⟨w, e, wl⟩ := way_short ok (by omega) t hl hx (stands_st hst)
    have lw : lenD [ln' w] = .ok (.int w.length) := by rw [d_lenL, List.length_map]
    have g1 : gtD (.int (w.length : Nat)) (.int (ns.length : Nat)) = .ok (.bl false) := by rw [d_gt, decide_eq_false (by omega)]
    have ii : isD (ln' w) .non = .ok (.bl false) := rfl
    simp only [turnF, C.b__law_ringless_1]
    have iw : Y.isNon (ln' w) = false := rfl
    generalize ln' w = W at *
    generalize ((w.length : Nat) : Int) = wl' at *
    generalize ti st = T at *
    generalize ti x = X at *
    generalize llti (densI ns) = DD at *
    generalize lti (restsI ns) = RD at *
    generalize dNet ns = N at *
    simp [i0, e, iw, ln, lw, g1, -d_gt, -d_lenT]) (fun _ _ z => by cases z)
  have lp : forL _ _ _ _ _ _ = _ := lp.trans (if_pos (by rw [List.all_eq_true]; intro _ _; rfl))
  have z : szOk ((stands ns.length).map ti).length = true := szOk_of (by rw [List.length_map]; omega)
  have rd : C.g__law_readings [.int ns.length] = .ok (.fr (.lst ((stands ns.length).map ti))) := rd
  have l1 : lenD [lti (restsI ns)] = .ok (.int 1) := by rw [hx]; rfl
  have n1 : neD (.int 1) (.int 1) = .ok (.bl false) := neD_refl (n := 0) trivial
  have n2 : neD (llti (densI ns)) (.lst [lti (restsI ns)]) = .ok (.bl false) := by
    rw [hx, hd]
    exact neD_refl (n := 3) (fit_llti (F := [[x]]))
  have io := ix_ord (row := row)
  have no := n_oo
  simp only [C.g__law_ringless, C.m__law_ringless]
  generalize (stands ns.length).map ti = SD at *
  generalize C.b__law_ringless_1 = B at *
  generalize ordD row = OD at *
  generalize llti (densI ns) = DD at *
  generalize lti (restsI ns) = RD at *
  generalize dNet ns = N at *
  simp [e_fnP, op, io, no, l1, n1, n2, ln, rd, z, lp, szOk_of, -d_lenT]
theorem one_heads : sortL (((densI ns).filter fun c => decide (c.length = 1)).map fun c => c.headD []) = restsI ns := by
  have dnd := dens_nd (ns := ns)
  have one : ∀ c ∈ (densI ns).filter (fun c => decide (c.length = 1)), ∃ x, c = [x] ∧ x ∈ restsI ns := fun c hc => by
    obtain ⟨h1, h2⟩ := List.mem_filter.mp hc
    match c, h1, of_decide_eq_true h2 with
    | [x], h1, _ => exact ⟨x, rfl, den_rest h1⟩
  have nd : (((densI ns).filter fun c => decide (c.length = 1)).map fun c => c.headD []).Nodup := by
    refine List.pairwise_map.mpr ((List.Pairwise.sublist List.filter_sublist dnd).imp_of_mem fun {a b} ha hb hab e => ?_)
    obtain ⟨x, rfl, _⟩ := one a ha
    obtain ⟨y, rfl, _⟩ := one b hb
    have e : x = y := e
    exact hab (by rw [e])
  have rnd : (restsI ns).Nodup := List.Pairwise.sublist List.filter_sublist (stands_nodup _)
  have same : ∀ x, x ∈ ((densI ns).filter fun c => decide (c.length = 1)).map (fun c => c.headD []) ↔ x ∈ restsI ns := fun x => by
    rw [List.mem_map]
    constructor
    · rintro ⟨c, hc, rfl⟩
      obtain ⟨x, rfl, h⟩ := one c hc
      exact h
    · intro h
      exact ⟨[x], List.mem_filter.mpr ⟨rest_den h, rfl⟩, rfl⟩
  have rpw : (restsI ns).Pairwise fun a b => ltL b a = false := (List.Pairwise.sublist List.filter_sublist (stands_lt ns.length)).imp fun h => ltL_asym h
  exact (sortL_of ((List.perm_ext_iff_of_nodup rnd nd).mpr fun x => (same x).symm) rpw).symm
end

theorem two_ofK {α : Type} {L : List α} (nd : L.Nodup) (h : 1 < L.length) : ∃ a ∈ L, ∃ b ∈ L, a ≠ b := by
  match L, nd, h with
  | a :: b :: t, nd, _ =>
    refine ⟨a, by simp, b, by simp, fun e => ?_⟩
    subst e
    simp at nd
  | [_], _, h => simp at h
  | [], _, h => simp at h
theorem good_k27 : Good C.g_law_k27 63 := fun ns hl hb => by
  obtain ⟨M, hM⟩ : ∃ M : Nat, max (1 : Int) (min (ns.length : Int) 3) = M := ⟨(max (1 : Int) (min (ns.length : Int) 3)).toNat, by omega⟩
  have hM4 : M ≤ 3 := by omega
  obtain ⟨ρ', h, hρ⟩ := for_inv (tm := tmName 1) (body := C.b_law_k27_2) (vs := [1, 2, 3, 4, 5, 6, 7]) (ws := []) (fun k : Nat => D.int (k : Nat)) (fun ρ => ρ = [some (.arg ns), none, none, none, none, none, none, none, none]) (List.range M) _ rfl fun ρ k hρ hk => by
    subst hρ
    have hk := List.mem_range.mp hk
    obtain ⟨b, hbox⟩ := box2_ok (ns := ns) (k := k) (by omega)
    obtain ⟨net, n1, hnet, ok⟩ := drawn2_ok (n := b) (most := 6) (by omega) (by omega)
    have hnet : C.g__law_drawn [.lst [.int b], .int 6] = _ := hnet
    have hle := ok.le
    have hpos := ok.pos
    have g := ok.good (by omega)
    obtain ⟨_, _, wk⟩ := pairs_ok ok (by omega)
    have dn := dens_of_ok g (by omega) hpos
    have ro := rings_of_ok ok (by omega) (by omega)
    have rr := rests_of_ok g (by omega)
    have nd := dens_nd (ns := net)
    have dpos := dens_someK (ns := net)
    have dlen := dens_len (ns := net)
    have p2 : 2 ^ net.length ≤ 2 ^ 6 := Nat.pow_le_pow_right (by omega) (by omega)
    have spos : 1 < (densI net).length → (1 : Int) ∈ allSg net := fun z => by
      obtain ⟨S, hS, T, hT, ne⟩ := two_ofK nd z
      exact dens_pos ok wk hS hT ne
    have slp := sgs_loop27 (x0 := some (.arg ns)) (x1 := some (.int k)) ok (by omega) (by omega)
    have er := eq_nilLT (S := sortL (allR (wiresI net) net.length))
    have ner : neD (lti (sortL (allR (wiresI net) net.length))) (.lst []) = .ok (.bl (!(sortL (allR (wiresI net) net.length)).isEmpty)) := by
      rw [neD_of (n := 2) fit_lti fit_nil, eqP_lst, eqPs_nil, List.isEmpty_map]
    have rsl := allR_lenK (ns := net) (by omega)
    have zrs : szOk ((sortL (allR (wiresI net) net.length)).map ti).length = true := szOk_of (by rw [List.length_map]; omega)
    have n1' := nin_of (in_li (x := 1) (xs := allSg net))
    have n2' := nin_of (in_li (x := -1) (xs := allSg net))
    have l1 : lenD [llti (densI net)] = .ok (.int (densI net).length) := by rw [d_lenL, List.length_map]
    have g1 : gtD (.int (densI net).length) (.int 1) = .ok (.bl (decide (1 < (densI net).length))) := by
      rw [d_gt]
      exact congrArg (fun q => Y.R.ok (D.bl q)) (decide_eq_decide.mpr (by omega))
    have ed : eqD (llti (densI net)) (.lst []) = .ok (.bl false) := by
      rw [eqD_of (n := 3) fit_llti fit_nil, eqP_lst, eqPs_nil, List.isEmpty_map]
      cases hD : densI net with
      | nil => rw [hD] at dpos; simp at dpos
      | cons _ _ => rfl
    have cA := comp_filter (tm := tmName 8) (t := C.t_law_k27_1) (e := C.e_law_k27_1) (vs := [8]) (ws := []) (ρ := [some (.arg ns), some (.int k), some (dNet net), some (lti (sortL (allR (wiresI net) net.length))), some (li (allSg net)), none, some (llti (densI net)), some (lti (restsI net)), none]) lti (fun c => decide (1 < c.length)) lti (densI net) fun c hc => by
      have l : lenD [lti c] = .ok (.int c.length) := by rw [d_lenL, List.length_map]
      have gt : gtD (.int (c.length : Nat)) (.int 1) = .ok (.bl (decide (1 < c.length))) := by
        rw [d_gt]
        exact congrArg (fun q => Y.R.ok (D.bl q)) (decide_eq_decide.mpr (by omega))
      simp only [turnC, C.t_law_k27_1, C.e_law_k27_1]
      generalize decide (1 < c.length) = q at *
      generalize lti c = CD at *
      generalize llti (densI net) = DD at *
      generalize lti (sortL (allR (wiresI net) net.length)) = RD at *
      generalize lti (restsI net) = RE at *
      generalize li (allSg net) = SG at *
      generalize dNet net = N at *
      cases q <;> simp [l, gt, -d_lenL, -d_gt]
    have cB := comp_filter (tm := tmName 8) (t := C.t_law_k27_2) (e := C.e_law_k27_2) (vs := [8]) (ws := []) (ρ := [some (.arg ns), some (.int k), some (dNet net), some (lti (sortL (allR (wiresI net) net.length))), some (li (allSg net)), none, some (llti (densI net)), some (lti (restsI net)), none]) lti (fun c => decide (c.length = 1)) (fun c => ti (c.headD [])) (densI net) fun c hc => by
      have l : lenD [lti c] = .ok (.int c.length) := by rw [d_lenL, List.length_map]
      have eq : eqD (.int (c.length : Nat)) (.int 1) = .ok (.bl (decide (c.length = 1))) := by
        rw [eqD_int]
        exact congrArg (fun q => Y.R.ok (D.bl q)) (decide_eq_decide.mpr (by omega))
      have i0 : c.length = 1 → ixD (lti c) (.int 0) = .ok (ti (c.headD [])) := fun z => by
        match c, z with
        | [x], _ =>
          show (match atI ([x].map ti) 0 with | some d => Y.R.ok d | none => Y.R.stk) = _
          rw [show atI ([x].map ti) 0 = some (ti x) from atI_of (j := 0) rfl rfl]
          rfl
      simp only [turnC, C.t_law_k27_2, C.e_law_k27_2]
      by_cases q : c.length = 1
      · have i0 := i0 q
        rw [decide_eq_true q] at eq ⊢
        generalize ti (c.headD []) = HD at *
        generalize lti c = CD at *
        generalize llti (densI net) = DD at *
        generalize lti (sortL (allR (wiresI net) net.length)) = RD at *
        generalize lti (restsI net) = RE at *
        generalize li (allSg net) = SG at *
        generalize dNet net = N at *
        simp [l, eq, i0, -d_lenL, -eqD_int]
      · rw [decide_eq_false q] at eq ⊢
        generalize lti c = CD at *
        generalize llti (densI net) = DD at *
        generalize lti (sortL (allR (wiresI net) net.length)) = RD at *
        generalize lti (restsI net) = RE at *
        generalize li (allSg net) = SG at *
        generalize dNet net = N at *
        simp [l, eq, -d_lenL, -eqD_int]
    have nA : neD (.lst (((densI net).filter fun c => decide (1 < c.length)).map lti)) (.lst []) = .ok (.bl (!((densI net).filter fun c => decide (1 < c.length)).isEmpty)) := by
      have := neD_of (n := 3) (fit_llti (n := 0) (F := (densI net).filter fun c => decide (1 < c.length))) fit_nil
      rw [eqP_lst, eqPs_nil, List.isEmpty_map] at this
      exact this
    have i2 : (!((densI net).filter fun c => decide (1 < c.length)).isEmpty) = true → decide ((-1 : Int) ∈ allSg net) = true := fun z => by
      have : (densI net).filter (fun c => decide (1 < c.length)) ≠ [] := fun q => by rw [q] at z; simp at z
      obtain ⟨S, hS⟩ := List.exists_mem_of_ne_nil _ this
      obtain ⟨h1, h2⟩ := List.mem_filter.mp hS
      have h2 := of_decide_eq_true h2
      exact decide_eq_true (den_neg ok wk h1 (by omega))
    have sB : sortD [.lst (((densI net).filter fun c => decide (c.length = 1)).map fun c => ti (c.headD []))] = .ok (lti (restsI net)) := by
      have e : (((densI net).filter fun c => decide (c.length = 1)).map fun c => ti (c.headD [])) = (((densI net).filter fun c => decide (c.length = 1)).map fun c => c.headD []).map ti := by rw [List.map_map]; rfl
      rw [e, ← one_heads]
      refine sortD_lti fun x hx => ?_
      obtain ⟨c, hc, rfl⟩ := List.mem_map.mp hx
      obtain ⟨h1, h2⟩ := List.mem_filter.mp hc
      match c, h1, of_decide_eq_true h2 with
      | [x], h1, _ =>
        have xs := (mem_restsI.mp (den_rest h1)).1
        intro z
        have z : x = [] := z
        have := xs.len
        rw [z] at this
        simp at this
        omega
    have nB := ne_lti (a := restsI net) (b := restsI net)
    rw [decide_eq_true rfl] at nB
    have nB : neD (lti (restsI net)) (lti (restsI net)) = .ok (.bl false) := nB
    have zd : szOk ((densI net).map lti).length = true := szOk_of (by rw [List.length_map]; omega)
    have zA : szOk (((densI net).filter fun c => decide (1 < c.length)).map lti).length = true := szOk_of (by
      rw [List.length_map]
      have := List.length_filter_le (fun c : List (List Int) => decide (1 < c.length)) (densI net)
      omega)
    have zB : szOk (((densI net).filter fun c => decide (c.length = 1)).map fun c => ti (c.headD [])).length = true := szOk_of (by
      rw [List.length_map]
      have := List.length_filter_le (fun c : List (List Int) => decide (c.length = 1)) (densI net)
      omega)
    have w1 : ∃ q p : Bool, decide (1 < (densI net).length) = q ∧ decide ((1 : Int) ∈ allSg net) = p ∧ (q = false ∨ (q = true ∧ p = true)) := ⟨_, _, rfl, rfl, by
      by_cases c : 1 < (densI net).length
      · exact .inr ⟨decide_eq_true c, decide_eq_true (spos c)⟩
      · exact .inl (decide_eq_false c)⟩
    have w2 : ∃ q p : Bool, (!((densI net).filter fun c => decide (1 < c.length)).isEmpty) = q ∧ decide ((-1 : Int) ∈ allSg net) = p ∧ (q = false ∨ (q = true ∧ p = true)) := ⟨_, _, rfl, rfl, by
      cases c : (!((densI net).filter fun c => decide (1 < c.length)).isEmpty) with
      | false => exact .inl rfl
      | true => exact .inr ⟨rfl, i2 c⟩⟩
    obtain ⟨q1, p1, eq1, ep1, w1⟩ := w1
    obtain ⟨q2, p2', eq2, ep2, w2⟩ := w2
    rw [eq1] at g1
    rw [eq2] at nA
    rw [ep1] at n1'
    rw [ep2] at n2'
    have fin : (∃ row, C.g_order_paper [dNet net] = .ok (.fr (ordD row)) ∧ (sortL (allR (wiresI net) net.length)).isEmpty = true ∧ C.g__law_ringless [dNet net, llti (densI net), lti (restsI net)] = .ok (.fr (.bl true))) ∨ (∃ r, C.g_order_paper [dNet net] = .ok (.fr (rngD r)) ∧ (sortL (allR (wiresI net) net.length)).isEmpty = false) := by
      rcases order_paper_ok ok (by omega) (by omega) wk with ⟨row, t, hl, op⟩ | ⟨ne, r, op⟩
      · have no := topo_none t hl (by omega)
        obtain ⟨x, hx, hd⟩ := no_rings ok wk no
        exact .inl ⟨row, op, by rw [no]; rfl, ringless_ok ok (by omega) t hl op hx hd⟩
      · exact .inr ⟨r, op, List.isEmpty_eq_false_iff.mpr ne⟩
    have em : llti (densI net) = .lst ((densI net).map lti) := rfl
    have er2 : lti (sortL (allR (wiresI net) net.length)) = .lst ((sortL (allR (wiresI net) net.length)).map ti) := rfl
    refine ⟨_, ?_, rfl, by simp⟩
    clear spos i2 nd dpos dlen rsl eq1 eq2 ep1 ep2
    simp only [turnF, C.b_law_k27_2]
    rw [em] at dn l1 ed cA cB fin
    rw [er2] at ro slp er ner cA cB
    generalize (((densI net).filter fun c => decide (c.length = 1)).map fun c => ti (c.headD [])) = BL at *
    generalize (((densI net).filter fun c => decide (1 < c.length)).map lti) = AL at *
    generalize (densI net).map lti = DD at *
    generalize (sortL (allR (wiresI net) net.length)).map ti = RD at *
    generalize (sortL (allR (wiresI net) net.length)).isEmpty = q3 at *
    generalize lti (restsI net) = RE at *
    generalize li (allSg net) = SG at *
    generalize (((densI net).length : Nat) : Int) = dlI at *
    generalize C.b_law_k27_1 = B1 at *
    generalize C.t_law_k27_1 = T1 at *
    generalize C.e_law_k27_1 = E1 at *
    generalize C.t_law_k27_2 = T2 at *
    generalize C.e_law_k27_2 = E2 at *
    generalize dNet net = N at *
    have ero := e_ro
    have err := e_rrK
    rcases fin with ⟨row, op, rfl, rg⟩ | ⟨r, op, rfl⟩
    · have io := ix_ord (row := row)
      generalize ordD row = OD at *
      rcases w1 with rfl | ⟨rfl, rfl⟩ <;> rcases w2 with rfl | ⟨rfl, rfl⟩ <;> simp [hbox, hnet, ro, zrs, slp, dn, rr, l1, g1, n1', ed, zd, cA, zA, nA, n2', cB, zB, sB, nB, er, ner, rg, op, io, ero, shAt, knownB, noDit, szOk_of, -d_lenL, -d_gt]
    · have io := ix_rng (r := r)
      generalize rngD r = OD at *
      rcases w1 with rfl | ⟨rfl, rfl⟩ <;> rcases w2 with rfl | ⟨rfl, rfl⟩ <;> simp [hbox, hnet, ro, zrs, slp, dn, rr, l1, g1, n1', ed, zd, cA, zA, nA, n2', cB, zB, sB, nB, er, ner, op, io, err, shAt, knownB, noDit, szOk_of, -d_lenL, -d_gt]
  subst hρ
  have rM : rngOk M = true := rngOk_of (by omega) (by omega)
  have zM : szOk M = true := szOk_of (by omega)
  refine ⟨.fr (.bl true), ?_, .inl rfl⟩
  simp only [C.g_law_k27, C.m_law_k27]
  simp [e_fnP, hM, rM, zM, h]
end H

set_option Elab.async false
set_option linter.all false
set_option maxRecDepth 100000
namespace K27
open PySem PySem.Spec PyProof.Rows L2 Y
def top (i : Nat) : Stmt := PySem.Challenge.pw_switchnets_k27_whole_rings_and_dens.main.body.getD i (.Pass ⟨0, 0, 0, 0⟩)
abbrev s_is_whole : Stmt := top 6
theorem sc_is_whole : FnScope ["thing"] ["thing"] (defScope s_is_whole) := ⟨rfl, rfl, rfl, by decide +kernel, rfl, by decide +kernel, by decide +kernel⟩
abbrev s_is_upto : Stmt := top 7
theorem sc_is_upto : FnScope ["thing", "many"] ["thing", "many"] (defScope s_is_upto) := ⟨rfl, rfl, rfl, by decide +kernel, rfl, by decide +kernel, by decide +kernel⟩
abbrev s_are_bits : Stmt := top 8
theorem sc_are_bits : FnScope ["thing", "many", "one"] ["thing", "many"] (defScope s_are_bits) := ⟨rfl, rfl, rfl, by decide +kernel, rfl, by decide +kernel, by decide +kernel⟩
abbrev s_is_stand : Stmt := top 9
theorem sc_is_stand : FnScope ["net", "thing"] ["net", "thing"] (defScope s_is_stand) := ⟨rfl, rfl, rfl, by decide +kernel, rfl, by decide +kernel, by decide +kernel⟩
abbrev s_look_at_stand : Stmt := top 10
theorem sc_look_at_stand : FnScope ["net", "thing"] ["net", "thing"] (defScope s_look_at_stand) := ⟨rfl, rfl, rfl, by decide +kernel, rfl, by decide +kernel, by decide +kernel⟩
abbrev s_stands_of : Stmt := top 11
theorem sc_stands_of : FnScope ["many", "found", "k", "stand"] ["many"] (defScope s_stands_of) := ⟨rfl, rfl, rfl, by decide +kernel, rfl, by decide +kernel, by decide +kernel⟩
abbrev s_place_of : Stmt := top 12
theorem sc_place_of : FnScope ["bits", "place", "bit"] ["bits"] (defScope s_place_of) := ⟨rfl, rfl, rfl, by decide +kernel, rfl, by decide +kernel, by decide +kernel⟩
abbrev s_ought : Stmt := top 13
theorem sc_ought : FnScope ["net", "stand", "k", "ears", "table", "ear"] ["net", "stand", "k"] (defScope s_ought) := ⟨rfl, rfl, rfl, by decide +kernel, rfl, by decide +kernel, by decide +kernel⟩
abbrev s_with_bit : Stmt := top 14
theorem sc_with_bit : FnScope ["stand", "k", "bit"] ["stand", "k", "bit"] (defScope s_with_bit) := ⟨rfl, rfl, rfl, by decide +kernel, rfl, by decide +kernel, by decide +kernel⟩
abbrev s_wrong_ones : Stmt := top 15
theorem sc_wrong_ones : FnScope ["net", "stand", "k"] ["net", "stand"] (defScope s_wrong_ones) := ⟨rfl, rfl, rfl, by decide +kernel, rfl, by decide +kernel, by decide +kernel⟩
abbrev s_in_rows : Stmt := top 17
theorem sc_in_rows : FnScope ["things", "many", "found", "thing", "others", "other", "rest"] ["things", "many"] (defScope s_in_rows) := ⟨rfl, rfl, rfl, by decide +kernel, rfl, by decide +kernel, by decide +kernel⟩
abbrev s_told_at : Stmt := top 19
theorem sc_told_at : FnScope ["rule", "reading"] ["rule", "reading"] (defScope s_told_at) := ⟨rfl, rfl, rfl, by decide +kernel, rfl, by decide +kernel, by decide +kernel⟩
abbrev s_signs_at : Stmt := top 21
theorem sc_signs_at : FnScope ["rule", "at", "found", "reading", "low", "high"] ["rule", "at"] (defScope s_signs_at) := ⟨rfl, rfl, rfl, by decide +kernel, rfl, by decide +kernel, by decide +kernel⟩
abbrev s_wires_of : Stmt := top 22
theorem sc_wires_of : FnScope ["net", "found", "switch", "rule", "at", "ear", "sign"] ["net"] (defScope s_wires_of) := ⟨rfl, rfl, rfl, by decide +kernel, rfl, by decide +kernel, by decide +kernel⟩
abbrev s_signs_between : Stmt := top 23
theorem sc_signs_between : FnScope ["net", "found", "one", "other", "sign"] ["net"] (defScope s_signs_between) := ⟨rfl, rfl, rfl, by decide +kernel, rfl, by decide +kernel, by decide +kernel⟩
abbrev s_need_few : Stmt := top 26
theorem sc_need_few : FnScope ["net"] ["net"] (defScope s_need_few) := ⟨rfl, rfl, rfl, by decide +kernel, rfl, by decide +kernel, by decide +kernel⟩
abbrev s_steps_round : Stmt := top 27
theorem sc_steps_round : FnScope ["ring"] ["ring"] (defScope s_steps_round) := ⟨rfl, rfl, rfl, by decide +kernel, rfl, by decide +kernel, by decide +kernel⟩
abbrev s_is_round : Stmt := top 28
theorem sc_is_round : FnScope ["pairs", "ring", "step"] ["pairs", "ring"] (defScope s_is_round) := ⟨rfl, rfl, rfl, by decide +kernel, rfl, by decide +kernel, by decide +kernel⟩
abbrev s_rings_with : Stmt := top 29
theorem sc_rings_with : FnScope ["net", "many", "pairs", "ring"] ["net", "many"] (defScope s_rings_with) := ⟨rfl, rfl, rfl, by decide +kernel, rfl, by decide +kernel, by decide +kernel⟩
abbrev s_rings_of : Stmt := top 30
theorem sc_rings_of : FnScope ["net", "found", "many"] ["net"] (defScope s_rings_of) := ⟨rfl, rfl, rfl, by decide +kernel, rfl, by decide +kernel, by decide +kernel⟩
abbrev s_are_switches : Stmt := top 31
theorem sc_are_switches : FnScope ["net", "thing", "one"] ["net", "thing"] (defScope s_are_switches) := ⟨rfl, rfl, rfl, by decide +kernel, rfl, by decide +kernel, by decide +kernel⟩
abbrev s_is_ring : Stmt := top 32
theorem sc_is_ring : FnScope ["net", "thing"] ["net", "thing"] (defScope s_is_ring) := ⟨rfl, rfl, rfl, by decide +kernel, rfl, by decide +kernel, by decide +kernel⟩
abbrev s_signs_on : Stmt := top 33
theorem sc_signs_on : FnScope ["pairs", "ring", "found", "step", "sign"] ["pairs", "ring"] (defScope s_signs_on) := ⟨rfl, rfl, rfl, by decide +kernel, rfl, by decide +kernel, by decide +kernel⟩
abbrev s_signs_of : Stmt := top 34
theorem sc_signs_of : FnScope ["net", "ring"] ["net", "ring"] (defScope s_signs_of) := ⟨rfl, rfl, rfl, by decide +kernel, rfl, by decide +kernel, by decide +kernel⟩
abbrev s_next_free : Stmt := top 35
theorem sc_next_free : FnScope ["net", "row", "pairs", "left", "switch", "other"] ["net", "row"] (defScope s_next_free) := ⟨rfl, rfl, rfl, by decide +kernel, rfl, by decide +kernel, by decide +kernel⟩
abbrev s_order_paper : Stmt := top 36
theorem sc_order_paper : FnScope ["net", "row", "switch", "many"] ["net"] (defScope s_order_paper) := ⟨rfl, rfl, rfl, by decide +kernel, rfl, by decide +kernel, by decide +kernel⟩
abbrev s_changed : Stmt := top 38
theorem sc_changed : FnScope ["stand", "k"] ["stand", "k"] (defScope s_changed) := ⟨rfl, rfl, rfl, by decide +kernel, rfl, by decide +kernel, by decide +kernel⟩
abbrev s_steps_from : Stmt := top 39
theorem sc_steps_from : FnScope ["net", "stand", "k"] ["net", "stand"] (defScope s_steps_from) := ⟨rfl, rfl, rfl, by decide +kernel, rfl, by decide +kernel, by decide +kernel⟩
abbrev s_search_from : Stmt := top 40
theorem sc_search_from : FnScope ["net", "stand", "came", "line", "at", "k", "there"] ["net", "stand"] (defScope s_search_from) := ⟨rfl, rfl, rfl, by decide +kernel, rfl, by decide +kernel, by decide +kernel⟩
abbrev s_comes_to : Stmt := top 41
theorem sc_comes_to : FnScope ["net", "stand"] ["net", "stand"] (defScope s_comes_to) := ⟨rfl, rfl, rfl, by decide +kernel, rfl, by decide +kernel, by decide +kernel⟩
abbrev s_way_of : Stmt := top 42
theorem sc_way_of : FnScope ["net", "one", "other", "came", "found", "k"] ["net", "one", "other"] (defScope s_way_of) := ⟨rfl, rfl, rfl, by decide +kernel, rfl, by decide +kernel, by decide +kernel⟩
abbrev s_reached : Stmt := top 44
theorem sc_reached : FnScope ["net", "found", "stand"] ["net"] (defScope s_reached) := ⟨rfl, rfl, rfl, by decide +kernel, rfl, by decide +kernel, by decide +kernel⟩
abbrev s_dens_among : Stmt := top 45
theorem sc_dens_among : FnScope ["reach", "found", "stand", "some", "there"] ["reach"] (defScope s_dens_among) := ⟨rfl, rfl, rfl, by decide +kernel, rfl, by decide +kernel, by decide +kernel⟩
abbrev s_dens_of : Stmt := top 46
theorem sc_dens_of : FnScope ["net"] ["net"] (defScope s_dens_of) := ⟨rfl, rfl, rfl, by decide +kernel, rfl, by decide +kernel, by decide +kernel⟩
abbrev s_rests_of : Stmt := top 48
theorem sc_rests_of : FnScope ["net", "stand"] ["net"] (defScope s_rests_of) := ⟨rfl, rfl, rfl, by decide +kernel, rfl, by decide +kernel, by decide +kernel⟩
abbrev s__law_cell : Stmt := top 50
theorem sc__law_cell : FnScope ["script", "k"] ["script", "k"] (defScope s__law_cell) := ⟨rfl, rfl, rfl, by decide +kernel, rfl, by decide +kernel, by decide +kernel⟩
abbrev s__law_box : Stmt := top 51
theorem sc__law_box : FnScope ["script", "k", "cell", "number", "mixed", "j"] ["script", "k"] (defScope s__law_box) := ⟨rfl, rfl, rfl, by decide +kernel, rfl, by decide +kernel, by decide +kernel⟩
abbrev s__law_take : Stmt := top 52
theorem sc__law_take : FnScope ["box", "many", "digit"] ["box", "many"] (defScope s__law_take) := ⟨rfl, rfl, rfl, by decide +kernel, rfl, by decide +kernel, by decide +kernel⟩
abbrev s__law_readings : Stmt := top 53
theorem sc__law_readings : FnScope ["many", "found", "k", "row"] ["many"] (defScope s__law_readings) := ⟨rfl, rfl, rfl, by decide +kernel, rfl, by decide +kernel, by decide +kernel⟩
abbrev s__law_rule : Stmt := top 54
theorem sc__law_rule : FnScope ["box", "many", "left", "ears", "k", "rows", "way", "signs", "least", "table", "ear", "row"] ["box", "many"] (defScope s__law_rule) := ⟨rfl, rfl, rfl, by decide +kernel, rfl, by decide +kernel, by decide +kernel⟩
abbrev s__law_drawn : Stmt := top 55
theorem sc__law_drawn : FnScope ["box", "most", "many", "way", "rules", "k", "ears", "table", "ear"] ["box", "most"] (defScope s__law_drawn) := ⟨rfl, rfl, rfl, by decide +kernel, rfl, by decide +kernel, by decide +kernel⟩
abbrev s__law_ringless : Stmt := top 56
theorem sc__law_ringless : FnScope ["net", "dens", "rests", "stand", "way"] ["net", "dens", "rests"] (defScope s__law_ringless) := ⟨rfl, rfl, rfl, by decide +kernel, rfl, by decide +kernel, by decide +kernel⟩
abbrev s_law : Stmt := top 57
theorem sc_law : FnScope ["script", "k", "net", "rings", "signs", "ring", "dens", "rests", "den"] ["script"] (defScope s_law) := ⟨rfl, rfl, rfl, by decide +kernel, rfl, by decide +kernel, by decide +kernel⟩
structure Txt (K : PySem.W.Frag) (mg : Str → Option Value) : Prop where
  d_is_whole : Def K mg "is_whole" s_is_whole
  d_is_upto : Def K mg "is_upto" s_is_upto
  d_are_bits : Def K mg "are_bits" s_are_bits
  d_is_stand : Def K mg "is_stand" s_is_stand
  d_look_at_stand : Def K mg "look_at_stand" s_look_at_stand
  d_stands_of : Def K mg "stands_of" s_stands_of
  d_place_of : Def K mg "place_of" s_place_of
  d_ought : Def K mg "ought" s_ought
  d_with_bit : Def K mg "with_bit" s_with_bit
  d_wrong_ones : Def K mg "wrong_ones" s_wrong_ones
  d_in_rows : Def K mg "in_rows" s_in_rows
  d_told_at : Def K mg "told_at" s_told_at
  d_signs_at : Def K mg "signs_at" s_signs_at
  d_wires_of : Def K mg "wires_of" s_wires_of
  d_signs_between : Def K mg "signs_between" s_signs_between
  d_need_few : Def K mg "need_few" s_need_few
  d_steps_round : Def K mg "steps_round" s_steps_round
  d_is_round : Def K mg "is_round" s_is_round
  d_rings_with : Def K mg "rings_with" s_rings_with
  d_rings_of : Def K mg "rings_of" s_rings_of
  d_are_switches : Def K mg "are_switches" s_are_switches
  d_is_ring : Def K mg "is_ring" s_is_ring
  d_signs_on : Def K mg "signs_on" s_signs_on
  d_signs_of : Def K mg "signs_of" s_signs_of
  d_next_free : Def K mg "next_free" s_next_free
  d_order_paper : Def K mg "order_paper" s_order_paper
  d_changed : Def K mg "changed" s_changed
  d_steps_from : Def K mg "steps_from" s_steps_from
  d_search_from : Def K mg "search_from" s_search_from
  d_comes_to : Def K mg "comes_to" s_comes_to
  d_way_of : Def K mg "way_of" s_way_of
  d_reached : Def K mg "reached" s_reached
  d_dens_among : Def K mg "dens_among" s_dens_among
  d_dens_of : Def K mg "dens_of" s_dens_of
  d_rests_of : Def K mg "rests_of" s_rests_of
  d__law_cell : Def K mg "_law_cell" s__law_cell
  d__law_box : Def K mg "_law_box" s__law_box
  d__law_take : Def K mg "_law_take" s__law_take
  d__law_readings : Def K mg "_law_readings" s__law_readings
  d__law_rule : Def K mg "_law_rule" s__law_rule
  d__law_drawn : Def K mg "_law_drawn" s__law_drawn
  d__law_ringless : Def K mg "_law_ringless" s__law_ringless
  k_MOST_LOOKED : ∃ t, mg "MOST_LOOKED" = some (.int 6 t)
  e_NoOrder : ErrT K mg "NoOrder"
  e_NoStand : ErrT K mg "NoStand"
  e_TooMany : ErrT K mg "TooMany"
  z_all : mg "all" = none
  z_any : mg "any" = none
  z_bool : mg "bool" = none
  z_enumerate : mg "enumerate" = none
  z_int : mg "int" = none
  z_isinstance : mg "isinstance" = none
  z_len : mg "len" = none
  z_list : mg "list" = none
  z_max : mg "max" = none
  z_min : mg "min" = none
  z_range : mg "range" = none
  z_reversed : mg "reversed" = none
  z_set : mg "set" = none
  z_sorted : mg "sorted" = none
  z_tuple : mg "tuple" = none
  z_zip : mg "zip" = none
section
variable {P : Program} {w : World} {K : PySem.W.Frag} {mg : Str → Option Value} {base : Heap}
theorem ok_is_whole (T : Txt K mg) : Glo P w K mg base "is_whole" 1 1 [] (pureF C.g_is_whole) :=
  (glo_mk (O := []) (Oc := []) (W := []) (U := []) T.d_is_whole sc_is_whole (fun f cdv A outer s H E P0 hr => (cs_one (cs_ret (ce_and (ce_isi isk_int T.z_isinstance T.z_int (ce_var 0) bo_isinstance bo_int) (ce_one (ce_not (ce_isi isk_bool T.z_isinstance T.z_bool (ce_var 0) bo_isinstance bo_bool))))))) (fun _ _ _ _ _ _ us hl => match us, hl with | [_], _ => rfl)).pure
theorem ok_is_upto (T : Txt K mg) : Glo P w K mg base "is_upto" 2 2 [] (pureF C.g_is_upto) :=
  (glo_mk (O := []) (Oc := []) (W := []) (U := []) T.d_is_upto sc_is_upto (fun f cdv A outer s H E P0 hr => (cs_one (cs_ret (ce_and (ce_call (ok_is_whole T) out2_body (hr.mono (by decide)) (ca_cons (ce_var 0) ca_nil) (alen_cons alen_nil)) (ce_one (ce_chain od_le od_lt ce_int (ce_var 0) (ce_var 1))))))) (fun _ _ _ _ _ _ us hl => match us, hl with | [_, _], _ => rfl)).pure
theorem ok_are_bits (T : Txt K mg) : Glo P w K mg base "are_bits" 3 2 [] (pureF C.g_are_bits) :=
  (glo_mk (O := []) (Oc := []) (W := []) (U := []) T.d_are_bits sc_are_bits (fun f cdv A outer s H E P0 hr => (cs_one (cs_ret (ce_and (ce_isi isk_tuple T.z_isinstance T.z_tuple (ce_var 0) bo_isinstance bo_tuple) (ce_and (ce_cmp (od_eq hr.units) (ce_callB cd_len T.z_len bo_len (ca_cons (ce_var 0) ca_nil)) (ce_var 1)) (ce_one (ce_callB (cd_all rfl) T.z_all bo_all (ca_cons (ce_comp rfl sc_are_bits.nd (ci_any (ce_var 0)) (blkOk_by (own := [("one", 2)]) (by kernel_rfl)) (fun P0 s H C cl fp => (cg_name 2 sc_are_bits.nd)) (fun s H C cl fp => cts_nil) (fun P0 s H C cl fp => (ce_call (ok_is_upto T) Out2.blk (hr.mono (by decide)) (ca_cons (ce_var 2) (ca_cons ce_int ca_nil)) (alen_cons (alen_cons alen_nil))))) ca_nil)))))))) (fun _ _ _ _ _ _ us hl => match us, hl with | [_, _], _ => rfl)).pure
theorem ok_is_stand (T : Txt K mg) : Glo P w K mg base "is_stand" 4 2 [] (pureF C.g_is_stand) :=
  (glo_mk (O := []) (Oc := []) (W := []) (U := []) T.d_is_stand sc_is_stand (fun f cdv A outer s H E P0 hr => (cs_one (cs_ret (ce_call (ok_are_bits T) out2_body (hr.mono (by decide)) (ca_cons (ce_var 1) (ca_cons (ce_callB cd_len T.z_len bo_len (ca_cons (ce_var 0) ca_nil)) ca_nil)) (alen_cons (alen_cons alen_nil)))))) (fun _ _ _ _ _ _ us hl => match us, hl with | [_, _], _ => rfl)).pure
theorem ok_look_at_stand (T : Txt K mg) : Glo P w K mg base "look_at_stand" 5 2 [] (pureF C.g_look_at_stand) :=
  (glo_mk (O := []) (Oc := []) (W := []) (U := []) T.d_look_at_stand sc_look_at_stand (fun f cdv A outer s H E P0 hr => (cs_one (cs_if (ct_not (ct_val (ce_call (ok_is_stand T) out2_body (hr.mono (by decide)) (ca_cons (ce_var 0) (ca_cons (ce_var 1) ca_nil)) (alen_cons (alen_cons alen_nil))))) (cs_one (cs_raise T.e_NoStand rfl (L2N.takes_of rfl rfl rfl rfl))) cs_nil))) (fun _ _ _ _ _ _ us hl => match us, hl with | [_, _], _ => rfl)).pure
theorem ok_stands_of (T : Txt K mg) : Glo P w K mg base "stands_of" 1 1 [] (pureF C.g_stands_of) :=
  (glo_mk (O := []) (Oc := []) (W := []) (U := []) T.d_stands_of sc_stands_of (fun f cdv A outer s H E P0 hr => (cs_cons (cs_asg (ce_lst (ca_cons (ce_tup ca_nil) ca_nil)) (cg_name 1 sc_stands_of.nd))
    (cs_cons (cs_for (U' := []) (vs := [2]) (passes_of rfl) rfl (ci_range1 T.z_range (ca_cons (ce_var 0) ca_nil)) (cg_name 2 sc_stands_of.nd) (cs_one (cs_asg (ce_bin od_add (ce_comp rfl sc_stands_of.nd (ci_any (ce_var 1)) (blkOk_by (own := [("stand", 3)]) (by kernel_rfl)) (fun P0 s H C cl fp => (cg_name 3 sc_stands_of.nd)) (fun s H C cl fp => cts_nil) (fun P0 s H C cl fp => (ce_bin od_add (ce_tup (ca_cons ce_int ca_nil)) (ce_var 3)))) (ce_comp rfl sc_stands_of.nd (ci_any (ce_var 1)) (blkOk_by (own := [("stand", 3)]) (by kernel_rfl)) (fun P0 s H C cl fp => (cg_name 3 sc_stands_of.nd)) (fun s H C cl fp => cts_nil) (fun P0 s H C cl fp => (ce_bin od_add (ce_tup (ca_cons ce_int ca_nil)) (ce_var 3))))) (cg_name 1 sc_stands_of.nd))))
    (cs_one (cs_ret (ce_var 1)))))) (fun _ _ _ _ _ _ us hl => match us, hl with | [_], _ => rfl)).pure
theorem ok_place_of (T : Txt K mg) : Glo P w K mg base "place_of" 1 1 [] (pureF C.g_place_of) :=
  (glo_mk (O := []) (Oc := []) (W := []) (U := []) T.d_place_of sc_place_of (fun f cdv A outer s H E P0 hr => (cs_cons (cs_asg ce_int (cg_name 1 sc_place_of.nd))
    (cs_cons (cs_for (U' := []) (vs := [2]) (passes_of rfl) rfl (ci_any (ce_var 0)) (cg_name 2 sc_place_of.nd) (cs_one (cs_asg (ce_bin od_add (ce_bin od_mul ce_int (ce_var 1)) (ce_var 2)) (cg_name 1 sc_place_of.nd))))
    (cs_one (cs_ret (ce_var 1)))))) (fun _ _ _ _ _ _ us hl => match us, hl with | [_], _ => rfl)).pure
theorem ok_ought (T : Txt K mg) : Glo P w K mg base "ought" 2 3 [] (pureF C.g_ought) :=
  (glo_mk (O := []) (Oc := []) (W := []) (U := []) T.d_ought sc_ought (fun f cdv A outer s H E P0 hr => (cs_cons (cs_asg (ce_ix (ce_var 0) (ce_var 2)) (cg_tup [3, 4] rfl (cgs_cons 3 sc_ought.nd (cgs_cons 4 sc_ought.nd cgs_nil))))
    (cs_one (cs_ret (ce_ix (ce_var 4) (ce_call (ok_place_of T) out2_body (hr.mono (by decide)) (ca_cons (ce_comp rfl sc_ought.nd (ci_any (ce_var 3)) (blkOk_by (own := [("ear", 5)]) (by kernel_rfl)) (fun P0 s H C cl fp => (cg_name 5 sc_ought.nd)) (fun s H C cl fp => cts_nil) (fun P0 s H C cl fp => (ce_ix (ce_var 1) (ce_var 5)))) ca_nil) (alen_cons alen_nil))))))) (fun _ _ _ _ _ _ us hl => match us, hl with | [_, _, _], _ => rfl)).pure
theorem ok_with_bit (T : Txt K mg) : Glo P w K mg base "with_bit" 1 3 [] (pureF C.g_with_bit) :=
  (glo_mk (O := []) (Oc := []) (W := []) (U := []) T.d_with_bit sc_with_bit (fun f cdv A outer s H E P0 hr => (cs_one (cs_ret (ce_bin od_add (ce_bin od_add (ce_slice (ce_var 0) co_none (co_some (ce_var 1))) (ce_tup (ca_cons (ce_var 2) ca_nil))) (ce_slice (ce_var 0) (co_some (ce_bin od_add (ce_var 1) ce_int)) co_none))))) (fun _ _ _ _ _ _ us hl => match us, hl with | [_, _, _], _ => rfl)).pure
theorem ok_wrong_ones (T : Txt K mg) : Glo P w K mg base "wrong_ones" 6 2 [] (pureF C.g_wrong_ones) :=
  (glo_mk (O := []) (Oc := []) (W := []) (U := []) T.d_wrong_ones sc_wrong_ones (fun f cdv A outer s H E P0 hr => (cs_cons (cs_expr (ce_call (ok_look_at_stand T) out2_body (hr.mono (by decide)) (ca_cons (ce_var 0) (ca_cons (ce_var 1) ca_nil)) (alen_cons (alen_cons alen_nil))))
    (cs_one (cs_ret (ce_comp rfl sc_wrong_ones.nd (ci_range1 T.z_range (ca_cons (ce_callB cd_len T.z_len bo_len (ca_cons (ce_var 0) ca_nil)) ca_nil)) (blkOk_by (own := [("k", 2)]) (by kernel_rfl)) (fun P0 s H C cl fp => (cg_name 2 sc_wrong_ones.nd)) (fun s H C cl fp => (cts_one fun P0 => (ct_cmp (od_ne hr.units) (ce_call (ok_ought T) Out2.blk (hr.mono (by decide)) (ca_cons (ce_var 0) (ca_cons (ce_var 1) (ca_cons (ce_var 2) ca_nil))) (alen_cons (alen_cons (alen_cons alen_nil)))) (ce_ix (ce_var 1) (ce_var 2))))) (fun P0 s H C cl fp => (ce_var 2))))))) (fun _ _ _ _ _ _ us hl => match us, hl with | [_, _], _ => rfl)).pure
theorem okr_in_rows (T : Txt K mg) : ∀ n : Nat, Glo P w K mg base "in_rows" (1 + n) 2 [] ((pureF (C.r_in_rows n)))
  | 0 => (glo_mk (k := 0) (O := []) (Oc := [2]) (W := []) (U := []) T.d_in_rows sc_in_rows (fun f cdv A outer s H E P0 hr => cs_stk) (fun _ _ _ _ _ _ us hl => match us, hl with | [_, _], _ => rfl)).pure
  | n + 1 => have IH := okr_in_rows T n; (glo_mk (k := 1 + n) (O := []) (Oc := [2]) (W := []) (U := []) T.d_in_rows sc_in_rows (fun f cdv A outer s H E P0 hr => (cs_cons (cs_if (ct_cmp (od_eq hr.units) (ce_var 1) ce_int) (cs_one (cs_ret (ce_lst (ca_cons (ce_tup ca_nil) ca_nil)))) cs_nil)
    (cs_cons (cs_own (i := 2) sc_in_rows.nd (ce_lst ca_nil))
    (cs_cons (cs_for (U' := []) (vs := [3, 4]) (passes_of rfl) rfl (ci_any (ce_var 0)) (cg_name 3 sc_in_rows.nd) (cs_cons (cs_asgLc (i := 4) rfl sc_in_rows.nd rfl rfl (sw_true rfl rfl rfl (by decide +kernel)) (ci_any (ce_var 0)) (blkOk_by (own := [("other", 5)]) (by kernel_rfl)) (fun P0 s H C cl fp => (cg_name 5 sc_in_rows.nd)) (fun s H C cl fp => (cts_one fun P0 => (ct_cmp (od_ne hr.units) (ce_var 5) (ce_var 3)))) (fun P0 s H C cl fp => (ce_var 5)))
    (cs_one (cs_ext (i := 2) (ce_comp rfl sc_in_rows.nd (ci_any (ce_call IH out2_body hr (ca_cons (ce_var 4) (ca_cons (ce_bin od_sub (ce_var 1) ce_int) ca_nil)) (alen_cons (alen_cons alen_nil)))) (blkOk_by (own := [("rest", 6)]) (by kernel_rfl)) (fun P0 s H C cl fp => (cg_name 6 sc_in_rows.nd)) (fun s H C cl fp => cts_nil) (fun P0 s H C cl fp => (ce_bin od_add (ce_tup (ca_cons (ce_var 3) ca_nil)) (ce_var 6))))))))
    (cs_one (cs_ret (ce_own 2))))))) (fun _ _ _ _ _ _ us hl => match us, hl with | [_, _], _ => rfl)).pure
theorem ok_in_rows (T : Txt K mg) : Glo P w K mg base "in_rows" (41) 2 [] ((pureF C.g_in_rows)) := okr_in_rows T 40
theorem ok_told_at (T : Txt K mg) : Glo P w K mg base "told_at" 2 2 [] (pureF C.g_told_at) :=
  (glo_mk (O := []) (Oc := []) (W := []) (U := []) T.d_told_at sc_told_at (fun f cdv A outer s H E P0 hr => (cs_one (cs_ret (ce_ix (ce_ix (ce_var 0) ce_int) (ce_call (ok_place_of T) out2_body (hr.mono (by decide)) (ca_cons (ce_var 1) ca_nil) (alen_cons alen_nil)))))) (fun _ _ _ _ _ _ us hl => match us, hl with | [_, _], _ => rfl)).pure
theorem ok_signs_at (T : Txt K mg) : Glo P w K mg base "signs_at" 3 2 [] (pureF C.g_signs_at) :=
  (glo_mk (O := []) (Oc := [2]) (W := []) (U := []) T.d_signs_at sc_signs_at (fun f cdv A outer s H E P0 hr => (cs_cons (cs_own (i := 2) sc_signs_at.nd (ce_lst ca_nil))
    (cs_cons (cs_for (U' := []) (vs := [3, 4, 5]) (passes_of rfl) rfl (ci_any (ce_call (ok_stands_of T) out2_body (hr.mono (by decide)) (ca_cons (ce_callB cd_len T.z_len bo_len (ca_cons (ce_ix (ce_var 0) ce_int) ca_nil)) ca_nil) (alen_cons alen_nil))) (cg_name 3 sc_signs_at.nd) (cs_cons (cs_asg (ce_call (ok_told_at T) out2_body (hr.mono (by decide)) (ca_cons (ce_var 0) (ca_cons (ce_call (ok_with_bit T) out2_body (hr.mono (by decide)) (ca_cons (ce_var 3) (ca_cons (ce_var 1) (ca_cons ce_int ca_nil))) (alen_cons (alen_cons (alen_cons alen_nil)))) ca_nil)) (alen_cons (alen_cons alen_nil))) (cg_name 4 sc_signs_at.nd))
    (cs_cons (cs_asg (ce_call (ok_told_at T) out2_body (hr.mono (by decide)) (ca_cons (ce_var 0) (ca_cons (ce_call (ok_with_bit T) out2_body (hr.mono (by decide)) (ca_cons (ce_var 3) (ca_cons (ce_var 1) (ca_cons ce_int ca_nil))) (alen_cons (alen_cons (alen_cons alen_nil)))) ca_nil)) (alen_cons (alen_cons alen_nil))) (cg_name 5 sc_signs_at.nd))
    (cs_one (cs_if (ct_w (cw_and (ct_cmp (od_ne hr.units) (ce_var 4) (ce_var 5)) (cw_and1 (ct_cmp (od_nin hr.units65) (ce_bin od_sub (ce_var 5) (ce_var 4)) (ce_own 2))))) (cs_one (cs_append (i := 2) (ce_bin od_sub (ce_var 5) (ce_var 4)))) cs_nil)))))
    (cs_one (cs_ret (ce_own 2)))))) (fun _ _ _ _ _ _ us hl => match us, hl with | [_, _], _ => rfl)).pure
theorem ok_wires_of (T : Txt K mg) : Glo P w K mg base "wires_of" 4 1 [] (pureF C.g_wires_of) :=
  (glo_mk (O := []) (Oc := [1]) (W := []) (U := []) T.d_wires_of sc_wires_of (fun f cdv A outer s H E P0 hr => (cs_cons (cs_own (i := 1) sc_wires_of.nd (ce_lst ca_nil))
    (cs_cons (cs_for (U' := []) (vs := [2, 3, 4, 5]) (passes_of rfl) rfl (ci_enumG T.z_enumerate (ca_cons (ce_var 0) ca_nil)) (cg_tup [2, 3] rfl (cgs_cons 2 sc_wires_of.nd (cgs_cons 3 sc_wires_of.nd cgs_nil))) (cs_one (cs_for (U' := []) (vs := [4, 5]) (passes_of rfl) rfl (ci_enumG T.z_enumerate (ca_cons (ce_ix (ce_var 3) ce_int) ca_nil)) (cg_tup [4, 5] rfl (cgs_cons 4 sc_wires_of.nd (cgs_cons 5 sc_wires_of.nd cgs_nil))) (cs_one (cs_ext (i := 1) (ce_comp rfl sc_wires_of.nd (ci_any (ce_call (ok_signs_at T) out2_body (hr.mono (by decide)) (ca_cons (ce_var 3) (ca_cons (ce_var 4) ca_nil)) (alen_cons (alen_cons alen_nil)))) (blkOk_by (own := [("sign", 6)]) (by kernel_rfl)) (fun P0 s H C cl fp => (cg_name 6 sc_wires_of.nd)) (fun s H C cl fp => cts_nil) (fun P0 s H C cl fp => (ce_tup (ca_cons (ce_var 5) (ca_cons (ce_var 2) (ca_cons (ce_var 6) ca_nil)))))))))))
    (cs_one (cs_ret (ce_callB cd_sort T.z_sorted bo_sorted (ca_cons (ce_own 1) ca_nil))))))) (fun _ _ _ _ _ _ us hl => match us, hl with | [_], _ => rfl)).pure
theorem ok_signs_between (T : Txt K mg) : Glo P w K mg base "signs_between" 5 1 [] (pureF C.g_signs_between) :=
  (glo_mk (O := []) (Oc := [1]) (W := []) (U := []) T.d_signs_between sc_signs_between (fun f cdv A outer s H E P0 hr => (cs_cons (cs_dicnew (i := 1) sc_signs_between.nd)
    (cs_cons (cs_group (i := 1) (a := 2) (b := 3) (s := 4) (Nat.lt_of_le_of_lt (Nat.add_le_add_left (by decide) _) hr.units65) (passes_of rfl) rfl (ci_any (ce_call (ok_wires_of T) out2_body (hr.mono (by decide)) (ca_cons (ce_var 0) ca_nil) (alen_cons alen_nil))) (cg_tup [2, 3, 4] rfl (cgs_cons 2 sc_signs_between.nd (cgs_cons 3 sc_signs_between.nd (cgs_cons 4 sc_signs_between.nd cgs_nil)))) rfl (by first | exact Or.inl rfl | exact Or.inr (Or.inl rfl) | exact Or.inr (Or.inr rfl)) rfl (by first | exact Or.inl rfl | exact Or.inr (Or.inl rfl) | exact Or.inr (Or.inr rfl)) rfl (by first | exact Or.inl rfl | exact Or.inr (Or.inl rfl) | exact Or.inr (Or.inr rfl)) rfl (by first | exact Or.inl rfl | exact Or.inr (Or.inl rfl) | exact Or.inr (Or.inr rfl)) (by decide) (by decide) (by decide) (by decide) (by decide) (by decide) (by decide) (by decide))
    (cs_one (cs_ret (ce_own 1)))))) (fun _ _ _ _ _ _ us hl => match us, hl with | [_], _ => rfl)).pure
theorem ok_need_few (T : Txt K mg) : Glo P w K mg base "need_few" 1 1 [] (pureF C.g_need_few) :=
  (glo_mk (O := []) (Oc := []) (W := []) (U := []) T.d_need_few sc_need_few (fun f cdv A outer s H E P0 hr => (cs_one (cs_if (ct_cmp od_gt (ce_callB cd_len T.z_len bo_len (ca_cons (ce_var 0) ca_nil)) (ce_globI T.k_MOST_LOOKED)) (cs_one (cs_raise T.e_TooMany rfl (L2N.takes_of rfl rfl rfl rfl))) cs_nil))) (fun _ _ _ _ _ _ us hl => match us, hl with | [_], _ => rfl)).pure
theorem ok_steps_round (T : Txt K mg) : Glo P w K mg base "steps_round" 1 1 [] (pureF C.g_steps_round) :=
  (glo_mk (O := []) (Oc := []) (W := []) (U := []) T.d_steps_round sc_steps_round (fun f cdv A outer s H E P0 hr => (cs_one (cs_ret (ce_listZip rfl T.z_list T.z_zip (ca_cons (ce_var 0) (ca_cons (ce_bin od_add (ce_slice (ce_var 0) (co_some ce_int) co_none) (ce_slice (ce_var 0) co_none (co_some ce_int))) ca_nil)))))) (fun _ _ _ _ _ _ us hl => match us, hl with | [_], _ => rfl)).pure
theorem ok_is_round (T : Txt K mg) : Glo P w K mg base "is_round" 2 2 [] (pureF C.g_is_round) :=
  (glo_mk (O := []) (Oc := []) (W := []) (U := []) T.d_is_round sc_is_round (fun f cdv A outer s H E P0 hr => (cs_one (cs_ret (ce_and (ce_cmp (od_eq hr.units) (ce_ix (ce_var 1) ce_int) (ce_callB (cd_minS rfl hr.units) T.z_min bo_min (ca_cons (ce_var 1) ca_nil))) (ce_one (ce_callB (cd_all rfl) T.z_all bo_all (ca_cons (ce_comp rfl sc_is_round.nd (ci_any (ce_call (ok_steps_round T) out2_body (hr.mono (by decide)) (ca_cons (ce_var 1) ca_nil) (alen_cons alen_nil))) (blkOk_by (own := [("step", 2)]) (by kernel_rfl)) (fun P0 s H C cl fp => (cg_name 2 sc_is_round.nd)) (fun s H C cl fp => cts_nil) (fun P0 s H C cl fp => (ce_din (Nat.lt_of_le_of_lt (Nat.add_le_add_left (by decide) _) hr.units65) (ce_var 2) (ce_var 0)))) ca_nil))))))) (fun _ _ _ _ _ _ us hl => match us, hl with | [_, _], _ => rfl)).pure
theorem ok_rings_with (T : Txt K mg) : Glo P w K mg base "rings_with" 42 2 [] (pureF C.g_rings_with) :=
  (glo_mk (O := []) (Oc := []) (W := []) (U := []) T.d_rings_with sc_rings_with (fun f cdv A outer s H E P0 hr => (cs_cons (cs_asg (ce_call (ok_signs_between T) out2_body (hr.mono (by decide)) (ca_cons (ce_var 0) ca_nil) (alen_cons alen_nil)) (cg_name 2 sc_rings_with.nd))
    (cs_one (cs_ret (ce_comp rfl sc_rings_with.nd (ci_any (ce_call (ok_in_rows T) out2_body (hr.mono (by decide)) (ca_cons (ce_lrg1 rfl T.z_list T.z_range (ce_callB cd_len T.z_len bo_len (ca_cons (ce_var 0) ca_nil))) (ca_cons (ce_var 1) ca_nil)) (alen_cons (alen_cons alen_nil)))) (blkOk_by (own := [("ring", 3)]) (by kernel_rfl)) (fun P0 s H C cl fp => (cg_name 3 sc_rings_with.nd)) (fun s H C cl fp => (cts_one fun P0 => (ct_val (ce_call (ok_is_round T) Out2.blk (hr.mono (by decide)) (ca_cons (ce_var 2) (ca_cons (ce_var 3) ca_nil)) (alen_cons (alen_cons alen_nil)))))) (fun P0 s H C cl fp => (ce_var 3))))))) (fun _ _ _ _ _ _ us hl => match us, hl with | [_, _], _ => rfl)).pure
theorem ok_rings_of (T : Txt K mg) : Glo P w K mg base "rings_of" 43 1 [] (pureF C.g_rings_of) :=
  (glo_mk (O := []) (Oc := [1]) (W := []) (U := []) T.d_rings_of sc_rings_of (fun f cdv A outer s H E P0 hr => (cs_cons (cs_expr (ce_call (ok_need_few T) out2_body (hr.mono (by decide)) (ca_cons (ce_var 0) ca_nil) (alen_cons alen_nil)))
    (cs_cons (cs_own (i := 1) sc_rings_of.nd (ce_lst ca_nil))
    (cs_cons (cs_for (U' := []) (vs := [2]) (passes_of rfl) rfl (ci_range2 T.z_range (ca_cons ce_int (ca_cons (ce_bin od_add (ce_callB cd_len T.z_len bo_len (ca_cons (ce_var 0) ca_nil)) ce_int) ca_nil))) (cg_name 2 sc_rings_of.nd) (cs_one (cs_ext (i := 1) (ce_call (ok_rings_with T) out2_body (hr.mono (by decide)) (ca_cons (ce_var 0) (ca_cons (ce_var 2) ca_nil)) (alen_cons (alen_cons alen_nil))))))
    (cs_one (cs_ret (ce_callB cd_sort T.z_sorted bo_sorted (ca_cons (ce_own 1) ca_nil)))))))) (fun _ _ _ _ _ _ us hl => match us, hl with | [_], _ => rfl)).pure
theorem ok_are_switches (T : Txt K mg) : Glo P w K mg base "are_switches" 3 2 [] (pureF C.g_are_switches) :=
  (glo_mk (O := []) (Oc := []) (W := []) (U := []) T.d_are_switches sc_are_switches (fun f cdv A outer s H E P0 hr => (cs_one (cs_ret (ce_and (ce_callB (cd_all rfl) T.z_all bo_all (ca_cons (ce_comp rfl sc_are_switches.nd (ci_any (ce_var 1)) (blkOk_by (own := [("one", 2)]) (by kernel_rfl)) (fun P0 s H C cl fp => (cg_name 2 sc_are_switches.nd)) (fun s H C cl fp => cts_nil) (fun P0 s H C cl fp => (ce_call (ok_is_upto T) Out2.blk (hr.mono (by decide)) (ca_cons (ce_var 2) (ca_cons (ce_callB cd_len T.z_len bo_len (ca_cons (ce_var 0) ca_nil)) ca_nil)) (alen_cons (alen_cons alen_nil))))) ca_nil)) (ce_one (ce_cmp (od_eq hr.units) (ce_lenSet rfl T.z_len T.z_set (ce_var 1)) (ce_callB cd_len T.z_len bo_len (ca_cons (ce_var 1) ca_nil)))))))) (fun _ _ _ _ _ _ us hl => match us, hl with | [_, _], _ => rfl)).pure
theorem ok_is_ring (T : Txt K mg) : Glo P w K mg base "is_ring" 6 2 [] (pureF C.g_is_ring) :=
  (glo_mk (O := []) (Oc := []) (W := []) (U := []) T.d_is_ring sc_is_ring (fun f cdv A outer s H E P0 hr => (cs_cons (cs_if (ct_w (cw_or (ct_not (ct_val (ce_isi isk_tuple T.z_isinstance T.z_tuple (ce_var 1) bo_isinstance bo_tuple))) (cw_or (ct_cmp (od_eq hr.units) (ce_var 1) (ce_tup ca_nil)) (cw_or1 (ct_not (ct_val (ce_call (ok_are_switches T) out2_body (hr.mono (by decide)) (ca_cons (ce_var 0) (ca_cons (ce_var 1) ca_nil)) (alen_cons (alen_cons alen_nil))))))))) (cs_one (cs_ret ce_bl)) cs_nil)
    (cs_one (cs_ret (ce_call (ok_is_round T) out2_body (hr.mono (by decide)) (ca_cons (ce_call (ok_signs_between T) out2_body (hr.mono (by decide)) (ca_cons (ce_var 0) ca_nil) (alen_cons alen_nil)) (ca_cons (ce_var 1) ca_nil)) (alen_cons (alen_cons alen_nil))))))) (fun _ _ _ _ _ _ us hl => match us, hl with | [_, _], _ => rfl)).pure
theorem ok_signs_on (T : Txt K mg) : Glo P w K mg base "signs_on" 2 2 [] (pureF C.g_signs_on) :=
  (glo_mk (O := []) (Oc := []) (W := []) (U := []) T.d_signs_on sc_signs_on (fun f cdv A outer s H E P0 hr => (cs_cons (cs_asg (ce_lst (ca_cons ce_int ca_nil)) (cg_name 2 sc_signs_on.nd))
    (cs_cons (cs_for (U' := []) (vs := [3]) (passes_of rfl) rfl (ci_any (ce_call (ok_steps_round T) out2_body (hr.mono (by decide)) (ca_cons (ce_var 1) ca_nil) (alen_cons alen_nil))) (cg_name 3 sc_signs_on.nd) (cs_one (cs_asg (ce_setSort rfl T.z_sorted T.z_set (ce_bin od_add (ce_comp rfl sc_signs_on.nd (ci_any (ce_var 2)) (blkOk_by (own := [("sign", 4)]) (by kernel_rfl)) (fun P0 s H C cl fp => (cg_name 4 sc_signs_on.nd)) (fun s H C cl fp => cts_nil) (fun P0 s H C cl fp => (ce_bin od_mul (ce_var 4) (ce_ix (ce_dget (Nat.lt_of_le_of_lt (Nat.add_le_add_left (by decide) _) hr.units65) (ce_var 0) (ce_var 3)) ce_int)))) (ce_comp rfl sc_signs_on.nd (ci_any (ce_var 2)) (blkOk_by (own := [("sign", 4)]) (by kernel_rfl)) (fun P0 s H C cl fp => (cg_name 4 sc_signs_on.nd)) (fun s H C cl fp => cts_nil) (fun P0 s H C cl fp => (ce_bin od_mul (ce_var 4) (ce_ix (ce_dget (Nat.lt_of_le_of_lt (Nat.add_le_add_left (by decide) _) hr.units65) (ce_var 0) (ce_var 3)) (ce_neg ce_int))))))) (cg_name 2 sc_signs_on.nd))))
    (cs_one (cs_ret (ce_var 2)))))) (fun _ _ _ _ _ _ us hl => match us, hl with | [_, _], _ => rfl)).pure
theorem ok_signs_of (T : Txt K mg) : Glo P w K mg base "signs_of" 7 2 [] (pureF C.g_signs_of) :=
  (glo_mk (O := []) (Oc := []) (W := []) (U := []) T.d_signs_of sc_signs_of (fun f cdv A outer s H E P0 hr => (cs_cons (cs_if (ct_not (ct_val (ce_call (ok_is_ring T) out2_body (hr.mono (by decide)) (ca_cons (ce_var 0) (ca_cons (ce_var 1) ca_nil)) (alen_cons (alen_cons alen_nil))))) (cs_one (cs_raise T.e_NoOrder rfl (L2N.takes_of rfl rfl rfl rfl))) cs_nil)
    (cs_one (cs_ret (ce_call (ok_signs_on T) out2_body (hr.mono (by decide)) (ca_cons (ce_call (ok_signs_between T) out2_body (hr.mono (by decide)) (ca_cons (ce_var 0) ca_nil) (alen_cons alen_nil)) (ca_cons (ce_var 1) ca_nil)) (alen_cons (alen_cons alen_nil))))))) (fun _ _ _ _ _ _ us hl => match us, hl with | [_, _], _ => rfl)).pure
theorem ok_next_free (T : Txt K mg) : Glo P w K mg base "next_free" 6 2 [] (pureF C.g_next_free) :=
  (glo_mk (O := []) (Oc := []) (W := []) (U := []) T.d_next_free sc_next_free (fun f cdv A outer s H E P0 hr => (cs_cons (cs_asg (ce_call (ok_signs_between T) out2_body (hr.mono (by decide)) (ca_cons (ce_var 0) ca_nil) (alen_cons alen_nil)) (cg_name 2 sc_next_free.nd))
    (cs_cons (cs_asgLc (i := 3) rfl sc_next_free.nd rfl rfl (sw_true rfl rfl rfl (by decide +kernel)) (ci_range1 T.z_range (ca_cons (ce_callB cd_len T.z_len bo_len (ca_cons (ce_var 0) ca_nil)) ca_nil)) (blkOk_by (own := [("switch", 4)]) (by kernel_rfl)) (fun P0 s H C cl fp => (cg_name 4 sc_next_free.nd)) (fun s H C cl fp => (cts_one fun P0 => (ct_cmp (od_nin hr.units65) (ce_var 4) (ce_var 1)))) (fun P0 s H C cl fp => (ce_var 4)))
    (cs_cons (cs_for (U' := []) (vs := [4]) (passes_of rfl) rfl (ci_any (ce_var 3)) (cg_name 4 sc_next_free.nd) (cs_one (cs_if (ct_not (ct_val (ce_callB (cd_any rfl) T.z_any bo_any (ca_cons (ce_comp rfl sc_next_free.nd (ci_any (ce_var 3)) (blkOk_by (own := [("other", 5)]) (by kernel_rfl)) (fun P0 s H C cl fp => (cg_name 5 sc_next_free.nd)) (fun s H C cl fp => cts_nil) (fun P0 s H C cl fp => (ce_din (Nat.lt_of_le_of_lt (Nat.add_le_add_left (by decide) _) hr.units65) (ce_tup (ca_cons (ce_var 5) (ca_cons (ce_var 4) ca_nil))) (ce_var 2)))) ca_nil)))) (cs_one (cs_ret (ce_var 4))) cs_nil)))
    (cs_one (cs_ret ce_non)))))) (fun _ _ _ _ _ _ us hl => match us, hl with | [_, _], _ => rfl)).pure
theorem ok_order_paper (T : Txt K mg) : Glo P w K mg base "order_paper" 43 1 [] (pureF C.g_order_paper) :=
  (glo_mk (O := []) (Oc := []) (W := []) (U := []) T.d_order_paper sc_order_paper (fun f cdv A outer s H E P0 hr => (cs_growR (i := 1) sc_order_paper.nd (cs_while (vs := [2, 3]) (passes_of rfl) (ct_cmp od_lt (ce_callB cd_len T.z_len bo_len (ca_cons (ce_own 1) ca_nil)) (ce_callB cd_len T.z_len bo_len (ca_cons (ce_var 0) ca_nil))) (cs_cons (cs_asg (ce_callR (ok_next_free T) out2_body (hr.mono (by decide)) (ca_cons (ce_var 0) (ca_cons (ce_own 1) ca_nil)) (alen_cons (alen_cons alen_nil))) (cg_name 2 sc_order_paper.nd))
    (cs_cons (cs_if (ct_cmp od_is (ce_var 2) ce_non) (cs_cons (cs_asg ce_int (cg_name 3 sc_order_paper.nd))
    (cs_cons (cs_while (vs := []) (passes_of rfl) (ct_cmp (od_eq hr.units) (ce_call (ok_rings_with T) out2_body (hr.mono (by decide)) (ca_cons (ce_var 0) (ca_cons (ce_var 3) ca_nil)) (alen_cons (alen_cons alen_nil))) (ce_lst ca_nil)) (cs_one (cs_aug (i := 3) sc_order_paper.nd ip_add ce_int)))
    (cs_one (cs_ret (ce_tup (ca_cons ce_str (ca_cons (ce_ix (ce_call (ok_rings_with T) out2_body (hr.mono (by decide)) (ca_cons (ce_var 0) (ca_cons (ce_var 3) ca_nil)) (alen_cons (alen_cons alen_nil))) ce_int) ca_nil))))))) cs_nil)
    (cs_one (cs_append (i := 1) (ce_var 2)))))) (cs_one (cs_ret (ce_tup (ca_cons ce_str (ca_cons (ce_var 1) ca_nil))))))) (fun _ _ _ _ _ _ us hl => match us, hl with | [_], _ => rfl)).pure
theorem ok_changed (T : Txt K mg) : Glo P w K mg base "changed" 2 2 [] (pureF C.g_changed) :=
  (glo_mk (O := []) (Oc := []) (W := []) (U := []) T.d_changed sc_changed (fun f cdv A outer s H E P0 hr => (cs_one (cs_ret (ce_call (ok_with_bit T) out2_body (hr.mono (by decide)) (ca_cons (ce_var 0) (ca_cons (ce_var 1) (ca_cons (ce_bin od_sub ce_int (ce_ix (ce_var 0) (ce_var 1))) ca_nil))) (alen_cons (alen_cons (alen_cons alen_nil))))))) (fun _ _ _ _ _ _ us hl => match us, hl with | [_, _], _ => rfl)).pure
theorem ok_steps_from (T : Txt K mg) : Glo P w K mg base "steps_from" 7 2 [] (pureF C.g_steps_from) :=
  (glo_mk (O := []) (Oc := []) (W := []) (U := []) T.d_steps_from sc_steps_from (fun f cdv A outer s H E P0 hr => (cs_one (cs_ret (ce_comp rfl sc_steps_from.nd (ci_any (ce_call (ok_wrong_ones T) out2_body (hr.mono (by decide)) (ca_cons (ce_var 0) (ca_cons (ce_var 1) ca_nil)) (alen_cons (alen_cons alen_nil)))) (blkOk_by (own := [("k", 2)]) (by kernel_rfl)) (fun P0 s H C cl fp => (cg_name 2 sc_steps_from.nd)) (fun s H C cl fp => cts_nil) (fun P0 s H C cl fp => (ce_tup (ca_cons (ce_var 2) (ca_cons (ce_call (ok_changed T) Out2.blk (hr.mono (by decide)) (ca_cons (ce_var 1) (ca_cons (ce_var 2) ca_nil)) (alen_cons (alen_cons alen_nil))) ca_nil)))))))) (fun _ _ _ _ _ _ us hl => match us, hl with | [_, _], _ => rfl)).pure
theorem ok_search_from (T : Txt K mg) : Glo P w K mg base "search_from" 8 2 [] (pureF C.g_search_from) :=
  (glo_mk (O := []) (Oc := [2, 3]) (W := []) (U := []) T.d_search_from sc_search_from (fun f cdv A outer s H E P0 hr => (cs_cons (cs_dic1 (i := 2) (j := 1) (Nat.lt_of_le_of_lt (Nat.add_le_add_left (by decide) _) hr.units65) sc_search_from.nd)
    (cs_cons (cs_own (i := 3) sc_search_from.nd (ce_lst (ca_cons (ce_var 1) ca_nil)))
    (cs_cons (cs_asg ce_int (cg_name 4 sc_search_from.nd))
    (cs_cons (cs_while (vs := [5, 6]) (passes_of rfl) (ct_cmp od_lt (ce_var 4) (ce_callB cd_len T.z_len bo_len (ca_cons (ce_own 3) ca_nil))) (cs_cons (cs_for (U' := []) (vs := [5, 6]) (passes_of rfl) rfl (ci_any (ce_call (ok_steps_from T) out2_body (hr.mono (by decide)) (ca_cons (ce_var 0) (ca_cons (ce_ix (ce_own 3) (ce_var 4)) ca_nil)) (alen_cons (alen_cons alen_nil)))) (cg_tup [5, 6] rfl (cgs_cons 5 sc_search_from.nd (cgs_cons 6 sc_search_from.nd cgs_nil))) (cs_one (cs_if (ct_dnin (Nat.lt_of_le_of_lt (Nat.add_le_add_left (by decide) _) hr.units65) (ce_var 6) (ce_own 2)) (cs_cons (cs_dput (i := 2) (Nat.lt_of_le_of_lt (Nat.add_le_add_left (by decide) _) hr.units65) (ce_tup (ca_cons (ce_var 5) (ca_cons (ce_ix (ce_own 3) (ce_var 4)) ca_nil))) (ce_var 6))
    (cs_one (cs_append (i := 3) (ce_var 6)))) cs_nil)))
    (cs_one (cs_asg (ce_bin od_add (ce_var 4) ce_int) (cg_name 4 sc_search_from.nd)))))
    (cs_one (cs_ret (ce_own 2)))))))) (fun _ _ _ _ _ _ us hl => match us, hl with | [_, _], _ => rfl)).pure
theorem ok_comes_to (T : Txt K mg) : Glo P w K mg base "comes_to" 9 2 [] (pureF C.g_comes_to) :=
  (glo_mk (O := []) (Oc := []) (W := []) (U := []) T.d_comes_to sc_comes_to (fun f cdv A outer s H E P0 hr => (cs_cons (cs_expr (ce_call (ok_look_at_stand T) out2_body (hr.mono (by decide)) (ca_cons (ce_var 0) (ca_cons (ce_var 1) ca_nil)) (alen_cons (alen_cons alen_nil))))
    (cs_one (cs_ret (ce_callB (cd_sortDD rfl) T.z_sorted bo_sorted (ca_cons (ce_call (ok_search_from T) out2_body (hr.mono (by decide)) (ca_cons (ce_var 0) (ca_cons (ce_var 1) ca_nil)) (alen_cons (alen_cons alen_nil))) ca_nil)))))) (fun _ _ _ _ _ _ us hl => match us, hl with | [_, _], _ => rfl)).pure
theorem ok_way_of (T : Txt K mg) : Glo P w K mg base "way_of" 9 3 [] (pureF C.g_way_of) :=
  (glo_mk (O := []) (Oc := [4]) (W := []) (U := []) T.d_way_of sc_way_of (fun f cdv A outer s H E P0 hr => (cs_cons (cs_expr (ce_call (ok_look_at_stand T) out2_body (hr.mono (by decide)) (ca_cons (ce_var 0) (ca_cons (ce_var 1) ca_nil)) (alen_cons (alen_cons alen_nil))))
    (cs_cons (cs_expr (ce_call (ok_look_at_stand T) out2_body (hr.mono (by decide)) (ca_cons (ce_var 0) (ca_cons (ce_var 2) ca_nil)) (alen_cons (alen_cons alen_nil))))
    (cs_cons (cs_asg (ce_call (ok_search_from T) out2_body (hr.mono (by decide)) (ca_cons (ce_var 0) (ca_cons (ce_var 1) ca_nil)) (alen_cons (alen_cons alen_nil))) (cg_name 3 sc_way_of.nd))
    (cs_cons (cs_if (ct_dnin (Nat.lt_of_le_of_lt (Nat.add_le_add_left (by decide) _) hr.units65) (ce_var 2) (ce_var 3)) (cs_one (cs_ret ce_non)) cs_nil)
    (cs_cons (cs_own (i := 4) sc_way_of.nd (ce_lst ca_nil))
    (cs_cons (cs_while (vs := [5]) (passes_of rfl) (ct_cmp od_isnot (ce_dget (Nat.lt_of_le_of_lt (Nat.add_le_add_left (by decide) _) hr.units65) (ce_var 3) (ce_var 2)) ce_non) (cs_cons (cs_asg (ce_dget (Nat.lt_of_le_of_lt (Nat.add_le_add_left (by decide) _) hr.units65) (ce_var 3) (ce_var 2)) (cg_tup [5, 2] rfl (cgs_cons 5 sc_way_of.nd (cgs_cons 2 sc_way_of.nd cgs_nil))))
    (cs_one (cs_append (i := 4) (ce_var 5)))))
    (cs_one (cs_ret (ce_listRev rfl T.z_list T.z_reversed (ce_own 4))))))))))) (fun _ _ _ _ _ _ us hl => match us, hl with | [_, _, _], _ => rfl)).pure
theorem ok_reached (T : Txt K mg) : Glo P w K mg base "reached" 10 1 [] (pureF C.g_reached) :=
  (glo_mk (O := []) (Oc := [1]) (W := []) (U := []) T.d_reached sc_reached (fun f cdv A outer s H E P0 hr => (cs_cons (cs_dicnew (i := 1) sc_reached.nd)
    (cs_cons (cs_for (U' := []) (vs := [2]) (passes_of rfl) rfl (ci_any (ce_call (ok_stands_of T) out2_body (hr.mono (by decide)) (ca_cons (ce_callB cd_len T.z_len bo_len (ca_cons (ce_var 0) ca_nil)) ca_nil) (alen_cons alen_nil))) (cg_name 2 sc_reached.nd) (cs_one (cs_dput (i := 1) (Nat.lt_of_le_of_lt (Nat.add_le_add_left (by decide) _) hr.units65) (ce_call (ok_comes_to T) out2_body (hr.mono (by decide)) (ca_cons (ce_var 0) (ca_cons (ce_var 2) ca_nil)) (alen_cons (alen_cons alen_nil))) (ce_var 2))))
    (cs_one (cs_ret (ce_own 1)))))) (fun _ _ _ _ _ _ us hl => match us, hl with | [_], _ => rfl)).pure
theorem ok_dens_among (T : Txt K mg) : Glo P w K mg base "dens_among" 1 1 [] (pureF C.g_dens_among) :=
  (glo_mk (O := []) (Oc := [1]) (W := []) (U := []) T.d_dens_among sc_dens_among (fun f cdv A outer s H E P0 hr => (cs_cons (cs_own (i := 1) sc_dens_among.nd (ce_lst ca_nil))
    (cs_cons (cs_forItems (i := 0) (U' := []) (vs := [2, 3]) (passes_of rfl) rfl (cg_tup [2, 3] rfl (cgs_cons 2 sc_dens_among.nd (cgs_cons 3 sc_dens_among.nd cgs_nil))) (cs_one (cs_if (ct_w (cw_and (ct_cmp (od_eq hr.units) (ce_ix (ce_var 3) ce_int) (ce_var 2)) (cw_and1 (ct_val (ce_callB (cd_all rfl) T.z_all bo_all (ca_cons (ce_comp rfl sc_dens_among.nd (ci_any (ce_var 3)) (blkOk_by (own := [("there", 4)]) (by kernel_rfl)) (fun P0 s H C cl fp => (cg_name 4 sc_dens_among.nd)) (fun s H C cl fp => cts_nil) (fun P0 s H C cl fp => (ce_cmp (od_eq hr.units) (ce_callB cd_len T.z_len bo_len (ca_cons (ce_dget (Nat.lt_of_le_of_lt (Nat.add_le_add_left (by decide) _) hr.units65) (ce_var 0) (ce_var 4)) ca_nil)) (ce_callB cd_len T.z_len bo_len (ca_cons (ce_var 3) ca_nil))))) ca_nil)))))) (cs_one (cs_append (i := 1) (ce_callT cd_list T.z_list bo_list (ca_cons (ce_var 3) ca_nil)))) cs_nil)))
    (cs_one (cs_ret (ce_callB (cd_sortG hr.units65) T.z_sorted bo_sorted (ca_cons (ce_own 1) ca_nil))))))) (fun _ _ _ _ _ _ us hl => match us, hl with | [_], _ => rfl)).pure
theorem ok_dens_of (T : Txt K mg) : Glo P w K mg base "dens_of" 11 1 [] (pureF C.g_dens_of) :=
  (glo_mk (O := []) (Oc := []) (W := []) (U := []) T.d_dens_of sc_dens_of (fun f cdv A outer s H E P0 hr => (cs_one (cs_ret (ce_call (ok_dens_among T) out2_body (hr.mono (by decide)) (ca_cons (ce_call (ok_reached T) out2_body (hr.mono (by decide)) (ca_cons (ce_var 0) ca_nil) (alen_cons alen_nil)) ca_nil) (alen_cons alen_nil))))) (fun _ _ _ _ _ _ us hl => match us, hl with | [_], _ => rfl)).pure
theorem ok_rests_of (T : Txt K mg) : Glo P w K mg base "rests_of" 7 1 [] (pureF C.g_rests_of) :=
  (glo_mk (O := []) (Oc := []) (W := []) (U := []) T.d_rests_of sc_rests_of (fun f cdv A outer s H E P0 hr => (cs_one (cs_ret (ce_comp rfl sc_rests_of.nd (ci_any (ce_call (ok_stands_of T) out2_body (hr.mono (by decide)) (ca_cons (ce_callB cd_len T.z_len bo_len (ca_cons (ce_var 0) ca_nil)) ca_nil) (alen_cons alen_nil))) (blkOk_by (own := [("stand", 1)]) (by kernel_rfl)) (fun P0 s H C cl fp => (cg_name 1 sc_rests_of.nd)) (fun s H C cl fp => (cts_one fun P0 => (ct_cmp (od_eq hr.units) (ce_call (ok_wrong_ones T) Out2.blk (hr.mono (by decide)) (ca_cons (ce_var 0) (ca_cons (ce_var 1) ca_nil)) (alen_cons (alen_cons alen_nil))) (ce_lst ca_nil)))) (fun P0 s H C cl fp => (ce_var 1)))))) (fun _ _ _ _ _ _ us hl => match us, hl with | [_], _ => rfl)).pure
theorem ok__law_cell (T : Txt K mg) : Glo P w K mg base "_law_cell" 1 2 [] (pureF C.g__law_cell) :=
  (glo_mk (O := []) (Oc := []) (W := []) (U := []) T.d__law_cell sc__law_cell (fun f cdv A outer s H E P0 hr => (cs_cons (cs_if (ct_cmp od_lt (ce_var 1) (ce_callB cd_len T.z_len bo_len (ca_cons (ce_var 0) ca_nil))) (cs_one (cs_ret (ce_ix (ce_var 0) (ce_var 1)))) cs_nil)
    (cs_one (cs_ret (ce_bin od_add (ce_bin od_mul ce_int (ce_var 1)) ce_int))))) (fun _ _ _ _ _ _ us hl => match us, hl with | [_, _], _ => rfl)).pure
theorem ok__law_box (T : Txt K mg) : Glo P w K mg base "_law_box" 2 2 [] (pureF C.g__law_box_2) :=
  (glo_mk (O := []) (Oc := []) (W := []) (U := []) T.d__law_box sc__law_box (fun f cdv A outer s H E P0 hr => (cs_cons (cs_asg (ce_call (ok__law_cell T) out2_body (hr.mono (by decide)) (ca_cons (ce_var 0) (ca_cons (ce_var 1) ca_nil)) (alen_cons (alen_cons alen_nil))) (cg_name 2 sc__law_box.nd))
    (cs_cons (cs_if (ct_cmp (od_eq hr.units) (ce_bin od_mod (ce_var 2) ce_int) ce_int) (cs_one (cs_ret (ce_lst (ca_cons (ce_bin od_fdiv (ce_var 2) ce_int) ca_nil)))) cs_nil)
    (cs_cons (cs_asg ce_int (cg_name 3 sc__law_box.nd))
    (cs_cons (cs_asg (ce_bin od_mod (ce_var 2) ce_int) (cg_name 4 sc__law_box.nd))
    (cs_cons (cs_for (U' := []) (vs := [5]) (passes_of rfl) rfl (ci_range1 T.z_range (ca_cons ce_int ca_nil)) (cg_name 5 sc__law_box.nd) (cs_cons (cs_asg (ce_bin od_mod (ce_bin od_add (ce_bin od_add (ce_bin od_add (ce_bin od_mul (ce_var 4) ce_int) (ce_bin od_mul (ce_bin od_mul ce_int (ce_var 5)) (ce_var 5))) (ce_bin od_mul ce_int (ce_var 1))) ce_int) ce_int) (cg_name 4 sc__law_box.nd))
    (cs_one (cs_asg (ce_bin od_add (ce_bin od_mul (ce_var 3) ce_int) (ce_var 4)) (cg_name 3 sc__law_box.nd)))))
    (cs_one (cs_ret (ce_lst (ca_cons (ce_var 3) ca_nil)))))))))) (fun _ _ _ _ _ _ us hl => match us, hl with | [_, _], _ => rfl)).pure
theorem ok__law_take (T : Txt K mg) : Glo P w K mg base "_law_take" 1 2 [0] C.g__law_take_2 :=
  (glo_mk (O := [0]) (Oc := [0]) (W := []) (U := [0]) T.d__law_take sc__law_take (fun f cdv A outer s H E P0 hr => (cs_cons (cs_asg (ce_bin od_mod (ce_ix (ce_own 0) ce_int) (ce_var 1)) (cg_name 2 sc__law_take.nd))
    (cs_cons (cs_setix (i := 0) (ce_bin od_fdiv (ce_ix (ce_own 0) ce_int) (ce_var 1)) ce_int)
    (cs_one (cs_ret (ce_var 2)))))) (fun _ _ _ _ _ _ us hl => match us, hl with | [_, _], _ => rfl))
theorem ok__law_readings (T : Txt K mg) : Glo P w K mg base "_law_readings" 1 1 [] (pureF C.g__law_readings) :=
  (glo_mk (O := []) (Oc := []) (W := []) (U := []) T.d__law_readings sc__law_readings (fun f cdv A outer s H E P0 hr => (cs_cons (cs_asg (ce_lst (ca_cons (ce_tup ca_nil) ca_nil)) (cg_name 1 sc__law_readings.nd))
    (cs_cons (cs_for (U' := []) (vs := [2]) (passes_of rfl) rfl (ci_range1 T.z_range (ca_cons (ce_var 0) ca_nil)) (cg_name 2 sc__law_readings.nd) (cs_one (cs_asg (ce_bin od_add (ce_comp rfl sc__law_readings.nd (ci_any (ce_var 1)) (blkOk_by (own := [("row", 3)]) (by kernel_rfl)) (fun P0 s H C cl fp => (cg_name 3 sc__law_readings.nd)) (fun s H C cl fp => cts_nil) (fun P0 s H C cl fp => (ce_bin od_add (ce_var 3) (ce_tup (ca_cons ce_int ca_nil))))) (ce_comp rfl sc__law_readings.nd (ci_any (ce_var 1)) (blkOk_by (own := [("row", 3)]) (by kernel_rfl)) (fun P0 s H C cl fp => (cg_name 3 sc__law_readings.nd)) (fun s H C cl fp => cts_nil) (fun P0 s H C cl fp => (ce_bin od_add (ce_var 3) (ce_tup (ca_cons ce_int ca_nil)))))) (cg_name 1 sc__law_readings.nd))))
    (cs_one (cs_ret (ce_callB cd_sort T.z_sorted bo_sorted (ca_cons (ce_var 1) ca_nil))))))) (fun _ _ _ _ _ _ us hl => match us, hl with | [_], _ => rfl)).pure
theorem ok__law_rule (T : Txt K mg) : Glo P w K mg base "_law_rule" 2 2 [0] C.g__law_rule_2 :=
  (glo_mk (O := [0]) (Oc := [0, 2, 3]) (W := [0, 2]) (U := [0]) T.d__law_rule sc__law_rule (fun f cdv A outer s H E P0 hr => (cs_cons (cs_own (i := 2) sc__law_rule.nd (ce_lrg1 rfl T.z_list T.z_range (ce_var 1)))
    (cs_cons (cs_own (i := 3) sc__law_rule.nd (ce_lst ca_nil))
    (cs_cons (cs_for (U' := [0]) (vs := []) (passes_of rfl) rfl (ci_range1 T.z_range (ca_cons (ce_callB (cd_min rfl) T.z_min bo_min (ca_cons (ce_callIO (ok__law_take T) [(0, 0)] out2_body (hr.mono (by decide)) (ca_cons (ce_own 0) (ca_cons ce_int ca_nil)) (alen_cons (alen_cons alen_nil))) (ca_cons (ce_var 1) ca_nil))) ca_nil)) (cg_name 4 sc__law_rule.nd) (cs_one (cs_append (i := 3) (ce_popAt (i := 2) (ce_callIO (ok__law_take T) [(0, 0)] out2_body (hr.mono (by decide)) (ca_cons (ce_own 0) (ca_cons (ce_callB cd_len T.z_len bo_len (ca_cons (ce_own 2) ca_nil)) ca_nil)) (alen_cons (alen_cons alen_nil)))))))
    (cs_cons (cs_asg (ce_call (ok__law_readings T) out2_body (hr.mono (by decide)) (ca_cons (ce_callB cd_len T.z_len bo_len (ca_cons (ce_own 3) ca_nil)) ca_nil) (alen_cons alen_nil)) (cg_name 5 sc__law_rule.nd))
    (cs_cons (cs_asg (ce_callIO (ok__law_take T) [(0, 0)] out2_body (hr.mono (by decide)) (ca_cons (ce_own 0) (ca_cons ce_int ca_nil)) (alen_cons (alen_cons alen_nil))) (cg_name 6 sc__law_rule.nd))
    (cs_cons (cs_if (ct_cmp (od_eq hr.units) (ce_var 6) ce_int) (cs_one (cs_ret (ce_tup (ca_cons (ce_callT cd_tuple T.z_tuple bo_tuple (ca_cons (ce_callB cd_sort T.z_sorted bo_sorted (ca_cons (ce_own 3) ca_nil)) ca_nil)) (ca_cons (ce_callT cd_tuple T.z_tuple bo_tuple (ca_cons (ce_comp rfl sc__law_rule.nd (ci_any (ce_var 5)) (blkOk_by (own := [("row", 11)]) (by kernel_rfl)) (fun P0 s H C cl fp => (cg_name 11 sc__law_rule.nd)) (fun s H C cl fp => cts_nil) (fun P0 s H C cl fp => (ce_callIO (ok__law_take T) [(0, 0)] Out2.blk (hr.mono (by decide)) (ca_cons (ce_own 0) (ca_cons ce_int ca_nil)) (alen_cons (alen_cons alen_nil))))) ca_nil)) ca_nil))))) cs_nil)
    (cs_cons (cs_asg (ce_comp rfl sc__law_rule.nd (ci_any (ce_own 3)) (blkOk_by (own := [("ear", 10)]) (by kernel_rfl)) (fun P0 s H C cl fp => (cg_name 10 sc__law_rule.nd)) (fun s H C cl fp => cts_nil) (fun P0 s H C cl fp => ce_int)) (cg_name 7 sc__law_rule.nd))
    (cs_cons (cs_if (ct_cmp (od_eq hr.units) (ce_var 6) ce_int) (cs_one (cs_asg (ce_comp rfl sc__law_rule.nd (ci_any (ce_own 3)) (blkOk_by (own := [("ear", 10)]) (by kernel_rfl)) (fun P0 s H C cl fp => (cg_name 10 sc__law_rule.nd)) (fun s H C cl fp => cts_nil) (fun P0 s H C cl fp => (ce_callIO (ok__law_take T) [(0, 0)] Out2.blk (hr.mono (by decide)) (ca_cons (ce_own 0) (ca_cons ce_int ca_nil)) (alen_cons (alen_cons alen_nil))))) (cg_name 7 sc__law_rule.nd))) cs_nil)
    (cs_cons (cs_asg (ce_callIO (ok__law_take T) [(0, 0)] out2_body (hr.mono (by decide)) (ca_cons (ce_own 0) (ca_cons (ce_bin od_add (ce_callB cd_len T.z_len bo_len (ca_cons (ce_own 3) ca_nil)) ce_int) ca_nil)) (alen_cons (alen_cons alen_nil))) (cg_name 8 sc__law_rule.nd))
    (cs_cons (cs_asgLc (i := 9) rfl sc__law_rule.nd rfl rfl (sw_true rfl rfl rfl (by decide +kernel)) (ci_any (ce_var 5)) (blkOk_by (own := [("row", 11)]) (by kernel_rfl)) (fun P0 s H C cl fp => (cg_name 11 sc__law_rule.nd)) (fun s H C cl fp => cts_nil) (fun P0 s H C cl fp => (ce_callT cd_int T.z_int bo_int (ca_cons (ce_cmp od_ge (ce_callB cd_len T.z_len bo_len (ca_cons (ce_comp rfl sc__law_rule.nd (ci_range1 T.z_range (ca_cons (ce_callB cd_len T.z_len bo_len (ca_cons (ce_own 3) ca_nil)) ca_nil)) (blkOk_by (own := [("k", 4)]) (by kernel_rfl)) (fun P0 s H C cl fp => (cg_name 4 sc__law_rule.nd)) (fun s H C cl fp => (cts_one fun P0 => (ct_cmp (od_eq hr.units) (ce_ix (ce_var 11) (ce_var 4)) (ce_ix (ce_var 7) (ce_var 4))))) (fun P0 s H C cl fp => (ce_var 4))) ca_nil)) (ce_var 8)) ca_nil))))
    (cs_one (cs_ret (ce_tup (ca_cons (ce_callT cd_tuple T.z_tuple bo_tuple (ca_cons (ce_callB cd_sort T.z_sorted bo_sorted (ca_cons (ce_own 3) ca_nil)) ca_nil)) (ca_cons (ce_callT cd_tuple T.z_tuple bo_tuple (ca_cons (ce_var 9) ca_nil)) ca_nil)))))))))))))))) (fun _ _ _ _ _ _ us hl => match us, hl with | [_, _], _ => rfl))
theorem ok__law_drawn (T : Txt K mg) : Glo P w K mg base "_law_drawn" 3 2 [0] C.g__law_drawn :=
  (glo_mk (O := [0]) (Oc := [0]) (W := [0]) (U := [0]) T.d__law_drawn sc__law_drawn (fun f cdv A outer s H E P0 hr => (cs_cons (cs_asg (ce_bin od_add ce_int (ce_callIO (ok__law_take T) [(0, 0)] out2_body (hr.mono (by decide)) (ca_cons (ce_own 0) (ca_cons (ce_var 1) ca_nil)) (alen_cons (alen_cons alen_nil)))) (cg_name 2 sc__law_drawn.nd))
    (cs_cons (cs_asg (ce_callIO (ok__law_take T) [(0, 0)] out2_body (hr.mono (by decide)) (ca_cons (ce_own 0) (ca_cons ce_int ca_nil)) (alen_cons (alen_cons alen_nil))) (cg_name 3 sc__law_drawn.nd))
    (cs_cons (cs_if (ct_cmp od_gt (ce_var 3) ce_int) (cs_one (cs_ret (ce_callT cd_tuple T.z_tuple bo_tuple (ca_cons (ce_comp rfl sc__law_drawn.nd (ci_range1 T.z_range (ca_cons (ce_var 2) ca_nil)) (blkOk_by (own := [("k", 5)]) (by kernel_rfl)) (fun P0 s H C cl fp => (cg_name 5 sc__law_drawn.nd)) (fun s H C cl fp => cts_nil) (fun P0 s H C cl fp => (ce_callIO (ok__law_rule T) [(0, 0)] Out2.blk (hr.mono (by decide)) (ca_cons (ce_own 0) (ca_cons (ce_var 2) ca_nil)) (alen_cons (alen_cons alen_nil))))) ca_nil)))) cs_nil)
    (cs_cons (cs_asgLc (i := 4) rfl sc__law_drawn.nd rfl rfl (sw_true rfl rfl rfl (by decide +kernel)) (ci_range1 T.z_range (ca_cons (ce_var 2) ca_nil)) (blkOk_by (own := [("k", 5)]) (by kernel_rfl)) (fun P0 s H C cl fp => (cg_name 5 sc__law_drawn.nd)) (fun s H C cl fp => cts_nil) (fun P0 s H C cl fp => (ce_callIO (ok__law_rule T) [(0, 0)] Out2.blk (hr.mono (by decide)) (ca_cons (ce_own 0) (ca_cons (ce_var 5) ca_nil)) (alen_cons (alen_cons alen_nil)))))
    (cs_cons (cs_if (ct_cmp (od_eq hr.units) (ce_var 3) ce_int) (cs_one (cs_asgLc (i := 4) rfl sc__law_drawn.nd rfl rfl (sw_true rfl rfl rfl (by decide +kernel)) (ci_any (ce_rev (ce_var 4) (co_some (ce_neg ce_int)))) (blkOk_by (own := [("ears", 6), ("table", 7)]) (by kernel_rfl)) (fun P0 s H C cl fp => (cg_tup [6, 7] rfl (cgs_cons 6 sc__law_drawn.nd (cgs_cons 7 sc__law_drawn.nd cgs_nil)))) (fun s H C cl fp => cts_nil) (fun P0 s H C cl fp => (ce_tup (ca_cons (ce_callT cd_tuple T.z_tuple bo_tuple (ca_cons (ce_callB cd_sort T.z_sorted bo_sorted (ca_cons (ce_comp rfl sc__law_drawn.nd (ci_any (ce_var 6)) (blkOk_by (own := [("ear", 8)]) (by kernel_rfl)) (fun P0 s H C cl fp => (cg_name 8 sc__law_drawn.nd)) (fun s H C cl fp => cts_nil) (fun P0 s H C cl fp => (ce_bin od_sub (ce_bin od_sub (ce_var 2) ce_int) (ce_var 8)))) ca_nil)) ca_nil)) (ca_cons (ce_var 7) ca_nil)))))) cs_nil)
    (cs_one (cs_ret (ce_callT cd_tuple T.z_tuple bo_tuple (ca_cons (ce_var 4) ca_nil)))))))))) (fun _ _ _ _ _ _ us hl => match us, hl with | [_, _], _ => rfl))
theorem ok__law_ringless (T : Txt K mg) : Glo P w K mg base "_law_ringless" 44 3 [] (pureF C.g__law_ringless) :=
  (glo_mk (O := []) (Oc := []) (W := []) (U := []) T.d__law_ringless sc__law_ringless (fun f cdv A outer s H E P0 hr => (cs_cons (cs_if (ct_w (cw_or (ct_cmp (od_ne hr.units) (ce_ix (ce_call (ok_order_paper T) out2_body (hr.mono (by decide)) (ca_cons (ce_var 0) ca_nil) (alen_cons alen_nil)) ce_int) ce_str) (cw_or (ct_cmp (od_ne hr.units) (ce_callB cd_len T.z_len bo_len (ca_cons (ce_var 2) ca_nil)) ce_int) (cw_or1 (ct_cmp (od_ne hr.units) (ce_var 1) (ce_lst (ca_cons (ce_var 2) ca_nil))))))) (cs_one (cs_ret ce_bl)) cs_nil)
    (cs_cons (cs_for (U' := []) (vs := [3, 4]) (passes_of rfl) rfl (ci_any (ce_call (ok__law_readings T) out2_body (hr.mono (by decide)) (ca_cons (ce_callB cd_len T.z_len bo_len (ca_cons (ce_var 0) ca_nil)) ca_nil) (alen_cons alen_nil))) (cg_name 3 sc__law_ringless.nd) (cs_cons (cs_asg (ce_call (ok_way_of T) out2_body (hr.mono (by decide)) (ca_cons (ce_var 0) (ca_cons (ce_var 3) (ca_cons (ce_ix (ce_var 2) ce_int) ca_nil))) (alen_cons (alen_cons (alen_cons alen_nil)))) (cg_name 4 sc__law_ringless.nd))
    (cs_one (cs_if (ct_w (cw_or (ct_cmp od_is (ce_var 4) ce_non) (cw_or1 (ct_cmp od_gt (ce_callB cd_len T.z_len bo_len (ca_cons (ce_var 4) ca_nil)) (ce_callB cd_len T.z_len bo_len (ca_cons (ce_var 0) ca_nil)))))) (cs_one (cs_ret ce_bl)) cs_nil))))
    (cs_one (cs_ret ce_bl))))) (fun _ _ _ _ _ _ us hl => match us, hl with | [_, _, _], _ => rfl)).pure
theorem ok_law (T : Txt K mg) {f : Addr} {fd : FuncData} (F : Fun K "law" "law" s_law f fd) : FnOk P w K mg base (L2N.CX P w) 45 f fd ["script"] (spD K mg 1 [] (pureF C.g_law_k27)) :=
  law_fn (Oc := []) (W := []) F sc_law (fun f cdv A outer s H E P0 hr => (cs_cons (cs_for (U' := []) (vs := [1, 2, 3, 4, 5, 6, 7]) (passes_of rfl) rfl (ci_range1 T.z_range (ca_cons (ce_callB (cd_max rfl) T.z_max bo_max (ca_cons ce_int (ca_cons (ce_callB (cd_min rfl) T.z_min bo_min (ca_cons (ce_callB cd_len T.z_len bo_len (ca_cons (ce_var 0) ca_nil)) (ca_cons ce_int ca_nil))) ca_nil))) ca_nil)) (cg_name 1 sc_law.nd) (cs_cons (cs_asg (ce_callNew (ok__law_drawn T) out2_body (hr.mono (by decide)) (ca_cons (ce_call (ok__law_box T) out2_body (hr.mono (by decide)) (ca_cons (ce_var 0) (ca_cons (ce_var 1) ca_nil)) (alen_cons (alen_cons alen_nil))) (ca_cons ce_int ca_nil)) (alen_cons (alen_cons alen_nil))) (cg_name 2 sc_law.nd))
    (cs_cons (cs_asg (ce_call (ok_rings_of T) out2_body (hr.mono (by decide)) (ca_cons (ce_var 2) ca_nil) (alen_cons alen_nil)) (cg_name 3 sc_law.nd))
    (cs_cons (cs_asg (ce_lst ca_nil) (cg_name 4 sc_law.nd))
    (cs_cons (cs_for (U' := []) (vs := [5]) (passes_of rfl) rfl (ci_any (ce_var 3)) (cg_name 5 sc_law.nd) (cs_one (cs_asg (ce_bin od_add (ce_var 4) (ce_call (ok_signs_of T) out2_body (hr.mono (by decide)) (ca_cons (ce_var 2) (ca_cons (ce_var 5) ca_nil)) (alen_cons (alen_cons alen_nil)))) (cg_name 4 sc_law.nd))))
    (cs_cons (cs_asg (ce_call (ok_dens_of T) out2_body (hr.mono (by decide)) (ca_cons (ce_var 2) ca_nil) (alen_cons alen_nil)) (cg_name 6 sc_law.nd))
    (cs_cons (cs_asg (ce_call (ok_rests_of T) out2_body (hr.mono (by decide)) (ca_cons (ce_var 2) ca_nil) (alen_cons alen_nil)) (cg_name 7 sc_law.nd))
    (cs_cons (cs_if (ct_w (cw_or (ct_w (cw_and (ct_cmp od_gt (ce_callB cd_len T.z_len bo_len (ca_cons (ce_var 6) ca_nil)) ce_int) (cw_and1 (ct_cmp (od_nin hr.units65) ce_int (ce_var 4))))) (cw_or1 (ct_cmp (od_eq hr.units) (ce_var 6) (ce_lst ca_nil))))) (cs_one (cs_ret ce_bl)) cs_nil)
    (cs_cons (cs_if (ct_w (cw_and (ct_cmp (od_ne hr.units) (ce_comp rfl sc_law.nd (ci_any (ce_var 6)) (blkOk_by (own := [("den", 8)]) (by kernel_rfl)) (fun P0 s H C cl fp => (cg_name 8 sc_law.nd)) (fun s H C cl fp => (cts_one fun P0 => (ct_cmp od_gt (ce_callB cd_len T.z_len bo_len (ca_cons (ce_var 8) ca_nil)) ce_int))) (fun P0 s H C cl fp => (ce_var 8))) (ce_lst ca_nil)) (cw_and1 (ct_cmp (od_nin hr.units65) (ce_neg ce_int) (ce_var 4))))) (cs_one (cs_ret ce_bl)) cs_nil)
    (cs_cons (cs_if (ct_cmp (od_ne hr.units) (ce_callB cd_sort T.z_sorted bo_sorted (ca_cons (ce_comp rfl sc_law.nd (ci_any (ce_var 6)) (blkOk_by (own := [("den", 8)]) (by kernel_rfl)) (fun P0 s H C cl fp => (cg_name 8 sc_law.nd)) (fun s H C cl fp => (cts_one fun P0 => (ct_cmp (od_eq hr.units) (ce_callB cd_len T.z_len bo_len (ca_cons (ce_var 8) ca_nil)) ce_int))) (fun P0 s H C cl fp => (ce_ix (ce_var 8) ce_int))) ca_nil)) (ce_var 7)) (cs_one (cs_ret ce_bl)) cs_nil)
    (cs_cons (cs_if (ct_w (cw_and (ct_cmp (od_eq hr.units) (ce_var 3) (ce_lst ca_nil)) (cw_and1 (ct_not (ct_val (ce_call (ok__law_ringless T) out2_body (hr.mono (by decide)) (ca_cons (ce_var 2) (ca_cons (ce_var 6) (ca_cons (ce_var 7) ca_nil))) (alen_cons (alen_cons (alen_cons alen_nil))))))))) (cs_one (cs_ret ce_bl)) cs_nil)
    (cs_one (cs_if (ct_cmp (od_ne hr.units) (ce_cmp (od_eq hr.units) (ce_ix (ce_call (ok_order_paper T) out2_body (hr.mono (by decide)) (ca_cons (ce_var 2) ca_nil) (alen_cons alen_nil)) ce_int) ce_str) (ce_cmp (od_ne hr.units) (ce_var 3) (ce_lst ca_nil))) (cs_one (cs_ret ce_bl)) cs_nil)))))))))))))
    (cs_one (cs_ret ce_bl))))
end
end K27

namespace K27
theorem good_law : Y.Good C.g_law_k27 63 := H.good_k27
end K27

namespace K27
open PySem PySem.Spec PyProof.Rows L2 Y
theorem all {l : PySem.W.OpenLaw} {w : World} {K : PySem.W.Frag} {h : Heap} {mg : Str → Option Value} {fa : Addr} (X : K.In h) (G : h.Ns mainGlobals mg) (hfa : mg "law" = some (.ref fa)) (hg : Good C.g_law_k27 63)
{f0 : Addr} {od0 an0 : Option Addr} {sl0 : Array (Option Value)} {oc0 kV0 dc0 pm0 cd0 ct0 : Value}
    (a0 : PySem.W.nsIn K mainGlobals "is_whole" = some (some (.ref f0))) (l0 : K.lookup f0 = some ⟨oc0, od0, .func (PySem.W.fnOf "is_whole" "is_whole" (defArgs s_is_whole) (defBody s_is_whole) (defScope s_is_whole) .none kV0 dc0 pm0 an0 cd0 ct0), sl0⟩) (c0 : PySem.W.codeIn K cd0 "is_whole" = true) (k0 : PySem.W.keepIn K (.ref f0) = true)
{f1 : Addr} {od1 an1 : Option Addr} {sl1 : Array (Option Value)} {oc1 kV1 dc1 pm1 cd1 ct1 : Value}
    (a1 : PySem.W.nsIn K mainGlobals "is_upto" = some (some (.ref f1))) (l1 : K.lookup f1 = some ⟨oc1, od1, .func (PySem.W.fnOf "is_upto" "is_upto" (defArgs s_is_upto) (defBody s_is_upto) (defScope s_is_upto) .none kV1 dc1 pm1 an1 cd1 ct1), sl1⟩) (c1 : PySem.W.codeIn K cd1 "is_upto" = true) (k1 : PySem.W.keepIn K (.ref f1) = true)
{f2 : Addr} {od2 an2 : Option Addr} {sl2 : Array (Option Value)} {oc2 kV2 dc2 pm2 cd2 ct2 : Value}
    (a2 : PySem.W.nsIn K mainGlobals "are_bits" = some (some (.ref f2))) (l2 : K.lookup f2 = some ⟨oc2, od2, .func (PySem.W.fnOf "are_bits" "are_bits" (defArgs s_are_bits) (defBody s_are_bits) (defScope s_are_bits) .none kV2 dc2 pm2 an2 cd2 ct2), sl2⟩) (c2 : PySem.W.codeIn K cd2 "are_bits" = true) (k2 : PySem.W.keepIn K (.ref f2) = true)
{f3 : Addr} {od3 an3 : Option Addr} {sl3 : Array (Option Value)} {oc3 kV3 dc3 pm3 cd3 ct3 : Value}
    (a3 : PySem.W.nsIn K mainGlobals "is_stand" = some (some (.ref f3))) (l3 : K.lookup f3 = some ⟨oc3, od3, .func (PySem.W.fnOf "is_stand" "is_stand" (defArgs s_is_stand) (defBody s_is_stand) (defScope s_is_stand) .none kV3 dc3 pm3 an3 cd3 ct3), sl3⟩) (c3 : PySem.W.codeIn K cd3 "is_stand" = true) (k3 : PySem.W.keepIn K (.ref f3) = true)
{f4 : Addr} {od4 an4 : Option Addr} {sl4 : Array (Option Value)} {oc4 kV4 dc4 pm4 cd4 ct4 : Value}
    (a4 : PySem.W.nsIn K mainGlobals "look_at_stand" = some (some (.ref f4))) (l4 : K.lookup f4 = some ⟨oc4, od4, .func (PySem.W.fnOf "look_at_stand" "look_at_stand" (defArgs s_look_at_stand) (defBody s_look_at_stand) (defScope s_look_at_stand) .none kV4 dc4 pm4 an4 cd4 ct4), sl4⟩) (c4 : PySem.W.codeIn K cd4 "look_at_stand" = true) (k4 : PySem.W.keepIn K (.ref f4) = true)
{f5 : Addr} {od5 an5 : Option Addr} {sl5 : Array (Option Value)} {oc5 kV5 dc5 pm5 cd5 ct5 : Value}
    (a5 : PySem.W.nsIn K mainGlobals "stands_of" = some (some (.ref f5))) (l5 : K.lookup f5 = some ⟨oc5, od5, .func (PySem.W.fnOf "stands_of" "stands_of" (defArgs s_stands_of) (defBody s_stands_of) (defScope s_stands_of) .none kV5 dc5 pm5 an5 cd5 ct5), sl5⟩) (c5 : PySem.W.codeIn K cd5 "stands_of" = true) (k5 : PySem.W.keepIn K (.ref f5) = true)
{f6 : Addr} {od6 an6 : Option Addr} {sl6 : Array (Option Value)} {oc6 kV6 dc6 pm6 cd6 ct6 : Value}
    (a6 : PySem.W.nsIn K mainGlobals "place_of" = some (some (.ref f6))) (l6 : K.lookup f6 = some ⟨oc6, od6, .func (PySem.W.fnOf "place_of" "place_of" (defArgs s_place_of) (defBody s_place_of) (defScope s_place_of) .none kV6 dc6 pm6 an6 cd6 ct6), sl6⟩) (c6 : PySem.W.codeIn K cd6 "place_of" = true) (k6 : PySem.W.keepIn K (.ref f6) = true)
{f7 : Addr} {od7 an7 : Option Addr} {sl7 : Array (Option Value)} {oc7 kV7 dc7 pm7 cd7 ct7 : Value}
    (a7 : PySem.W.nsIn K mainGlobals "ought" = some (some (.ref f7))) (l7 : K.lookup f7 = some ⟨oc7, od7, .func (PySem.W.fnOf "ought" "ought" (defArgs s_ought) (defBody s_ought) (defScope s_ought) .none kV7 dc7 pm7 an7 cd7 ct7), sl7⟩) (c7 : PySem.W.codeIn K cd7 "ought" = true) (k7 : PySem.W.keepIn K (.ref f7) = true)
{f8 : Addr} {od8 an8 : Option Addr} {sl8 : Array (Option Value)} {oc8 kV8 dc8 pm8 cd8 ct8 : Value}
    (a8 : PySem.W.nsIn K mainGlobals "with_bit" = some (some (.ref f8))) (l8 : K.lookup f8 = some ⟨oc8, od8, .func (PySem.W.fnOf "with_bit" "with_bit" (defArgs s_with_bit) (defBody s_with_bit) (defScope s_with_bit) .none kV8 dc8 pm8 an8 cd8 ct8), sl8⟩) (c8 : PySem.W.codeIn K cd8 "with_bit" = true) (k8 : PySem.W.keepIn K (.ref f8) = true)
{f9 : Addr} {od9 an9 : Option Addr} {sl9 : Array (Option Value)} {oc9 kV9 dc9 pm9 cd9 ct9 : Value}
    (a9 : PySem.W.nsIn K mainGlobals "wrong_ones" = some (some (.ref f9))) (l9 : K.lookup f9 = some ⟨oc9, od9, .func (PySem.W.fnOf "wrong_ones" "wrong_ones" (defArgs s_wrong_ones) (defBody s_wrong_ones) (defScope s_wrong_ones) .none kV9 dc9 pm9 an9 cd9 ct9), sl9⟩) (c9 : PySem.W.codeIn K cd9 "wrong_ones" = true) (k9 : PySem.W.keepIn K (.ref f9) = true)
{f10 : Addr} {od10 an10 : Option Addr} {sl10 : Array (Option Value)} {oc10 kV10 dc10 pm10 cd10 ct10 : Value}
    (a10 : PySem.W.nsIn K mainGlobals "in_rows" = some (some (.ref f10))) (l10 : K.lookup f10 = some ⟨oc10, od10, .func (PySem.W.fnOf "in_rows" "in_rows" (defArgs s_in_rows) (defBody s_in_rows) (defScope s_in_rows) .none kV10 dc10 pm10 an10 cd10 ct10), sl10⟩) (c10 : PySem.W.codeIn K cd10 "in_rows" = true) (k10 : PySem.W.keepIn K (.ref f10) = true)
{f11 : Addr} {od11 an11 : Option Addr} {sl11 : Array (Option Value)} {oc11 kV11 dc11 pm11 cd11 ct11 : Value}
    (a11 : PySem.W.nsIn K mainGlobals "told_at" = some (some (.ref f11))) (l11 : K.lookup f11 = some ⟨oc11, od11, .func (PySem.W.fnOf "told_at" "told_at" (defArgs s_told_at) (defBody s_told_at) (defScope s_told_at) .none kV11 dc11 pm11 an11 cd11 ct11), sl11⟩) (c11 : PySem.W.codeIn K cd11 "told_at" = true) (k11 : PySem.W.keepIn K (.ref f11) = true)
{f12 : Addr} {od12 an12 : Option Addr} {sl12 : Array (Option Value)} {oc12 kV12 dc12 pm12 cd12 ct12 : Value}
    (a12 : PySem.W.nsIn K mainGlobals "signs_at" = some (some (.ref f12))) (l12 : K.lookup f12 = some ⟨oc12, od12, .func (PySem.W.fnOf "signs_at" "signs_at" (defArgs s_signs_at) (defBody s_signs_at) (defScope s_signs_at) .none kV12 dc12 pm12 an12 cd12 ct12), sl12⟩) (c12 : PySem.W.codeIn K cd12 "signs_at" = true) (k12 : PySem.W.keepIn K (.ref f12) = true)
{f13 : Addr} {od13 an13 : Option Addr} {sl13 : Array (Option Value)} {oc13 kV13 dc13 pm13 cd13 ct13 : Value}
    (a13 : PySem.W.nsIn K mainGlobals "wires_of" = some (some (.ref f13))) (l13 : K.lookup f13 = some ⟨oc13, od13, .func (PySem.W.fnOf "wires_of" "wires_of" (defArgs s_wires_of) (defBody s_wires_of) (defScope s_wires_of) .none kV13 dc13 pm13 an13 cd13 ct13), sl13⟩) (c13 : PySem.W.codeIn K cd13 "wires_of" = true) (k13 : PySem.W.keepIn K (.ref f13) = true)
{f14 : Addr} {od14 an14 : Option Addr} {sl14 : Array (Option Value)} {oc14 kV14 dc14 pm14 cd14 ct14 : Value}
    (a14 : PySem.W.nsIn K mainGlobals "signs_between" = some (some (.ref f14))) (l14 : K.lookup f14 = some ⟨oc14, od14, .func (PySem.W.fnOf "signs_between" "signs_between" (defArgs s_signs_between) (defBody s_signs_between) (defScope s_signs_between) .none kV14 dc14 pm14 an14 cd14 ct14), sl14⟩) (c14 : PySem.W.codeIn K cd14 "signs_between" = true) (k14 : PySem.W.keepIn K (.ref f14) = true)
{f15 : Addr} {od15 an15 : Option Addr} {sl15 : Array (Option Value)} {oc15 kV15 dc15 pm15 cd15 ct15 : Value}
    (a15 : PySem.W.nsIn K mainGlobals "need_few" = some (some (.ref f15))) (l15 : K.lookup f15 = some ⟨oc15, od15, .func (PySem.W.fnOf "need_few" "need_few" (defArgs s_need_few) (defBody s_need_few) (defScope s_need_few) .none kV15 dc15 pm15 an15 cd15 ct15), sl15⟩) (c15 : PySem.W.codeIn K cd15 "need_few" = true) (k15 : PySem.W.keepIn K (.ref f15) = true)
{f16 : Addr} {od16 an16 : Option Addr} {sl16 : Array (Option Value)} {oc16 kV16 dc16 pm16 cd16 ct16 : Value}
    (a16 : PySem.W.nsIn K mainGlobals "steps_round" = some (some (.ref f16))) (l16 : K.lookup f16 = some ⟨oc16, od16, .func (PySem.W.fnOf "steps_round" "steps_round" (defArgs s_steps_round) (defBody s_steps_round) (defScope s_steps_round) .none kV16 dc16 pm16 an16 cd16 ct16), sl16⟩) (c16 : PySem.W.codeIn K cd16 "steps_round" = true) (k16 : PySem.W.keepIn K (.ref f16) = true)
{f17 : Addr} {od17 an17 : Option Addr} {sl17 : Array (Option Value)} {oc17 kV17 dc17 pm17 cd17 ct17 : Value}
    (a17 : PySem.W.nsIn K mainGlobals "is_round" = some (some (.ref f17))) (l17 : K.lookup f17 = some ⟨oc17, od17, .func (PySem.W.fnOf "is_round" "is_round" (defArgs s_is_round) (defBody s_is_round) (defScope s_is_round) .none kV17 dc17 pm17 an17 cd17 ct17), sl17⟩) (c17 : PySem.W.codeIn K cd17 "is_round" = true) (k17 : PySem.W.keepIn K (.ref f17) = true)
{f18 : Addr} {od18 an18 : Option Addr} {sl18 : Array (Option Value)} {oc18 kV18 dc18 pm18 cd18 ct18 : Value}
    (a18 : PySem.W.nsIn K mainGlobals "rings_with" = some (some (.ref f18))) (l18 : K.lookup f18 = some ⟨oc18, od18, .func (PySem.W.fnOf "rings_with" "rings_with" (defArgs s_rings_with) (defBody s_rings_with) (defScope s_rings_with) .none kV18 dc18 pm18 an18 cd18 ct18), sl18⟩) (c18 : PySem.W.codeIn K cd18 "rings_with" = true) (k18 : PySem.W.keepIn K (.ref f18) = true)
{f19 : Addr} {od19 an19 : Option Addr} {sl19 : Array (Option Value)} {oc19 kV19 dc19 pm19 cd19 ct19 : Value}
    (a19 : PySem.W.nsIn K mainGlobals "rings_of" = some (some (.ref f19))) (l19 : K.lookup f19 = some ⟨oc19, od19, .func (PySem.W.fnOf "rings_of" "rings_of" (defArgs s_rings_of) (defBody s_rings_of) (defScope s_rings_of) .none kV19 dc19 pm19 an19 cd19 ct19), sl19⟩) (c19 : PySem.W.codeIn K cd19 "rings_of" = true) (k19 : PySem.W.keepIn K (.ref f19) = true)
{f20 : Addr} {od20 an20 : Option Addr} {sl20 : Array (Option Value)} {oc20 kV20 dc20 pm20 cd20 ct20 : Value}
    (a20 : PySem.W.nsIn K mainGlobals "are_switches" = some (some (.ref f20))) (l20 : K.lookup f20 = some ⟨oc20, od20, .func (PySem.W.fnOf "are_switches" "are_switches" (defArgs s_are_switches) (defBody s_are_switches) (defScope s_are_switches) .none kV20 dc20 pm20 an20 cd20 ct20), sl20⟩) (c20 : PySem.W.codeIn K cd20 "are_switches" = true) (k20 : PySem.W.keepIn K (.ref f20) = true)
{f21 : Addr} {od21 an21 : Option Addr} {sl21 : Array (Option Value)} {oc21 kV21 dc21 pm21 cd21 ct21 : Value}
    (a21 : PySem.W.nsIn K mainGlobals "is_ring" = some (some (.ref f21))) (l21 : K.lookup f21 = some ⟨oc21, od21, .func (PySem.W.fnOf "is_ring" "is_ring" (defArgs s_is_ring) (defBody s_is_ring) (defScope s_is_ring) .none kV21 dc21 pm21 an21 cd21 ct21), sl21⟩) (c21 : PySem.W.codeIn K cd21 "is_ring" = true) (k21 : PySem.W.keepIn K (.ref f21) = true)
{f22 : Addr} {od22 an22 : Option Addr} {sl22 : Array (Option Value)} {oc22 kV22 dc22 pm22 cd22 ct22 : Value}
    (a22 : PySem.W.nsIn K mainGlobals "signs_on" = some (some (.ref f22))) (l22 : K.lookup f22 = some ⟨oc22, od22, .func (PySem.W.fnOf "signs_on" "signs_on" (defArgs s_signs_on) (defBody s_signs_on) (defScope s_signs_on) .none kV22 dc22 pm22 an22 cd22 ct22), sl22⟩) (c22 : PySem.W.codeIn K cd22 "signs_on" = true) (k22 : PySem.W.keepIn K (.ref f22) = true)
{f23 : Addr} {od23 an23 : Option Addr} {sl23 : Array (Option Value)} {oc23 kV23 dc23 pm23 cd23 ct23 : Value}
    (a23 : PySem.W.nsIn K mainGlobals "signs_of" = some (some (.ref f23))) (l23 : K.lookup f23 = some ⟨oc23, od23, .func (PySem.W.fnOf "signs_of" "signs_of" (defArgs s_signs_of) (defBody s_signs_of) (defScope s_signs_of) .none kV23 dc23 pm23 an23 cd23 ct23), sl23⟩) (c23 : PySem.W.codeIn K cd23 "signs_of" = true) (k23 : PySem.W.keepIn K (.ref f23) = true)
{f24 : Addr} {od24 an24 : Option Addr} {sl24 : Array (Option Value)} {oc24 kV24 dc24 pm24 cd24 ct24 : Value}
    (a24 : PySem.W.nsIn K mainGlobals "next_free" = some (some (.ref f24))) (l24 : K.lookup f24 = some ⟨oc24, od24, .func (PySem.W.fnOf "next_free" "next_free" (defArgs s_next_free) (defBody s_next_free) (defScope s_next_free) .none kV24 dc24 pm24 an24 cd24 ct24), sl24⟩) (c24 : PySem.W.codeIn K cd24 "next_free" = true) (k24 : PySem.W.keepIn K (.ref f24) = true)
{f25 : Addr} {od25 an25 : Option Addr} {sl25 : Array (Option Value)} {oc25 kV25 dc25 pm25 cd25 ct25 : Value}
    (a25 : PySem.W.nsIn K mainGlobals "order_paper" = some (some (.ref f25))) (l25 : K.lookup f25 = some ⟨oc25, od25, .func (PySem.W.fnOf "order_paper" "order_paper" (defArgs s_order_paper) (defBody s_order_paper) (defScope s_order_paper) .none kV25 dc25 pm25 an25 cd25 ct25), sl25⟩) (c25 : PySem.W.codeIn K cd25 "order_paper" = true) (k25 : PySem.W.keepIn K (.ref f25) = true)
{f26 : Addr} {od26 an26 : Option Addr} {sl26 : Array (Option Value)} {oc26 kV26 dc26 pm26 cd26 ct26 : Value}
    (a26 : PySem.W.nsIn K mainGlobals "changed" = some (some (.ref f26))) (l26 : K.lookup f26 = some ⟨oc26, od26, .func (PySem.W.fnOf "changed" "changed" (defArgs s_changed) (defBody s_changed) (defScope s_changed) .none kV26 dc26 pm26 an26 cd26 ct26), sl26⟩) (c26 : PySem.W.codeIn K cd26 "changed" = true) (k26 : PySem.W.keepIn K (.ref f26) = true)
{f27 : Addr} {od27 an27 : Option Addr} {sl27 : Array (Option Value)} {oc27 kV27 dc27 pm27 cd27 ct27 : Value}
    (a27 : PySem.W.nsIn K mainGlobals "steps_from" = some (some (.ref f27))) (l27 : K.lookup f27 = some ⟨oc27, od27, .func (PySem.W.fnOf "steps_from" "steps_from" (defArgs s_steps_from) (defBody s_steps_from) (defScope s_steps_from) .none kV27 dc27 pm27 an27 cd27 ct27), sl27⟩) (c27 : PySem.W.codeIn K cd27 "steps_from" = true) (k27 : PySem.W.keepIn K (.ref f27) = true)
{f28 : Addr} {od28 an28 : Option Addr} {sl28 : Array (Option Value)} {oc28 kV28 dc28 pm28 cd28 ct28 : Value}
    (a28 : PySem.W.nsIn K mainGlobals "search_from" = some (some (.ref f28))) (l28 : K.lookup f28 = some ⟨oc28, od28, .func (PySem.W.fnOf "search_from" "search_from" (defArgs s_search_from) (defBody s_search_from) (defScope s_search_from) .none kV28 dc28 pm28 an28 cd28 ct28), sl28⟩) (c28 : PySem.W.codeIn K cd28 "search_from" = true) (k28 : PySem.W.keepIn K (.ref f28) = true)
{f29 : Addr} {od29 an29 : Option Addr} {sl29 : Array (Option Value)} {oc29 kV29 dc29 pm29 cd29 ct29 : Value}
    (a29 : PySem.W.nsIn K mainGlobals "comes_to" = some (some (.ref f29))) (l29 : K.lookup f29 = some ⟨oc29, od29, .func (PySem.W.fnOf "comes_to" "comes_to" (defArgs s_comes_to) (defBody s_comes_to) (defScope s_comes_to) .none kV29 dc29 pm29 an29 cd29 ct29), sl29⟩) (c29 : PySem.W.codeIn K cd29 "comes_to" = true) (k29 : PySem.W.keepIn K (.ref f29) = true)
{f30 : Addr} {od30 an30 : Option Addr} {sl30 : Array (Option Value)} {oc30 kV30 dc30 pm30 cd30 ct30 : Value}
    (a30 : PySem.W.nsIn K mainGlobals "way_of" = some (some (.ref f30))) (l30 : K.lookup f30 = some ⟨oc30, od30, .func (PySem.W.fnOf "way_of" "way_of" (defArgs s_way_of) (defBody s_way_of) (defScope s_way_of) .none kV30 dc30 pm30 an30 cd30 ct30), sl30⟩) (c30 : PySem.W.codeIn K cd30 "way_of" = true) (k30 : PySem.W.keepIn K (.ref f30) = true)
{f31 : Addr} {od31 an31 : Option Addr} {sl31 : Array (Option Value)} {oc31 kV31 dc31 pm31 cd31 ct31 : Value}
    (a31 : PySem.W.nsIn K mainGlobals "reached" = some (some (.ref f31))) (l31 : K.lookup f31 = some ⟨oc31, od31, .func (PySem.W.fnOf "reached" "reached" (defArgs s_reached) (defBody s_reached) (defScope s_reached) .none kV31 dc31 pm31 an31 cd31 ct31), sl31⟩) (c31 : PySem.W.codeIn K cd31 "reached" = true) (k31 : PySem.W.keepIn K (.ref f31) = true)
{f32 : Addr} {od32 an32 : Option Addr} {sl32 : Array (Option Value)} {oc32 kV32 dc32 pm32 cd32 ct32 : Value}
    (a32 : PySem.W.nsIn K mainGlobals "dens_among" = some (some (.ref f32))) (l32 : K.lookup f32 = some ⟨oc32, od32, .func (PySem.W.fnOf "dens_among" "dens_among" (defArgs s_dens_among) (defBody s_dens_among) (defScope s_dens_among) .none kV32 dc32 pm32 an32 cd32 ct32), sl32⟩) (c32 : PySem.W.codeIn K cd32 "dens_among" = true) (k32 : PySem.W.keepIn K (.ref f32) = true)
{f33 : Addr} {od33 an33 : Option Addr} {sl33 : Array (Option Value)} {oc33 kV33 dc33 pm33 cd33 ct33 : Value}
    (a33 : PySem.W.nsIn K mainGlobals "dens_of" = some (some (.ref f33))) (l33 : K.lookup f33 = some ⟨oc33, od33, .func (PySem.W.fnOf "dens_of" "dens_of" (defArgs s_dens_of) (defBody s_dens_of) (defScope s_dens_of) .none kV33 dc33 pm33 an33 cd33 ct33), sl33⟩) (c33 : PySem.W.codeIn K cd33 "dens_of" = true) (k33 : PySem.W.keepIn K (.ref f33) = true)
{f34 : Addr} {od34 an34 : Option Addr} {sl34 : Array (Option Value)} {oc34 kV34 dc34 pm34 cd34 ct34 : Value}
    (a34 : PySem.W.nsIn K mainGlobals "rests_of" = some (some (.ref f34))) (l34 : K.lookup f34 = some ⟨oc34, od34, .func (PySem.W.fnOf "rests_of" "rests_of" (defArgs s_rests_of) (defBody s_rests_of) (defScope s_rests_of) .none kV34 dc34 pm34 an34 cd34 ct34), sl34⟩) (c34 : PySem.W.codeIn K cd34 "rests_of" = true) (k34 : PySem.W.keepIn K (.ref f34) = true)
{f35 : Addr} {od35 an35 : Option Addr} {sl35 : Array (Option Value)} {oc35 kV35 dc35 pm35 cd35 ct35 : Value}
    (a35 : PySem.W.nsIn K mainGlobals "_law_cell" = some (some (.ref f35))) (l35 : K.lookup f35 = some ⟨oc35, od35, .func (PySem.W.fnOf "_law_cell" "_law_cell" (defArgs s__law_cell) (defBody s__law_cell) (defScope s__law_cell) .none kV35 dc35 pm35 an35 cd35 ct35), sl35⟩) (c35 : PySem.W.codeIn K cd35 "_law_cell" = true) (k35 : PySem.W.keepIn K (.ref f35) = true)
{f36 : Addr} {od36 an36 : Option Addr} {sl36 : Array (Option Value)} {oc36 kV36 dc36 pm36 cd36 ct36 : Value}
    (a36 : PySem.W.nsIn K mainGlobals "_law_box" = some (some (.ref f36))) (l36 : K.lookup f36 = some ⟨oc36, od36, .func (PySem.W.fnOf "_law_box" "_law_box" (defArgs s__law_box) (defBody s__law_box) (defScope s__law_box) .none kV36 dc36 pm36 an36 cd36 ct36), sl36⟩) (c36 : PySem.W.codeIn K cd36 "_law_box" = true) (k36 : PySem.W.keepIn K (.ref f36) = true)
{f37 : Addr} {od37 an37 : Option Addr} {sl37 : Array (Option Value)} {oc37 kV37 dc37 pm37 cd37 ct37 : Value}
    (a37 : PySem.W.nsIn K mainGlobals "_law_take" = some (some (.ref f37))) (l37 : K.lookup f37 = some ⟨oc37, od37, .func (PySem.W.fnOf "_law_take" "_law_take" (defArgs s__law_take) (defBody s__law_take) (defScope s__law_take) .none kV37 dc37 pm37 an37 cd37 ct37), sl37⟩) (c37 : PySem.W.codeIn K cd37 "_law_take" = true) (k37 : PySem.W.keepIn K (.ref f37) = true)
{f38 : Addr} {od38 an38 : Option Addr} {sl38 : Array (Option Value)} {oc38 kV38 dc38 pm38 cd38 ct38 : Value}
    (a38 : PySem.W.nsIn K mainGlobals "_law_readings" = some (some (.ref f38))) (l38 : K.lookup f38 = some ⟨oc38, od38, .func (PySem.W.fnOf "_law_readings" "_law_readings" (defArgs s__law_readings) (defBody s__law_readings) (defScope s__law_readings) .none kV38 dc38 pm38 an38 cd38 ct38), sl38⟩) (c38 : PySem.W.codeIn K cd38 "_law_readings" = true) (k38 : PySem.W.keepIn K (.ref f38) = true)
{f39 : Addr} {od39 an39 : Option Addr} {sl39 : Array (Option Value)} {oc39 kV39 dc39 pm39 cd39 ct39 : Value}
    (a39 : PySem.W.nsIn K mainGlobals "_law_rule" = some (some (.ref f39))) (l39 : K.lookup f39 = some ⟨oc39, od39, .func (PySem.W.fnOf "_law_rule" "_law_rule" (defArgs s__law_rule) (defBody s__law_rule) (defScope s__law_rule) .none kV39 dc39 pm39 an39 cd39 ct39), sl39⟩) (c39 : PySem.W.codeIn K cd39 "_law_rule" = true) (k39 : PySem.W.keepIn K (.ref f39) = true)
{f40 : Addr} {od40 an40 : Option Addr} {sl40 : Array (Option Value)} {oc40 kV40 dc40 pm40 cd40 ct40 : Value}
    (a40 : PySem.W.nsIn K mainGlobals "_law_drawn" = some (some (.ref f40))) (l40 : K.lookup f40 = some ⟨oc40, od40, .func (PySem.W.fnOf "_law_drawn" "_law_drawn" (defArgs s__law_drawn) (defBody s__law_drawn) (defScope s__law_drawn) .none kV40 dc40 pm40 an40 cd40 ct40), sl40⟩) (c40 : PySem.W.codeIn K cd40 "_law_drawn" = true) (k40 : PySem.W.keepIn K (.ref f40) = true)
{f41 : Addr} {od41 an41 : Option Addr} {sl41 : Array (Option Value)} {oc41 kV41 dc41 pm41 cd41 ct41 : Value}
    (a41 : PySem.W.nsIn K mainGlobals "_law_ringless" = some (some (.ref f41))) (l41 : K.lookup f41 = some ⟨oc41, od41, .func (PySem.W.fnOf "_law_ringless" "_law_ringless" (defArgs s__law_ringless) (defBody s__law_ringless) (defScope s__law_ringless) .none kV41 dc41 pm41 an41 cd41 ct41), sl41⟩) (c41 : PySem.W.codeIn K cd41 "_law_ringless" = true) (k41 : PySem.W.keepIn K (.ref f41) = true)
{f42 : Addr} {od42 an42 : Option Addr} {sl42 : Array (Option Value)} {oc42 kV42 dc42 pm42 cd42 ct42 : Value}
    (a42 : PySem.W.nsIn K mainGlobals "law" = some (some (.ref f42))) (l42 : K.lookup f42 = some ⟨oc42, od42, .func (PySem.W.fnOf "law" "law" (defArgs s_law) (defBody s_law) (defScope s_law) .none kV42 dc42 pm42 an42 cd42 ct42), sl42⟩) (c42 : PySem.W.codeIn K cd42 "law" = true) (k42 : PySem.W.keepIn K (.ref f42) = true)
    {tk0 : Tok} (u0 : PySem.W.nsIn K mainGlobals "MOST_LOOKED" = some (some (.int 6 tk0)))
    {C0 : Addr} (x0 : PySem.W.nsIn K mainGlobals "NoOrder" = some (some (.ref C0))) (xe0 : PySem.W.excIn K C0 Y.veB "ValueError.__new__" = true) (xk0 : PySem.W.keepIn K (.ref C0) = true) (xb0 : PySem.W.subIn K (.ref C0) (.type "BaseException") = some true) (xt0 : PySem.W.typeIn K (.ref C0) = some (.type "type"))
    {C1 : Addr} (x1 : PySem.W.nsIn K mainGlobals "NoStand" = some (some (.ref C1))) (xe1 : PySem.W.excIn K C1 Y.veB "ValueError.__new__" = true) (xk1 : PySem.W.keepIn K (.ref C1) = true) (xb1 : PySem.W.subIn K (.ref C1) (.type "BaseException") = some true) (xt1 : PySem.W.typeIn K (.ref C1) = some (.type "type"))
    {C2 : Addr} (x2 : PySem.W.nsIn K mainGlobals "TooMany" = some (some (.ref C2))) (xe2 : PySem.W.excIn K C2 Y.veB "ValueError.__new__" = true) (xk2 : PySem.W.keepIn K (.ref C2) = true) (xb2 : PySem.W.subIn K (.ref C2) (.type "BaseException") = some true) (xt2 : PySem.W.typeIn K (.ref C2) = some (.type "type"))
    (z0 : PySem.W.nsIn K mainGlobals "all" = some none)
    (z1 : PySem.W.nsIn K mainGlobals "any" = some none)
    (z2 : PySem.W.nsIn K mainGlobals "bool" = some none)
    (z3 : PySem.W.nsIn K mainGlobals "enumerate" = some none)
    (z4 : PySem.W.nsIn K mainGlobals "int" = some none)
    (z5 : PySem.W.nsIn K mainGlobals "isinstance" = some none)
    (z6 : PySem.W.nsIn K mainGlobals "len" = some none)
    (z7 : PySem.W.nsIn K mainGlobals "list" = some none)
    (z8 : PySem.W.nsIn K mainGlobals "max" = some none)
    (z9 : PySem.W.nsIn K mainGlobals "min" = some none)
    (z10 : PySem.W.nsIn K mainGlobals "range" = some none)
    (z11 : PySem.W.nsIn K mainGlobals "reversed" = some none)
    (z12 : PySem.W.nsIn K mainGlobals "set" = some none)
    (z13 : PySem.W.nsIn K mainGlobals "sorted" = some none)
    (z14 : PySem.W.nsIn K mainGlobals "tuple" = some none)
    (z15 : PySem.W.nsIn K mainGlobals "zip" = some none)
    : ∃ fd : FuncData, (∀ (s : Shared) (u : Value), BindsTo s fd ⟨[u], []⟩ [("script", u)]) ∧ ∀ base : Heap, K.In base → base.Ns mainGlobals mg → FnOk l.prog w K mg base (L2N.CX l.prog w) 45 fa fd ["script"] (spL K 63) :=
  have T : Txt K mg := ⟨def_mk X G a0 l0 c0 k0, def_mk X G a1 l1 c1 k1, def_mk X G a2 l2 c2 k2, def_mk X G a3 l3 c3 k3, def_mk X G a4 l4 c4 k4, def_mk X G a5 l5 c5 k5, def_mk X G a6 l6 c6 k6, def_mk X G a7 l7 c7 k7, def_mk X G a8 l8 c8 k8, def_mk X G a9 l9 c9 k9, def_mk X G a10 l10 c10 k10, def_mk X G a11 l11 c11 k11, def_mk X G a12 l12 c12 k12, def_mk X G a13 l13 c13 k13, def_mk X G a14 l14 c14 k14, def_mk X G a15 l15 c15 k15, def_mk X G a16 l16 c16 k16, def_mk X G a17 l17 c17 k17, def_mk X G a18 l18 c18 k18, def_mk X G a19 l19 c19 k19, def_mk X G a20 l20 c20 k20, def_mk X G a21 l21 c21 k21, def_mk X G a22 l22 c22 k22, def_mk X G a23 l23 c23 k23, def_mk X G a24 l24 c24 k24, def_mk X G a25 l25 c25 k25, def_mk X G a26 l26 c26 k26, def_mk X G a27 l27 c27 k27, def_mk X G a28 l28 c28 k28, def_mk X G a29 l29 c29 k29, def_mk X G a30 l30 c30 k30, def_mk X G a31 l31 c31 k31, def_mk X G a32 l32 c32 k32, def_mk X G a33 l33 c33 k33, def_mk X G a34 l34 c34 k34, def_mk X G a35 l35 c35 k35, def_mk X G a36 l36 c36 k36, def_mk X G a37 l37 c37 k37, def_mk X G a38 l38 c38 k38, def_mk X G a39 l39 c39 k39, def_mk X G a40 l40 c40 k40, def_mk X G a41 l41 c41 k41, ⟨_, PySem.W.mg_of X G u0⟩, ⟨⟨_, PySem.W.mg_of X G x0, xe0, xk0, xb0, xt0⟩⟩, ⟨⟨_, PySem.W.mg_of X G x1, xe1, xk1, xb1, xt1⟩⟩, ⟨⟨_, PySem.W.mg_of X G x2, xe2, xk2, xb2, xt2⟩⟩, PySem.W.mg_none_of X G z0, PySem.W.mg_none_of X G z1, PySem.W.mg_none_of X G z2, PySem.W.mg_none_of X G z3, PySem.W.mg_none_of X G z4, PySem.W.mg_none_of X G z5, PySem.W.mg_none_of X G z6, PySem.W.mg_none_of X G z7, PySem.W.mg_none_of X G z8, PySem.W.mg_none_of X G z9, PySem.W.mg_none_of X G z10, PySem.W.mg_none_of X G z11, PySem.W.mg_none_of X G z12, PySem.W.mg_none_of X G z13, PySem.W.mg_none_of X G z14, PySem.W.mg_none_of X G z15⟩
  law_all X G hfa hg (fun base {f} {fd} F => ok_law T F) (fun _ _ _ _ _ _ s u => .of_eq rfl) a42 l42 c42 k42
end K27
open PySem PySem.W PyProof.Rows
set_option maxHeartbeats 0 in
theorem PySem.Challenge.cw_switchnets_k27_whole_rings_and_dens_holds : PySem.Challenge.rw_switchnets_k27_whole_rings_and_dens.Holds := by
  w_on; o_law; k_head; (case hw => w_witness2)
  k_fill
  refine L2.walk_ofB (l := PySem.Challenge.rw_switchnets_k27_whole_rings_and_dens) (n := 63) (k := 45) (x := "script") (CX := fun w => L2N.CX PySem.Challenge.rw_switchnets_k27_whole_rings_and_dens.prog w) (sp := fun w => Y.spL _ 63) rfl (by decide) rfl ⟨rfl, by decide, by decide⟩ (fun w h Z => PySem.W.kIn_of Z) ?F (fun _ _ a ns hl hb _ hS => ⟨a, ns, rfl, hS, hl, hb, fun _ => rfl⟩) (fun _ _ _ _ _ h => Y.cx_none h)
  case F =>
    intro w mg fa h KX G hmg
    refine' K27.all KX G hmg K27.good_law ?a0 ?l0 ?c0 ?k0 ?a1 ?l1 ?c1 ?k1 ?a2 ?l2 ?c2 ?k2 ?a3 ?l3 ?c3 ?k3 ?a4 ?l4 ?c4 ?k4 ?a5 ?l5 ?c5 ?k5 ?a6 ?l6 ?c6 ?k6 ?a7 ?l7 ?c7 ?k7 ?a8 ?l8 ?c8 ?k8 ?a9 ?l9 ?c9 ?k9 ?a10 ?l10 ?c10 ?k10 ?a11 ?l11 ?c11 ?k11 ?a12 ?l12 ?c12 ?k12 ?a13 ?l13 ?c13 ?k13 ?a14 ?l14 ?c14 ?k14 ?a15 ?l15 ?c15 ?k15 ?a16 ?l16 ?c16 ?k16 ?a17 ?l17 ?c17 ?k17 ?a18 ?l18 ?c18 ?k18 ?a19 ?l19 ?c19 ?k19 ?a20 ?l20 ?c20 ?k20 ?a21 ?l21 ?c21 ?k21 ?a22 ?l22 ?c22 ?k22 ?a23 ?l23 ?c23 ?k23 ?a24 ?l24 ?c24 ?k24 ?a25 ?l25 ?c25 ?k25 ?a26 ?l26 ?c26 ?k26 ?a27 ?l27 ?c27 ?k27 ?a28 ?l28 ?c28 ?k28 ?a29 ?l29 ?c29 ?k29 ?a30 ?l30 ?c30 ?k30 ?a31 ?l31 ?c31 ?k31 ?a32 ?l32 ?c32 ?k32 ?a33 ?l33 ?c33 ?k33 ?a34 ?l34 ?c34 ?k34 ?a35 ?l35 ?c35 ?k35 ?a36 ?l36 ?c36 ?k36 ?a37 ?l37 ?c37 ?k37 ?a38 ?l38 ?c38 ?k38 ?a39 ?l39 ?c39 ?k39 ?a40 ?l40 ?c40 ?k40 ?a41 ?l41 ?c41 ?k41 ?a42 ?l42 ?c42 ?k42 ?u0 ?x0 ?xe0 ?xk0 ?xb0 ?xt0 ?x1 ?xe1 ?xk1 ?xb1 ?xt1 ?x2 ?xe2 ?xk2 ?xb2 ?xt2 ?z0 ?z1 ?z2 ?z3 ?z4 ?z5 ?z6 ?z7 ?z8 ?z9 ?z10 ?z11 ?z12 ?z13 ?z14 ?z15
    (case a0 => k_is); (case l0 => k_is); (case c0 => k_is); (case k0 => k_is); (case a1 => k_is); (case l1 => k_is); (case c1 => k_is); (case k1 => k_is); (case a2 => k_is); (case l2 => k_is); (case c2 => k_is); (case k2 => k_is); (case a3 => k_is); (case l3 => k_is); (case c3 => k_is); (case k3 => k_is); (case a4 => k_is); (case l4 => k_is); (case c4 => k_is); (case k4 => k_is); (case a5 => k_is); (case l5 => k_is); (case c5 => k_is); (case k5 => k_is); (case a6 => k_is); (case l6 => k_is); (case c6 => k_is); (case k6 => k_is); (case a7 => k_is); (case l7 => k_is); (case c7 => k_is); (case k7 => k_is); (case a8 => k_is); (case l8 => k_is); (case c8 => k_is); (case k8 => k_is); (case a9 => k_is); (case l9 => k_is); (case c9 => k_is); (case k9 => k_is); (case a10 => k_is); (case l10 => k_is); (case c10 => k_is); (case k10 => k_is); (case a11 => k_is); (case l11 => k_is); (case c11 => k_is); (case k11 => k_is); (case a12 => k_is); (case l12 => k_is); (case c12 => k_is); (case k12 => k_is); (case a13 => k_is); (case l13 => k_is); (case c13 => k_is); (case k13 => k_is); (case a14 => k_is); (case l14 => k_is); (case c14 => k_is); (case k14 => k_is); (case a15 => k_is); (case l15 => k_is); (case c15 => k_is); (case k15 => k_is); (case a16 => k_is); (case l16 => k_is); (case c16 => k_is); (case k16 => k_is); (case a17 => k_is); (case l17 => k_is); (case c17 => k_is); (case k17 => k_is); (case a18 => k_is); (case l18 => k_is); (case c18 => k_is); (case k18 => k_is); (case a19 => k_is); (case l19 => k_is); (case c19 => k_is); (case k19 => k_is); (case a20 => k_is); (case l20 => k_is); (case c20 => k_is); (case k20 => k_is); (case a21 => k_is); (case l21 => k_is); (case c21 => k_is); (case k21 => k_is); (case a22 => k_is); (case l22 => k_is); (case c22 => k_is); (case k22 => k_is); (case a23 => k_is); (case l23 => k_is); (case c23 => k_is); (case k23 => k_is); (case a24 => k_is); (case l24 => k_is); (case c24 => k_is); (case k24 => k_is); (case a25 => k_is); (case l25 => k_is); (case c25 => k_is); (case k25 => k_is); (case a26 => k_is); (case l26 => k_is); (case c26 => k_is); (case k26 => k_is); (case a27 => k_is); (case l27 => k_is); (case c27 => k_is); (case k27 => k_is); (case a28 => k_is); (case l28 => k_is); (case c28 => k_is); (case k28 => k_is); (case a29 => k_is); (case l29 => k_is); (case c29 => k_is); (case k29 => k_is); (case a30 => k_is); (case l30 => k_is); (case c30 => k_is); (case k30 => k_is); (case a31 => k_is); (case l31 => k_is); (case c31 => k_is); (case k31 => k_is); (case a32 => k_is); (case l32 => k_is); (case c32 => k_is); (case k32 => k_is); (case a33 => k_is); (case l33 => k_is); (case c33 => k_is); (case k33 => k_is); (case a34 => k_is); (case l34 => k_is); (case c34 => k_is); (case k34 => k_is); (case a35 => k_is); (case l35 => k_is); (case c35 => k_is); (case k35 => k_is); (case a36 => k_is); (case l36 => k_is); (case c36 => k_is); (case k36 => k_is); (case a37 => k_is); (case l37 => k_is); (case c37 => k_is); (case k37 => k_is); (case a38 => k_is); (case l38 => k_is); (case c38 => k_is); (case k38 => k_is); (case a39 => k_is); (case l39 => k_is); (case c39 => k_is); (case k39 => k_is); (case a40 => k_is); (case l40 => k_is); (case c40 => k_is); (case k40 => k_is); (case a41 => k_is); (case l41 => k_is); (case c41 => k_is); (case k41 => k_is); (case a42 => k_is); (case l42 => k_is); (case c42 => k_is); (case k42 => k_is); (case u0 => k_is); (case x0 => k_is); (case xe0 => k_exc); (case xk0 => k_is); (case xb0 => k_is); (case xt0 => k_is); (case x1 => k_is); (case xe1 => k_exc); (case xk1 => k_is); (case xb1 => k_is); (case xt1 => k_is); (case x2 => k_is); (case xe2 => k_exc); (case xk2 => k_is); (case xb2 => k_is); (case xt2 => k_is); (case z0 => k_is); (case z1 => k_is); (case z2 => k_is); (case z3 => k_is); (case z4 => k_is); (case z5 => k_is); (case z6 => k_is); (case z7 => k_is); (case z8 => k_is); (case z9 => k_is); (case z10 => k_is); (case z11 => k_is); (case z12 => k_is); (case z13 => k_is); (case z14 => k_is); (case z15 => k_is)

