import PyProof.Rows.All
import Wide.All
import OpenK.AllK
import Wide.FinOn
import HandS.ForMost
import HandS.TupAny
import HandS.Wide
import HandS.IsInst
import HandS.Deep
import HandS.Flow
import HandS.TupMul
import HandS.TupLe
import HandS.TupLen
import HandS.SortOrd
import HandS.SortInts
import HandS.Walk
import HandS.Zip
import HandS.ForExc
import HandS.EndBits
import HandS.ExcCtx
import HandS.HotCalls
import HandS.Conv
import HandS.SortRule
import KE.KSortTup
import PyProof.Rows.SortShell
import PyProof.Rows.SortShellAny
import HandS.Text
import PyProof.AutoSeq1
import KE.GoesZip
import KE.GoesMore
import KE.GoesEnum
import HandS.ExcIs
import HandS.SetFor
import HandS.Strs
import HandS.Replace
import KE.KRevSl
import HandS.Dict
import HandS.Iter
import KE.KDictWalk
import KE.KEqDict
import KE.KDictSum
import KE.KDictCopyH
import HandS.More
import KE.SortData
import KE.KDictDisplayH
import HandS.SetKeys
import PyProof.WalksMore
import PyProof.SumAny
import KE.KDictZip
import KE.KDictItemsList
import HandS.ListItems
import KE.DataMinMax
import KE.KDictKeyed
import PySem.Challenge.RW_switchnets_k03_what_rules_tell
set_option Elab.async false
set_option linter.all false
set_option maxRecDepth 100000
namespace Y
open PySem PySem.Spec PyProof.Rows L2
abbrev St := L2.St

/-! ### data, results -/
/-- data at any depth; lists, dicts by what they hold; arg: the script -/
inductive D where
  | non | bl (b : Bool) | int (i : Int) | str (x : Str) | tup (xs : List D) | lst (xs : List D)
  | arg (ns : List Int) | dik (ks : List Key) (ds : List D) | dit (ks : List (List Key)) (ds : List D)
instance : Inhabited D := ⟨.non⟩
/-- a way of a run: an end, an exception of the program's own, anything else -/
inductive R (α : Type) where
  | ok (a : α) | er (c : Str) (ds : List D) | stk
@[simp] def R.bind {α β : Type} : R α → (α → R β) → R β
  | .ok a, f => f a
  | .er c ds, _ => .er c ds
  | .stk, _ => .stk
instance : Monad R where
  pure := .ok
  bind := R.bind
@[simp] theorem R.bind_ok {α β : Type} (a : α) (f : α → R β) : (R.ok a >>= f) = f a := id rfl
@[simp] theorem R.bind_stk {α β : Type} (f : α → R β) : ((R.stk : R α) >>= f) = .stk := id rfl
@[simp] theorem R.bind_er {α β : Type} (c : Str) (ds : List D) (f : α → R β) : ((R.er c ds : R α) >>= f) = .er c ds := id rfl
@[simp] theorem R.pure_eq {α : Type} (a : α) : (pure a : R α) = .ok a := id rfl
theorem R.bind_assoc {α β γ : Type} (x : R α) (f : α → R β) (g : β → R γ) : (x >>= f >>= g) = (x >>= fun a => f a >>= g) := by cases x <;> rfl
/-- the names' data by slot -/
abbrev Env := List (Option D)
/-- what an expression hands on: new data, data, or the object of an own slot -/
inductive Hd where
  | fr (d : D) | vl (d : D) | ow (i : Nat)
abbrev EM := Env → R (Hd × Env)
def look (i : Nat) (ρ : Env) : R D := match ρ[i]? with
  | some (some d) => .ok d
  | _ => .stk
def Hd.d : Hd → Env → R D
  | .fr d, _ => .ok d
  | .vl d, _ => .ok d
  | .ow i, ρ => look i ρ
def Hd.v : Hd → R D
  | .fr d => .ok d
  | .vl d => .ok d
  | .ow _ => .stk
def D.isMu : D → Bool
  | .lst _ => true
  | .dik _ _ => true
  | .dit _ _ => true
  | .arg _ => true
  | _ => false

/-! ### the heap -/
abbrev Pr := Addr → Prop
mutual
/-- v is d, over objects none of which is forbidden (tuples never change: they may be any) -/
def Rep (K : PySem.W.Frag) (H : Hp) : D → Pr → V → Prop
  | .non, _, v => v = .non
  | .bl b, _, v => v = .bl b
  | .int i, _, v => v = .int i
  | .str x, _, v => v = .str x
  | .tup ds, P, v => ∃ a vs, v = .ref a ∧ H a = some (.tup vs) ∧ Reps K H ds P vs
  | .lst ds, P, v => ∃ a vs, v = .ref a ∧ ¬ P a ∧ H a = some (.lst vs) ∧ Reps K H ds (fun b => P b ∨ b = a) vs
  | .arg ns, P, v => ∃ a, v = .ref a ∧ ((¬ P a ∧ Rd H a (.lst (ns.map V.int))) ∨ SqL K (fun _ => none) a (ns.map V.int))
  | .dik ks ds, P, v => ∃ a vs, v = .ref a ∧ ¬ P a ∧ ks.length = vs.length ∧ Rd H a (.dK (ks.zip vs)) ∧ Reps K H ds (fun b => P b ∨ b = a) vs
  | .dit ks ds, P, v => ∃ a vs, v = .ref a ∧ ¬ P a ∧ ks.length = vs.length ∧ Rd H a (.dT (ks.zip vs)) ∧ Reps K H ds (fun b => P b ∨ b = a) vs
def Reps (K : PySem.W.Frag) (H : Hp) : List D → Pr → List V → Prop
  | [], _, vs => vs = []
  | d :: ds, P, vs => ∃ v ws, vs = v :: ws ∧ Rep K H d P v ∧ Reps K H ds P ws
end
/-- the object itself may be forbidden, what it holds not -/
def RepW (K : PySem.W.Frag) (H : Hp) : D → Pr → V → Prop
  | .lst ds, P, v => ∃ a vs, v = .ref a ∧ H a = some (.lst vs) ∧ Reps K H ds P vs
  | .arg ns, P, v => ∃ a, v = .ref a ∧ SqL K H a (ns.map V.int)
  | .dik ks ds, P, v => ∃ a vs, v = .ref a ∧ ks.length = vs.length ∧ Rd H a (.dK (ks.zip vs)) ∧ Reps K H ds P vs
  | .dit ks ds, P, v => ∃ a vs, v = .ref a ∧ ks.length = vs.length ∧ Rd H a (.dT (ks.zip vs)) ∧ Reps K H ds P vs
  | d, P, v => Rep K H d P v
/-- an own slot's object: it may be written -/
def RepO (K : PySem.W.Frag) (H : Hp) : D → Pr → V → Prop
  | .lst ds, P, v => ∃ a vs, v = .ref a ∧ H a = some (.lst vs) ∧ Reps K H ds P vs
  | .dik ks ds, P, v => ∃ a vs, v = .ref a ∧ ks.length = vs.length ∧ H a = some (.dK (ks.zip vs)) ∧ Reps K H ds P vs
  | .dit ks ds, P, v => ∃ a vs, v = .ref a ∧ ks.length = vs.length ∧ H a = some (.dT (ks.zip vs)) ∧ Reps K H ds P vs
  | .non, _, v => v = .non
  | .bl b, _, v => v = .bl b
  | .int i, _, v => v = .int i
  | .str x, _, v => v = .str x
  | _, _, _ => False

/-- an object that may change (or a list, a dict that is locked) -/
def isMut : Option HO → Prop
  | some (.lst _) => True
  | some (.dK _) => True
  | some (.dT _) => True
  | some (.ins _ _ _) => True
  | some (.set _ _) => True
  | some (.frz _ (.lst _)) => True
  | some (.frz _ (.dK _)) => True
  | some (.frz _ (.dT _)) => True
  | _ => False
theorem isMut.nt {H : Hp} {b : Addr} (h : isMut (H b)) {xs : List V} : ¬ Rd H b (.tup xs) := by
  rintro (e | ⟨o, e⟩) <;> (rw [e] at h; exact h)
theorem isMut.some {o : Option HO} (h : isMut o) : o ≠ none := by rintro rfl; exact h
theorem Rd.keep {H H' : Hp} {a : Addr} {u : HO} (r : Rd H a u) (k : ∀ o, H a = some o → H' a = some o) : Rd H' a u := by
  rcases r with e | ⟨o, e⟩
  · exact .inl (k _ e)
  · exact .inr ⟨o, k _ e⟩
theorem Rd.some {H : Hp} {a : Addr} {u : HO} (r : Rd H a u) : H a ≠ none := by
  rcases r with e | ⟨o, e⟩ <;> (rw [e]; intro z; cases z)

section
variable {K : PySem.W.Frag} {H H' : Hp}
mutual
theorem Rep.mono : ∀ (d : D) {P P' : Pr} {v : V}, (∀ b, P b → isMut (H b)) → (∀ b o, H b = some o → ¬ P b → H' b = some o) → (∀ b, P' b → P b ∨ H b = none) → Rep K H d P v → Rep K H' d P' v
  | .non, _, _, _, _, _, _, h => by unfold Rep at h ⊢; exact h
  | .bl _, _, _, _, _, _, _, h => by unfold Rep at h ⊢; exact h
  | .int _, _, _, _, _, _, _, h => by unfold Rep at h ⊢; exact h
  | .str _, _, _, _, _, _, _, h => by unfold Rep at h ⊢; exact h
  | .tup ds, P, P', v, hm, k, hp, h => by
    unfold Rep at h ⊢
    obtain ⟨a, vs, rfl, ht, hr⟩ := h
    exact ⟨a, vs, rfl, k a _ ht fun z => (hm a z).nt (.inl ht), Reps.mono ds hm k hp hr⟩
  | .lst ds, P, P', v, hm, k, hp, h => by
    unfold Rep at h ⊢
    obtain ⟨a, vs, rfl, ha, ht, hr⟩ := h
    refine ⟨a, vs, rfl, fun z => ?_, k a _ ht ha, Reps.mono ds (P := fun b => P b ∨ b = a) (fun b z => ?_) (fun b o e n => k b o e fun z => n (.inl z)) (fun b z => ?_) hr⟩
    · rcases hp a z with z | z
      · exact ha z
      · rw [ht] at z; cases z
    · rcases z with z | rfl
      · exact hm b z
      · rw [ht]; trivial
    · rcases z with z | z
      · rcases hp b z with z | z
        · exact .inl (.inl z)
        · exact .inr z
      · exact .inl (.inr z)
  | .arg ns, P, P', v, hm, k, hp, h => by
    unfold Rep at h ⊢
    obtain ⟨a, rfl, h⟩ := h
    refine ⟨a, rfl, ?_⟩
    rcases h with ⟨ha, ht⟩ | h
    · refine .inl ⟨fun z => ?_, Rd.keep ht fun o e => k a o e ha⟩
      rcases hp a z with z | z
      · exact ha z
      · exact Rd.some ht z
    · exact .inr h
  | .dik ks ds, P, P', v, hm, k, hp, h => by
    unfold Rep at h ⊢
    obtain ⟨a, vs, rfl, ha, hl, ht, hr⟩ := h
    refine ⟨a, vs, rfl, fun z => ?_, hl, Rd.keep ht fun o e => k a o e ha, Reps.mono ds (P := fun b => P b ∨ b = a) (fun b z => ?_) (fun b o e n => k b o e fun z => n (.inl z)) (fun b z => ?_) hr⟩
    · rcases hp a z with z | z
      · exact ha z
      · exact Rd.some ht z
    · rcases z with z | rfl
      · exact hm b z
      · rcases ht with e | ⟨o, e⟩ <;> (rw [e]; trivial)
    · rcases z with z | z
      · rcases hp b z with z | z
        · exact .inl (.inl z)
        · exact .inr z
      · exact .inl (.inr z)
  | .dit ks ds, P, P', v, hm, k, hp, h => by
    unfold Rep at h ⊢
    obtain ⟨a, vs, rfl, ha, hl, ht, hr⟩ := h
    refine ⟨a, vs, rfl, fun z => ?_, hl, Rd.keep ht fun o e => k a o e ha, Reps.mono ds (P := fun b => P b ∨ b = a) (fun b z => ?_) (fun b o e n => k b o e fun z => n (.inl z)) (fun b z => ?_) hr⟩
    · rcases hp a z with z | z
      · exact ha z
      · exact Rd.some ht z
    · rcases z with z | rfl
      · exact hm b z
      · rcases ht with e | ⟨o, e⟩ <;> (rw [e]; trivial)
    · rcases z with z | z
      · rcases hp b z with z | z
        · exact .inl (.inl z)
        · exact .inr z
      · exact .inl (.inr z)
theorem Reps.mono : ∀ (ds : List D) {P P' : Pr} {vs : List V}, (∀ b, P b → isMut (H b)) → (∀ b o, H b = some o → ¬ P b → H' b = some o) → (∀ b, P' b → P b ∨ H b = none) → Reps K H ds P vs → Reps K H' ds P' vs
  | [], _, _, _, _, _, _, h => by unfold Reps at h ⊢; exact h
  | d :: ds, P, P', vs, hm, k, hp, h => by
    unfold Reps at h ⊢
    obtain ⟨v, ws, rfl, h1, h2⟩ := h
    exact ⟨v, ws, rfl, Rep.mono d hm k hp h1, Reps.mono ds hm k hp h2⟩
end
theorem Reps.length : ∀ {ds : List D} {P : Pr} {vs : List V}, Reps K H ds P vs → vs.length = ds.length
  | [], _, _, h => by unfold Reps at h; subst h; rfl
  | d :: ds, P, vs, h => by
    unfold Reps at h
    obtain ⟨v, ws, rfl, _, h2⟩ := h
    rw [List.length_cons, List.length_cons, Reps.length h2]
theorem Reps.nil {P : Pr} : Reps K H [] P [] := by unfold Reps; rfl
theorem Reps.cons {d : D} {ds : List D} {P : Pr} {v : V} {vs : List V} (h : Rep K H d P v) (h2 : Reps K H ds P vs) : Reps K H (d :: ds) P (v :: vs) := by
  unfold Reps; exact ⟨v, vs, rfl, h, h2⟩
theorem Reps.nil_iff {P : Pr} {vs : List V} (h : Reps K H [] P vs) : vs = [] := by unfold Reps at h; exact h
theorem Reps.cons_iff {d : D} {ds : List D} {P : Pr} {vs : List V} (h : Reps K H (d :: ds) P vs) : ∃ v ws, vs = v :: ws ∧ Rep K H d P v ∧ Reps K H ds P ws := by unfold Reps at h; exact h
theorem Reps.get : ∀ {ds : List D} {P : Pr} {vs : List V} {i : Nat} {d : D}, Reps K H ds P vs → ds[i]? = some d → ∃ v, vs[i]? = some v ∧ Rep K H d P v
  | [], _, _, _, _, _, e => by simp at e
  | d :: ds, P, vs, 0, d', h, e => by
    obtain ⟨v, ws, rfl, h1, _⟩ := h.cons_iff
    simp at e; subst e
    exact ⟨v, rfl, h1⟩
  | d :: ds, P, vs, i + 1, d', h, e => by
    obtain ⟨v, ws, rfl, _, h2⟩ := h.cons_iff
    simpa using Reps.get h2 (by simpa using e)
theorem Reps.getV {ds : List D} {P : Pr} {vs : List V} {i : Nat} {v : V} (h : Reps K H ds P vs) (e : vs[i]? = some v) : ∃ d, ds[i]? = some d ∧ Rep K H d P v := by
  have hi : i < ds.length := by rw [← h.length]; exact (List.getElem?_eq_some_iff.mp e).1
  have e1 : ds[i]? = some ds[i] := List.getElem?_eq_getElem hi
  obtain ⟨w, e2, r⟩ := h.get e1
  rw [e] at e2; cases e2
  exact ⟨_, e1, r⟩
theorem Reps.append : ∀ {ds es : List D} {P : Pr} {vs ws : List V}, Reps K H ds P vs → Reps K H es P ws → Reps K H (ds ++ es) P (vs ++ ws)
  | [], _, _, _, _, h, h2 => by rw [h.nil_iff]; exact h2
  | d :: ds, es, P, vs, ws, h, h2 => by
    obtain ⟨v, us, rfl, h1, h3⟩ := h.cons_iff
    exact Reps.cons h1 (Reps.append h3 h2)
theorem Reps.of_get : ∀ {ds : List D} {P : Pr} {vs : List V}, vs.length = ds.length → (∀ (i : Nat) (d : D) (v : V), ds[i]? = some d → vs[i]? = some v → Rep K H d P v) → Reps K H ds P vs
  | [], _, [], _, _ => Reps.nil
  | [], _, _ :: _, h, _ => by simp at h
  | _ :: _, _, [], h, _ => by simp at h
  | d :: ds, P, v :: vs, h, g => Reps.cons (g 0 d v rfl rfl) (Reps.of_get (by simpa using h) fun i d' v' e1 e2 => g (i + 1) d' v' (by simpa using e1) (by simpa using e2))
/-- forbidding less -/
theorem Rep.less {d : D} {P P' : Pr} {v : V} (hm : ∀ b, P b → isMut (H b)) (h : Rep K H d P v) (hp : ∀ b, P' b → P b) : Rep K H d P' v := h.mono d hm (fun _ _ e _ => e) fun b z => .inl (hp b z)
theorem Reps.less {ds : List D} {P P' : Pr} {vs : List V} (hm : ∀ b, P b → isMut (H b)) (h : Reps K H ds P vs) (hp : ∀ b, P' b → P b) : Reps K H ds P' vs := h.mono ds hm (fun _ _ e _ => e) fun b z => .inl (hp b z)
/-- nothing that stood is changed -/
theorem Rep.same {d : D} {P : Pr} {v : V} (hm : ∀ b, P b → isMut (H b)) (h : Rep K H d P v) (k : Same H H') : Rep K H' d P v := h.mono d hm (fun b o e _ => k b o e) fun _ z => .inl z
theorem Reps.same {ds : List D} {P : Pr} {vs : List V} (hm : ∀ b, P b → isMut (H b)) (h : Reps K H ds P vs) (k : Same H H') : Reps K H' ds P vs := h.mono ds hm (fun b o e _ => k b o e) fun _ z => .inl z
theorem mutL {a : Addr} {P : Pr} {vs : List V} (hm : ∀ b, P b → isMut (H b)) (h : H a = some (.lst vs)) : ∀ b, P b ∨ b = a → isMut (H b) := fun b z => by
  rcases z with z | rfl
  · exact hm b z
  · rw [h]; trivial
theorem mutK {a : Addr} {P : Pr} {vs : List (Key × V)} (hm : ∀ b, P b → isMut (H b)) (h : Rd H a (.dK vs)) : ∀ b, P b ∨ b = a → isMut (H b) := fun b z => by
  rcases z with z | rfl
  · exact hm b z
  · rcases h with e | ⟨o, e⟩ <;> (rw [e]; trivial)
theorem mutT {a : Addr} {P : Pr} {vs : List (List Key × V)} (hm : ∀ b, P b → isMut (H b)) (h : Rd H a (.dT vs)) : ∀ b, P b ∨ b = a → isMut (H b) := fun b z => by
  rcases z with z | rfl
  · exact hm b z
  · rcases h with e | ⟨o, e⟩ <;> (rw [e]; trivial)
theorem Rep.weak {d : D} {P : Pr} {v : V} (hm : ∀ b, P b → isMut (H b)) (h : Rep K H d P v) : RepW K H d P v := by
  cases d with
  | lst ds =>
    unfold Rep at h; unfold RepW
    obtain ⟨a, vs, rfl, _, ht, hr⟩ := h
    exact ⟨a, vs, rfl, ht, hr.less (mutL hm ht) fun b z => .inl z⟩
  | arg ns =>
    unfold Rep at h; unfold RepW
    obtain ⟨a, rfl, h⟩ := h
    rcases h with ⟨_, h⟩ | h
    · exact ⟨a, rfl, .inl h⟩
    · refine ⟨a, rfl, .inr ?_⟩
      rcases h with h | h
      · rcases h with e | ⟨o, e⟩ <;> cases e
      · exact h
  | dik ks ds =>
    unfold Rep at h; unfold RepW
    obtain ⟨a, vs, rfl, _, hl, ht, hr⟩ := h
    exact ⟨a, vs, rfl, hl, ht, hr.less (mutK hm ht) fun b z => .inl z⟩
  | dit ks ds =>
    unfold Rep at h; unfold RepW
    obtain ⟨a, vs, rfl, _, hl, ht, hr⟩ := h
    exact ⟨a, vs, rfl, hl, ht, hr.less (mutT hm ht) fun b z => .inl z⟩
  | non => exact h
  | bl _ => exact h
  | int _ => exact h
  | str _ => exact h
  | tup _ => exact h
theorem RepO.weak {d : D} {P : Pr} {v : V} (h : RepO K H d P v) : RepW K H d P v := by
  cases d with
  | lst ds => obtain ⟨a, vs, rfl, ht, hr⟩ := h; exact ⟨a, vs, rfl, ht, hr⟩
  | dik ks ds => obtain ⟨a, vs, rfl, hl, ht, hr⟩ := h; exact ⟨a, vs, rfl, hl, .inl ht, hr⟩
  | dit ks ds => obtain ⟨a, vs, rfl, hl, ht, hr⟩ := h; exact ⟨a, vs, rfl, hl, .inl ht, hr⟩
  | non => unfold RepW Rep; exact h
  | bl _ => unfold RepW Rep; exact h
  | int _ => unfold RepW Rep; exact h
  | str _ => unfold RepW Rep; exact h
  | tup _ => exact False.elim h
  | arg _ => exact False.elim h
theorem Rep.of_same {d : D} {P : Pr} {v : V} (hm : ∀ b, P b → isMut (H b)) (h : Rep K H d P v) (k : ∀ b o, H b = some o → ¬ P b → H' b = some o) : Rep K H' d P v := h.mono d hm k fun _ z => .inl z
/-- a new list, tuple -/
theorem Rep.newL {ds : List D} {P : Pr} {vs : List V} {p : Addr} (hm : ∀ b, P b → isMut (H b)) (h : Reps K H ds P vs) (hp : H p = none) : Rep K (upd H p (.lst vs)) (.lst ds) P (.ref p) := by
  unfold Rep
  refine ⟨p, vs, rfl, fun z => (hm p z).some hp, upd_same, h.mono ds hm (fun b o e _ => ?_) fun b z => ?_⟩
  · rw [upd_ne (ne_of_none e hp)]; exact e
  · rcases z with z | rfl
    · exact .inl z
    · exact .inr hp
theorem Rep.newT {ds : List D} {P : Pr} {vs : List V} {p : Addr} (hm : ∀ b, P b → isMut (H b)) (h : Reps K H ds P vs) (hp : H p = none) : Rep K (upd H p (.tup vs)) (.tup ds) P (.ref p) := by
  unfold Rep
  refine ⟨p, vs, rfl, upd_same, h.mono ds hm (fun b o e _ => ?_) fun b z => .inl z⟩
  rw [upd_ne (ne_of_none e hp)]; exact e
theorem Same.new {p : Addr} {o : HO} (hp : H p = none) : Same H (upd H p o) := fun b u e => by rw [upd_ne (ne_of_none e hp)]; exact e
end

/-! ### the state -/
/-- the own slots' objects -/
def OA (O : List Nat) (σ : St) (b : Addr) : Prop := ∃ i, i ∈ O ∧ σ[i]? = some (some (.ref b))
def FA (P0 : Pr) (O : List Nat) (σ : St) : Pr := fun b => P0 b ∨ OA O σ b
/-- the names' data ρ lie in the slots σ over H. P0: forbidden here; O: the own slots, whose lists and dicts this def may change: nothing else leads to them -/
structure Sim (K : PySem.W.Frag) (P0 : Pr) (O W : List Nat) (ρ : Env) (σ : St) (H : Hp) : Prop where
  sub : ∀ i ∈ W, i ∈ O
  len : ρ.length ≤ σ.length
  dom : ∀ b, FA P0 O σ b → isMut (H b)
  val : ∀ i d, ρ[i]? = some (some d) → i ∉ O → ∃ v, σ[i]? = some (some v) ∧ Rep K H d (FA P0 O σ) v
  own : ∀ i d, ρ[i]? = some (some d) → i ∈ O → ∃ v, σ[i]? = some (some v) ∧ RepO K H d (FA P0 O σ) v
  sep : ∀ i j a, i ∈ O → j ∈ O → σ[i]? = some (some (.ref a)) → σ[j]? = some (some (.ref a)) → i = j
  sep0 : ∀ a, OA O σ a → ¬ P0 a
/-- what an expression may do to the heap -/
structure Keep (O : List Nat) (σ : St) (H H' : Hp) : Prop where
  keep : ∀ b o, H b = some o → ¬ OA O σ b → H' b = some o
  some : ∀ b, H b ≠ none → H' b ≠ none
theorem Keep.refl {W : List Nat} {σ : St} {H : Hp} : Keep W σ H H := ⟨fun _ _ e _ => e, fun _ e => e⟩
theorem Keep.trans {W : List Nat} {σ : St} {H H1 H2 : Hp} (a : Keep W σ H H1) (b : Keep W σ H1 H2) : Keep W σ H H2 :=
  ⟨fun c o e n => b.keep c o (a.keep c o e n) n, fun c e => b.some c (a.some c e)⟩
theorem Keep.same {W : List Nat} {σ : St} {H H' : Hp} (k : Same H H') : Keep W σ H H' := ⟨fun b o e _ => k b o e, fun b e => by
  cases q : H b with
  | none => exact absurd q e
  | some o => rw [k b o q]; intro z; cases z⟩
section
variable {K : PySem.W.Frag} {P0 : Pr} {O W : List Nat} {ρ ρ' : Env} {σ : St} {H H' : Hp}
theorem Sim.oaw (S : Sim K P0 O W ρ σ H) {b : Addr} (z : OA W σ b) : OA O σ b := let ⟨i, hi, e⟩ := z; ⟨i, S.sub i hi, e⟩
theorem Sim.rep (S : Sim K P0 O W ρ σ H) (k : Keep W σ H H') {d : D} {v : V} (h : Rep K H d (FA P0 O σ) v) : Rep K H' d (FA P0 O σ) v :=
  h.of_same S.dom fun b o e n => k.keep b o e fun z => n (.inr (S.oaw z))
theorem Sim.reps (S : Sim K P0 O W ρ σ H) (k : Keep W σ H H') {d : List D} {v : List V} (h : Reps K H d (FA P0 O σ) v) : Reps K H' d (FA P0 O σ) v :=
  h.mono d S.dom (fun b o e n => k.keep b o e fun z => n (.inr (S.oaw z))) fun _ z => .inl z
/-- all that stood stands -/
theorem Sim.same (S : Sim K P0 O W ρ σ H) (k : Same H H') : Sim K P0 O W ρ σ H' where
  sub := S.sub
  len := S.len
  dom := fun b z => by
    have q := S.dom b z
    cases e : H b with
    | none => rw [e] at q; exact q.elim
    | some o => rw [k b o e, ← e]; exact q
  val := fun i d e n => let ⟨v, h1, h2⟩ := S.val i d e n; ⟨v, h1, h2.same S.dom k⟩
  own := fun i d e n => by
    obtain ⟨v, h1, h2⟩ := S.own i d e n
    refine ⟨v, h1, ?_⟩
    cases d with
    | lst ds => obtain ⟨a, vs, rfl, ht, hr⟩ := h2; exact ⟨a, vs, rfl, k _ _ ht, hr.same S.dom k⟩
    | dik ks ds => obtain ⟨a, vs, rfl, hl, ht, hr⟩ := h2; exact ⟨a, vs, rfl, hl, k _ _ ht, hr.same S.dom k⟩
    | dit ks ds => obtain ⟨a, vs, rfl, hl, ht, hr⟩ := h2; exact ⟨a, vs, rfl, hl, k _ _ ht, hr.same S.dom k⟩
    | non => exact h2
    | bl _ => exact h2
    | int _ => exact h2
    | str _ => exact h2
    | tup _ => exact h2
    | arg _ => exact h2
  sep := S.sep
  sep0 := S.sep0
/-- what lies in a slot, for reading -/
theorem Sim.look (S : Sim K P0 O W ρ σ H) {i : Nat} {d : D} (h : look i ρ = .ok d) : ∃ v, σ[i]? = some (some v) ∧ RepW K H d (FA P0 O σ) v := by
  unfold Y.look at h
  split at h
  · rename_i d' e
    cases h
    by_cases hi : i ∈ O
    · obtain ⟨v, h1, h2⟩ := S.own i d e hi
      exact ⟨v, h1, h2.weak⟩
    · obtain ⟨v, h1, h2⟩ := S.val i d e hi
      exact ⟨v, h1, h2.weak S.dom⟩
  · cases h
end
/-- what a handle says of a value; Hs: the heap ahead -/
def HdR (K : PySem.W.Frag) (P0 : Pr) (O : List Nat) (Hs : Hp) (σ : St) (H : Hp) : Hd → V → Prop
  | .fr d, v => Rep K H d (FA P0 O σ) v ∧ (d.isMu = true → ∀ a, v = .ref a → Hs a = none)
  | .vl d, v => Rep K H d (FA P0 O σ) v
  | .ow i, v => i ∈ O ∧ σ[i]? = some (some v)
section
variable {K : PySem.W.Frag} {P0 : Pr} {O W : List Nat} {ρ ρ' : Env} {σ : St} {Hs Hs' H H' : Hp}
theorem HdR.keep (S : Sim K P0 O W ρ σ H) (k : Keep W σ H H') {h : Hd} {v : V} (r : HdR K P0 O Hs σ H h v) : HdR K P0 O Hs σ H' h v := by
  cases h with
  | fr d => exact ⟨S.rep k r.1, r.2⟩
  | vl d => exact S.rep k r
  | ow i => exact r
/-- ahead of that -/
theorem HdR.back (k : ∀ b, Hs' b ≠ none → Hs b ≠ none) {h : Hd} {v : V} (r : HdR K P0 O Hs σ H h v) : HdR K P0 O Hs' σ H h v := by
  cases h with
  | fr d => exact ⟨r.1, fun m a e => Classical.byContradiction fun z => k a z (r.2 m a e)⟩
  | vl d => exact r
  | ow i => exact r
theorem HdR.d (S : Sim K P0 O W ρ σ H) {h : Hd} {v : V} {d : D} (r : HdR K P0 O Hs σ H h v) (e : h.d ρ = .ok d) : RepW K H d (FA P0 O σ) v := by
  cases h with
  | fr d' => cases e; exact r.1.weak S.dom
  | vl d' => cases e; exact Rep.weak S.dom r
  | ow i =>
    obtain ⟨w, h1, h2⟩ := S.look e
    have q : σ[i]? = some (some v) := r.2
    rw [q] at h1; cases h1
    exact h2
theorem HdR.v {h : Hd} {v : V} {d : D} (r : HdR K P0 O Hs σ H h v) (e : h.v = .ok d) : Rep K H d (FA P0 O σ) v := by
  cases h with
  | fr d' => cases e; exact r.1
  | vl d' => cases e; exact r
  | ow i => cases e
end
end Y

set_option Elab.async false
set_option linter.all false
set_option maxRecDepth 100000
namespace Y
open PySem PySem.Spec PyProof.Rows L2

/-! ### results in the heap -/
/-- no exception is told on -/
def R.nox {α : Type} : R α → R α
  | .er _ _ => .stk
  | x => x
@[simp] theorem R.nox_ok {α : Type} (a : α) : (R.ok a).nox = .ok a := id rfl
@[simp] theorem R.nox_stk {α : Type} : (R.stk : R α).nox = .stk := id rfl
abbrev EK := Str → List D → Hp → Prop
def Res (E : EK) (W : List Nat) (σ : St) (H : Hp) {α : Type} (r : R α) (k : α → Prop) : Prop := match r with
  | .ok a => k a
  | .er c ds => ∀ H', Keep W σ H H' → E c ds H'
  | .stk => False
section
variable {E : EK} {O W : List Nat} {σ : St} {H H1 : Hp} {α β : Type}
theorem Res.of_bind {r : R α} {f : α → R β} {k : β → Prop} (h : Res E W σ H (r >>= f) k) : Res E W σ H r fun a => Res E W σ H (f a) k := by cases r <;> exact h
theorem Res.mono {r : R α} {k k' : α → Prop} (h : Res E W σ H r k) (i : ∀ a, k a → k' a) : Res E W σ H r k' := by
  cases r with
  | ok a => exact i a h
  | er c ds => exact h
  | stk => exact h
theorem Res.keep {r : R α} {k : α → Prop} (h : Res E W σ H r k) (kp : Keep W σ H H1) : Res E W σ H1 r k := by
  cases r with
  | ok a => exact h
  | er c ds => exact fun H' k2 => h H' (kp.trans k2)
  | stk => exact h
theorem Res.of_nox {r : R α} {f : α → R β} {k : β → Prop} (h : Res E W σ H (r.nox >>= f) k) : ∃ a, r = .ok a ∧ Res E W σ H (f a) k := by
  cases r with
  | ok a => exact ⟨a, rfl, h⟩
  | er c ds => exact h.elim
  | stk => exact h.elim
theorem Res.of_nox1 {r : R α} {k : α → Prop} (h : Res E W σ H r.nox k) : ∃ a, r = .ok a ∧ k a := by
  cases r with
  | ok a => exact ⟨a, rfl, h⟩
  | er c ds => exact h.elim
  | stk => exact h.elim
end

/-! ### readings -/
def tM (K : PySem.W.Frag) (P0 : Pr) (O W : List Nat) (E : EK) (m : EM) : TE := fun σ H Q => ∃ ρ, Sim K P0 O W ρ σ H ∧
  Res E W σ H (m ρ) fun a => ∀ v H', Sim K P0 O W a.2 σ H' → Keep W σ H H' → HdR K P0 O H σ H' a.1 v → Q v H'
/-- several, from the left -/
def HdRs (K : PySem.W.Frag) (P0 : Pr) (O : List Nat) (Hs : Hp) (σ : St) (H : Hp) : List Hd → List V → Prop
  | [], vs => vs = []
  | h :: hs, vs => ∃ v ws, vs = v :: ws ∧ HdR K P0 O Hs σ H h v ∧ HdRs K P0 O Hs σ H hs ws
abbrev AM := Env → R (List Hd × Env)
def tMs (K : PySem.W.Frag) (P0 : Pr) (O W : List Nat) (E : EK) (m : AM) : TA := fun σ H Q => ∃ ρ, Sim K P0 O W ρ σ H ∧
  Res E W σ H (m ρ) fun a => ∀ vs H', Sim K P0 O W a.2 σ H' → Keep W σ H H' → HdRs K P0 O H σ H' a.1 vs → Q vs H'
abbrev BM := Env → R (Bool × Env)
def tMt (K : PySem.W.Frag) (P0 : Pr) (O W : List Nat) (E : EK) (m : BM) : TT := fun σ H Q => ∃ ρ, Sim K P0 O W ρ σ H ∧
  Res E W σ H (m ρ) fun a => ∀ H', Sim K P0 O W a.2 σ H' → Keep W σ H H' → Q a.1 H'
theorem PE.imp {X : Cx} {e : Expr} {t t' : TE} (h : PE X e t) (i : ∀ σ H Q, t' σ H Q → t σ H Q) : PE X e t' := ⟨fun pins s σ H Q I q => h.run pins s σ H Q I (i σ H Q q)⟩
theorem PT.imp {X : Cx} {e : Expr} {t t' : TT} (h : PT X e t) (i : ∀ σ H Q, t' σ H Q → t σ H Q) : PT X e t' := ⟨fun pins s σ H Q I q => h.run pins s σ H Q I (i σ H Q q)⟩
theorem PW.imp {X : Cx} {e : Expr} {t t' : TT} (h : PW X e t) (i : ∀ σ H Q, t' σ H Q → t σ H Q) : PW X e t' := ⟨fun w pins s σ H Q I q => h.run w pins s σ H Q I (i σ H Q q)⟩
theorem PA.imp {X : Cx} {e : List Expr} {t t' : TA} (h : PA X e t) (i : ∀ σ H Q, t' σ H Q → t σ H Q) : PA X e t' := ⟨fun p pins s σ H Q I q => h.run p pins s σ H Q I (i σ H Q q)⟩
theorem PS.imp {X : Cx} {e : Stmt} {t t' : TS} (h : PS X e t) (i : ∀ D σ H, t' D σ H → t D σ H) : PS X e t' := ⟨fun pins s σ H D I q => h.run pins s σ H D I (i D σ H q)⟩
theorem PSs.imp {X : Cx} {e : List Stmt} {t t' : TS} (h : PSs X e t) (i : ∀ D σ H, t' D σ H → t D σ H) : PSs X e t' := ⟨fun pins s σ H D I q => h.run pins s σ H D I (i D σ H q)⟩
theorem PE.or {X : Cx} {e : Expr} {t t' : TE} (h : PE X e t) (h' : PE X e t') : PE X e fun σ H Q => t σ H Q ∨ t' σ H Q :=
  ⟨fun pins s σ H Q I q => q.elim (h.run pins s σ H Q I) (h'.run pins s σ H Q I)⟩
section
variable {K : PySem.W.Frag} {P0 : Pr} {O W : List Nat} {ρ ρ' : Env} {σ : St} {Hs Hs' H H' : Hp}
theorem HdRs.keep (S : Sim K P0 O W ρ σ H) (k : Keep W σ H H') : ∀ {hs : List Hd} {vs : List V}, HdRs K P0 O Hs σ H hs vs → HdRs K P0 O Hs σ H' hs vs
  | [], _, r => r
  | h :: hs, _, ⟨v, ws, e, r1, r2⟩ => ⟨v, ws, e, r1.keep S k, HdRs.keep S k r2⟩
theorem HdRs.back (k : ∀ b, Hs' b ≠ none → Hs b ≠ none) : ∀ {hs : List Hd} {vs : List V}, HdRs K P0 O Hs σ H hs vs → HdRs K P0 O Hs' σ H hs vs
  | [], _, r => r
  | h :: hs, _, ⟨v, ws, e, r1, r2⟩ => ⟨v, ws, e, r1.back k, HdRs.back k r2⟩
end

/-! ### names, constants -/
def cVar (i : Nat) : EM := fun ρ => do
  let d ← (look i ρ).nox
  pure (.vl d, ρ)
def cOwn (i : Nat) : EM := fun ρ => do
  let _ ← (look i ρ).nox
  pure (.ow i, ρ)
def cC (d : D) : EM := fun ρ => .ok (.fr d, ρ)
theorem look_some {i : Nat} {ρ : Env} {d : D} (h : look i ρ = .ok d) : ρ[i]? = some (some d) := by
  unfold look at h
  split at h
  · rename_i e; cases h; exact e
  · cases h
section
variable {X : Cx} {P0 : Pr} {O W : List Nat} {E : EK} {pos : Pos}
abbrev CEx (X : Cx) (P0 : Pr) (O W : List Nat) (E : EK) (e : Expr) (m : EM) : Prop := PE X e (tM X.K P0 O W E m)
theorem ce_var (i : Nat) {x : Str} (ho : i ∉ O := by decide) (hN : X.N[i]? = some x := by rfl) (hv : Vis X.env.scope x := by first | exact Or.inl rfl | exact Or.inr (Or.inl rfl) | exact Or.inr (Or.inr rfl)) (hd : (x == ("__debug__" : Str)) = false := by decide)
    (hcd : (x == ("__classdict__" : Str)) = false := by decide) : CEx X P0 O W E (.Name x pos) (cVar i) := PE.imp (pe_var (i := i) hN hv hd hcd) fun σ H Q ⟨ρ, S, h⟩ => by
  obtain ⟨d, e, h⟩ := h.of_nox
  obtain ⟨v, h1, h2⟩ := S.val i d (look_some e) ho
  exact ⟨v, h1, h v H S .refl h2⟩
theorem ce_own (i : Nat) {x : Str} (ho : i ∈ O := by decide) (hN : X.N[i]? = some x := by rfl) (hv : Vis X.env.scope x := by first | exact Or.inl rfl | exact Or.inr (Or.inl rfl) | exact Or.inr (Or.inr rfl)) (hd : (x == ("__debug__" : Str)) = false := by decide)
    (hcd : (x == ("__classdict__" : Str)) = false := by decide) : CEx X P0 O W E (.Name x pos) (cOwn i) := PE.imp (pe_var (i := i) hN hv hd hcd) fun σ H Q ⟨ρ, S, h⟩ => by
  obtain ⟨d, e, h⟩ := h.of_nox
  obtain ⟨v, h1, h2⟩ := S.own i d (look_some e) ho
  exact ⟨v, h1, h v H S .refl ⟨ho, h1⟩⟩
theorem c_of {v : V} {d : D} (h : ∀ H P, Rep X.K H d P v) (hm : d.isMu = false) : ∀ σ H Q, tM X.K P0 O W E (cC d) σ H Q → tC v σ H Q := fun σ H Q ⟨ρ, S, q⟩ =>
  q v H S .refl ⟨h _ _, fun z => by rw [hm] at z; cases z⟩
theorem ce_int {i j} : CEx X P0 O W E (.Constant (.int i) j pos) (cC (.int i)) := PE.imp pe_int (c_of (fun _ _ => by unfold Rep; rfl) rfl)
theorem ce_bl {i j} : CEx X P0 O W E (.Constant (.bool i) j pos) (cC (.bl i)) := PE.imp pe_bl (c_of (fun _ _ => by unfold Rep; rfl) rfl)
theorem ce_str {i j} : CEx X P0 O W E (.Constant (.str i) j pos) (cC (.str i)) := PE.imp pe_str (c_of (fun _ _ => by unfold Rep; rfl) rfl)
theorem ce_non {j} : CEx X P0 O W E (.Constant .none j pos) (cC .non) := PE.imp pe_non (c_of (fun _ _ => by unfold Rep; rfl) rfl)
/-- a module's constant: a number, a text, True, None -/
theorem ce_glob {x : Str} {v : V} {d : D} {u : Value} (h : ∀ H P, Rep X.K H d P v) (hm : d.isMu = false) (r : RelV v u) (hx : X.mg x = some u) (hg : Gl X x := by rfl) (hd : (x == ("__debug__" : Str)) = false := by decide) : CEx X P0 O W E (.Name x pos) (cC d) :=
  PE.imp (pe_glob hg hx r hd) (c_of h hm)
end

/-! ### two-place operations -/
def cOp (f : D → D → R D) (a b : EM) : EM := fun ρ => do
  let (h1, ρ1) ← a ρ
  let (h2, ρ2) ← b ρ1
  let x ← (h1.d ρ2).nox
  let y ← (h2.d ρ2).nox
  let z ← (f x y).nox
  pure (.fr z, ρ2)
/-- what is told on of an operation: new data -/
def Out (K : PySem.W.Frag) (P : Pr) (H : Hp) (d : D) (Q : VK) : Prop := ∀ v H', Same H H' → Rep K H' d P v → (d.isMu = true → ∀ a, v = .ref a → H a = none) → Q v H'
def rD (K : PySem.W.Frag) (f : D → D → R D) : R2 := fun x y H Q => ∃ (P : Pr) (dx dy dz : D), (∀ b, P b → isMut (H b)) ∧ RepW K H dx P x ∧ RepW K H dy P y ∧ f dx dy = .ok dz ∧ Out K P H dz Q
theorem Same.some {H H' : Hp} (k : Same H H') : ∀ b, H b ≠ none → H' b ≠ none := fun b e => by
  cases q : H b with
  | none => exact absurd q e
  | some o => rw [k b o q]; intro z; cases z
section
variable {K : PySem.W.Frag} {P0 : Pr} {O W : List Nat} {E : EK}
/-- an operation's end, told to what follows -/
theorem out_of {ρ : Env} {σ : St} {H H1 : Hp} {Q : VK} {d : D} (S : Sim K P0 O W ρ σ H1) (k : Keep W σ H H1)
    (h : ∀ v H', Sim K P0 O W ρ σ H' → Keep W σ H H' → HdR K P0 O H σ H' (.fr d) v → Q v H') : Out K (FA P0 O σ) H1 d Q := fun v H' sm r fr =>
  h v H' (S.same sm) (k.trans (Keep.same sm)) ⟨r, fun m a e => Classical.byContradiction fun z => k.some a z (fr m a e)⟩
theorem tM_op {f : D → D → R D} {a b : EM} (σ : St) (H : Hp) (Q : VK) (h : tM K P0 O W E (cOp f a b) σ H Q) : tOp (rD K f) (tM K P0 O W E a) (tM K P0 O W E b) σ H Q := by
  obtain ⟨ρ, S, h⟩ := h
  refine ⟨ρ, S, h.of_bind.mono fun ⟨h1, ρ1⟩ q x H1 S1 k1 r1 => ⟨ρ1, S1, (q.keep k1).of_bind.mono fun ⟨h2, ρ2⟩ q2 y H2 S2 k2 r2 => ?_⟩⟩
  obtain ⟨dx, e1, q3⟩ := q2.of_nox
  obtain ⟨dy, e2, q4⟩ := q3.of_nox
  obtain ⟨dz, e3, q5⟩ := q4.of_nox
  exact ⟨FA P0 O σ, dx, dy, dz, S2.dom, (r1.keep S1 k2).d S2 e1, r2.d S2 e2, e3, out_of S2 (k1.trans k2) q5⟩
/-- new data of no object -/
theorem Out.flat {P : Pr} {H : Hp} {d : D} {v : V} {Q : VK} (h : Out K P H d Q) (r : Rep K H d P v) (hm : d.isMu = false) : Q v H := h v H (fun _ _ e => e) r fun z => by rw [hm] at z; cases z
theorem Out.int {P : Pr} {H : Hp} {i : Int} {Q : VK} (h : Out K P H (.int i) Q) : Q (.int i) H := h.flat (by unfold Rep; rfl) rfl
theorem Out.bl {P : Pr} {H : Hp} {i : Bool} {Q : VK} (h : Out K P H (.bl i) Q) : Q (.bl i) H := h.flat (by unfold Rep; rfl) rfl
theorem Out.str {P : Pr} {H : Hp} {i : Str} {Q : VK} (h : Out K P H (.str i) Q) : Q (.str i) H := h.flat (by unfold Rep; rfl) rfl
theorem Out.non {P : Pr} {H : Hp} {Q : VK} (h : Out K P H .non Q) : Q .non H := h.flat (by unfold Rep; rfl) rfl
theorem Out.newL {P : Pr} {H : Hp} {ds : List D} {vs : List V} {Q : VK} (h : Out K P H (.lst ds) Q) (hm : ∀ b, P b → isMut (H b)) (r : Reps K H ds P vs) {p : Addr} (hp : H p = none) : Q (.ref p) (upd H p (.lst vs)) :=
  h _ _ (Same.new hp) (Rep.newL hm r hp) fun _ a e => by cases e; exact hp
theorem Out.newT {P : Pr} {H : Hp} {ds : List D} {vs : List V} {Q : VK} (h : Out K P H (.tup ds) Q) (hm : ∀ b, P b → isMut (H b)) (r : Reps K H ds P vs) {p : Addr} (hp : H p = none) : Q (.ref p) (upd H p (.tup vs)) :=
  h _ _ (Same.new hp) (Rep.newT hm r hp) fun z => by cases z
/-- reading a datum's form -/
theorem RepW.int {H : Hp} {i : Int} {P : Pr} {v : V} (h : RepW K H (.int i) P v) : v = .int i := by unfold RepW Rep at h; exact h
theorem RepW.bl {H : Hp} {i : Bool} {P : Pr} {v : V} (h : RepW K H (.bl i) P v) : v = .bl i := by unfold RepW Rep at h; exact h
theorem RepW.str {H : Hp} {i : Str} {P : Pr} {v : V} (h : RepW K H (.str i) P v) : v = .str i := by unfold RepW Rep at h; exact h
theorem RepW.non {H : Hp} {P : Pr} {v : V} (h : RepW K H .non P v) : v = .non := by unfold RepW Rep at h; exact h
theorem RepW.tup {H : Hp} {ds : List D} {P : Pr} {v : V} (h : RepW K H (.tup ds) P v) : ∃ a vs, v = .ref a ∧ H a = some (.tup vs) ∧ Reps K H ds P vs := by unfold RepW Rep at h; exact h
theorem RepW.lst {H : Hp} {ds : List D} {P : Pr} {v : V} (h : RepW K H (.lst ds) P v) : ∃ a vs, v = .ref a ∧ H a = some (.lst vs) ∧ Reps K H ds P vs := h
theorem RepW.arg {H : Hp} {ds : List Int} {P : Pr} {v : V} (h : RepW K H (.arg ds) P v) : ∃ a, v = .ref a ∧ SqL K H a (ds.map V.int) := h
theorem Rep.tup_of {H : Hp} {ds : List D} {P : Pr} {a : Addr} {vs : List V} (h : H a = some (.tup vs)) (r : Reps K H ds P vs) : Rep K H (.tup ds) P (.ref a) := by unfold Rep; exact ⟨a, vs, rfl, h, r⟩
/-- a list or a tuple, for reading -/
def seqOf : D → Option (List D)
  | .lst ds => some ds
  | .tup ds => some ds
  | .arg ns => some (ns.map D.int)
  | _ => none
theorem reps_ints {H : Hp} {P : Pr} : ∀ ns : List Int, Reps K H (ns.map D.int) P (ns.map V.int)
  | [] => Reps.nil
  | n :: ns => Reps.cons (by unfold Rep; rfl) (reps_ints ns)
theorem RepW.seq {H : Hp} {d : D} {ds : List D} {P : Pr} {v : V} (h : RepW K H d P v) (e : seqOf d = some ds) : ∃ a vs, v = .ref a ∧ (SqL K H a vs ∨ SqT K H a vs) ∧ Reps K H ds P vs := by
  cases d <;> simp only [seqOf, Option.some.injEq, reduceCtorEq] at e
  · subst e; obtain ⟨a, vs, rfl, h1, h2⟩ := h.tup; exact ⟨a, vs, rfl, .inr (SqT.of h1), h2⟩
  · subst e; obtain ⟨a, vs, rfl, h1, h2⟩ := h.lst; exact ⟨a, vs, rfl, .inl (SqL.of h1), h2⟩
  · subst e; obtain ⟨a, rfl, h1⟩ := h.arg; exact ⟨a, _, rfl, .inl h1, reps_ints _⟩
end

/-- sizes that the machine bears -/
def szOk (n : Nat) : Bool := decide (n ≤ sizeLine)
def addD : D → D → R D
  | .int i, .int j => .ok (.int (i + j))
  | .str x, .str y => if szOk (x.length + y.length) = true then .ok (.str (x ++ y)) else .stk
  | .tup x, .tup y => if szOk (x.length + y.length) = true then .ok (.tup (x ++ y)) else .stk
  | .lst x, .lst y => if szOk (x.length + y.length) = true then .ok (.lst (x ++ y)) else .stk
  | _, _ => .stk
def subD : D → D → R D
  | .int i, .int j => .ok (.int (i - j))
  | _, _ => .stk
/-- either factor is small, or both are of at most 2 ^ 26 bits -/
def mulOk (i j : Int) : Bool := decide (i.natAbs < 2 ^ 64) || decide (j.natAbs < 2 ^ 64) || decide (i.natAbs.log2 < 2 ^ 26 - 8 ∧ j.natAbs.log2 < 2 ^ 26 - 8)
/-- a text as many times as told -/
def repS (k : Int) (x : Str) : Str := if k < 1 then Str.empty else if (k == 1 || x.length == 0) = true then x else ⟨(List.replicate k.toNat x.cps).foldl (· ++ ·) #[]⟩
def mulD : D → D → R D
  | .int i, .int j => if mulOk i j = true then .ok (.int (i * j)) else .stk
  | .lst x, .int k => if k < 2 ^ 20 ∧ -(2 ^ 20) < k ∧ szOk (x.length * k.toNat) = true then .ok (.lst (List.replicate k.toNat x).flatten) else .stk
  | .str x, .int k => if k < 2 ^ 20 ∧ -(2 ^ 20) < k ∧ szOk (x.length * k.toNat) = true then .ok (.str (repS k x)) else .stk
  | .tup x, .int k => if x.isEmpty = false ∧ -(2 ^ 20) < k ∧ k ≤ 1000 ∧ x.length ≤ 1000 then .ok (.tup (List.replicate k.toNat x).flatten) else .stk
  | _, _ => .stk
def smallPos (j : Int) : Bool := decide (0 < j ∧ j < 1073741824)
def fdivD : D → D → R D
  | .int i, .int j => if smallPos j = true then .ok (.int (i / j)) else .stk
  | _, _ => .stk
def modD : D → D → R D
  | .int i, .int j => if 0 < j then .ok (.int (i % j)) else .stk
  | _, _ => .stk
def shOk (i j : Int) : Bool := decide (0 ≤ j ∧ j ≤ 1000000 ∧ i.natAbs < 2 ^ 64)
def shlD : D → D → R D
  | .int i, .int j => if shOk i j = true then .ok (.int (i * 2 ^ j.toNat)) else .stk
  | _, _ => .stk
def powD : D → D → R D
  | .int i, .int j => if shOk i j = true then .ok (.int (i ^ j.toNat)) else .stk
  | _, _ => .stk
def shrD : D → D → R D
  | .int i, .int j => if 0 ≤ j then .ok (.int (i / 2 ^ j.toNat)) else .stk
  | _, _ => .stk
def andD : D → D → R D
  | .int i, .int j => .ok (.int (Builtin.bitAnd i j))
  | _, _ => .stk
def orD : D → D → R D
  | .int i, .int j => .ok (.int (Builtin.bitOr i j))
  | _, _ => .stk
def xorD : D → D → R D
  | .int i, .int j => .ok (.int (Builtin.bitXor i j))
  | _, _ => .stk
theorem mulOk_ok {i j : Int} (h : mulOk i j = true) : IntMulOk i j := by
  unfold mulOk at h
  simp only [Bool.or_eq_true, decide_eq_true_eq] at h
  rcases h with (h | h) | ⟨h1, h2⟩
  · exact IntMulOk.of_left (intBits_le_64 (by omega) (by omega))
  · exact IntMulOk.of_right (intBits_le_64 (by omega) (by omega))
  · have b : ∀ x : Int, Builtin.Int.intBits x ≤ x.natAbs.log2 + 1 := fun x => by
      unfold Builtin.Int.intBits
      split <;> omega
    have h3 := b i
    have h4 := b j
    have e : bitsLine = 134217728 := by decide
    unfold IntMulOk
    intro z
    rw [Bool.and_eq_true] at z
    have z2 := z.2
    unfold Builtin.Int.intTooBig at z2
    have z3 := of_decide_eq_true z2
    rw [e] at z3
    omega
section
variable {X : Cx}
theorem od_int {f : Value → Value → Sem Value} {g : D → D → R D} {C : Int → Int → Prop} {h : Int → Int → Int} (ho : OpR X f (rI C fun i j => .int (h i j))) (hg : ∀ x y z, g x y = .ok z → ∃ i j, x = .int i ∧ y = .int j ∧ z = .int (h i j) ∧ C i j) : OpR X f (rD X.K g) := by
  intro pins s σ H x y v u Q I rx ry ⟨P, dx, dy, dz, hm, r1, r2, e, out⟩
  obtain ⟨i, j, rfl, rfl, rfl, c⟩ := hg dx dy dz e
  obtain rfl := r1.int
  obtain rfl := r2.int
  exact ho pins s σ H _ _ v u Q I rx ry ⟨i, j, rfl, rfl, c, out.int⟩
theorem od_sub : OpR X (binaryOp .Sub) (rD X.K subD) := od_int (C := fun _ _ => True) (h := fun i j => i - j) (fun pins s σ H x y v u Q I rx ry ⟨i, j, e1, e2, _, q⟩ => op_sub pins s σ H x y v u Q I rx ry ⟨i, j, e1, e2, q⟩) fun x y z e => by
  cases x <;> cases y <;> simp only [subD, R.ok.injEq, reduceCtorEq] at e
  exact ⟨_, _, rfl, rfl, e.symm, trivial⟩
theorem od_and : OpR X (binaryOp .BitAnd) (rD X.K andD) := od_int (C := fun _ _ => True) (h := Builtin.bitAnd) (fun pins s σ H x y v u Q I rx ry ⟨i, j, e1, e2, _, q⟩ => op_and pins s σ H x y v u Q I rx ry ⟨i, j, e1, e2, q⟩) fun x y z e => by
  cases x <;> cases y <;> simp only [andD, R.ok.injEq, reduceCtorEq] at e
  exact ⟨_, _, rfl, rfl, e.symm, trivial⟩
theorem od_or : OpR X (binaryOp .BitOr) (rD X.K orD) := od_int (C := fun _ _ => True) (h := Builtin.bitOr) (fun pins s σ H x y v u Q I rx ry ⟨i, j, e1, e2, _, q⟩ => op_or pins s σ H x y v u Q I rx ry ⟨i, j, e1, e2, q⟩) fun x y z e => by
  cases x <;> cases y <;> simp only [orD, R.ok.injEq, reduceCtorEq] at e
  exact ⟨_, _, rfl, rfl, e.symm, trivial⟩
theorem od_xor : OpR X (binaryOp .BitXor) (rD X.K xorD) := od_int (C := fun _ _ => True) (h := Builtin.bitXor) (fun pins s σ H x y v u Q I rx ry ⟨i, j, e1, e2, _, q⟩ => op_xor pins s σ H x y v u Q I rx ry ⟨i, j, e1, e2, q⟩) fun x y z e => by
  cases x <;> cases y <;> simp only [xorD, R.ok.injEq, reduceCtorEq] at e
  exact ⟨_, _, rfl, rfl, e.symm, trivial⟩
theorem od_fdiv : OpR X (binaryOp .FloorDiv) (rD X.K fdivD) := od_int op_fdiv fun x y z e => by
  cases x <;> cases y <;> simp only [fdivD, R.ok.injEq, reduceCtorEq] at e
  split at e
  · rename_i c; cases e; exact ⟨_, _, rfl, rfl, rfl, by unfold smallPos at c; have c := of_decide_eq_true c; exact c⟩
  · cases e
theorem od_mod : OpR X (binaryOp .Mod) (rD X.K modD) := od_int op_mod fun x y z e => by
  cases x <;> cases y <;> simp only [modD, R.ok.injEq, reduceCtorEq] at e
  split at e
  · rename_i c; cases e; exact ⟨_, _, rfl, rfl, rfl, c⟩
  · cases e
theorem od_shl : OpR X (binaryOp .LShift) (rD X.K shlD) := od_int op_shl fun x y z e => by
  cases x <;> cases y <;> simp only [shlD, R.ok.injEq, reduceCtorEq] at e
  split at e
  · rename_i c; cases e; exact ⟨_, _, rfl, rfl, rfl, by unfold shOk at c; have c := of_decide_eq_true c; exact c⟩
  · cases e
theorem od_pow : OpR X (binaryOp .Pow) (rD X.K powD) := od_int op_pow fun x y z e => by
  cases x <;> cases y <;> simp only [powD, R.ok.injEq, reduceCtorEq] at e
  split at e
  · rename_i c; cases e; exact ⟨_, _, rfl, rfl, rfl, by unfold shOk at c; have c := of_decide_eq_true c; exact c⟩
  · cases e
theorem od_shr : OpR X (binaryOp .RShift) (rD X.K shrD) := od_int op_shr fun x y z e => by
  cases x <;> cases y <;> simp only [shrD, R.ok.injEq, reduceCtorEq] at e
  split at e
  · rename_i c; cases e; exact ⟨_, _, rfl, rfl, rfl, c⟩
  · cases e
theorem od_add : OpR X (binaryOp .Add) (rD X.K addD) := by
  intro pins s σ H x y v u Q I rx ry ⟨P, dx, dy, dz, hm, r1, r2, e, out⟩
  cases dx <;> cases dy <;> simp only [addD, R.ok.injEq, reduceCtorEq] at e
  · subst e
    obtain rfl := r1.int
    obtain rfl := r2.int
    exact op_add pins s σ H _ _ v u Q I rx ry ⟨_, _, rfl, rfl, out.int⟩
  · split at e
    · rename_i c; cases e
      obtain rfl := r1.str
      obtain rfl := r2.str
      exact op_add_str pins s σ H _ _ v u Q I rx ry ⟨_, _, rfl, rfl, of_decide_eq_true c, out.str⟩
    · cases e
  · split at e
    · rename_i c; cases e
      obtain ⟨a, vs, rfl, h1, h2⟩ := r1.tup
      obtain ⟨b, ws, rfl, h3, h4⟩ := r2.tup
      refine op_catA pins s σ H _ _ v u Q I rx ry ⟨a, b, vs, ws, rfl, rfl, SqT.of h1, SqT.of h3, by rw [h2.length, h4.length]; exact of_decide_eq_true c, fun z => ?_, fun _ z => ?_, fun _ _ p hp => out.newT hm (h2.append h4) hp⟩
      · subst z
        have z := h2.length
        have z := List.length_eq_zero_iff.mp (show _ = 0 from z.symm)
        subst z
        rw [List.nil_append] at out
        exact out.flat (Rep.tup_of h3 h4) rfl
      · subst z
        have z := h4.length
        have z := List.length_eq_zero_iff.mp (show _ = 0 from z.symm)
        subst z
        rw [List.append_nil] at out
        exact out.flat (Rep.tup_of h1 h2) rfl
    · cases e
  · split at e
    · rename_i c; cases e
      obtain ⟨a, vs, rfl, h1, h2⟩ := r1.lst
      obtain ⟨b, ws, rfl, h3, h4⟩ := r2.lst
      exact op_cat pins s σ H _ _ v u Q I rx ry ⟨a, b, vs, ws, rfl, rfl, h1, h3, by rw [h2.length, h4.length]; exact of_decide_eq_true c, fun p hp => out.newL hm (h2.append h4) hp⟩
    · cases e
end
end Y

set_option Elab.async false
set_option linter.all false
set_option maxRecDepth 100000
namespace Y
open PySem PySem.Spec PyProof.Rows L2

/-! ### times -/
section
open PySem.AutoSeq1 (wpAny_loadPart')
theorem tuple_mulS (l : Addr) (items : Array Value) (n : Nat) (dd : Option Addr) (sl : Array (Option Value)) (x : Int) (u : Tok) (c0 : (decide (x < -(2 ^ 63)) || decide (x ≥ 2 ^ 63)) = false) (c1 : (items.isEmpty || x == 1) = true) :
    Meets (Builtin.«tuple.__mul__» ⟨[.ref l, .int x u], []⟩) (fun _ R s => s.heap.get? l = some { cls := .type "tuple", dict := dd, data := .seq items n, slots := sl } ∧
      R (.ok (.ret (Value.ref l))) s) :=
  .of_wp fun prog w A R s h => by
    obtain ⟨hp, g, d, tk, os⟩ := s
    obtain ⟨hl, h⟩ := h
    have f1 := AutoSeq1.idx_int
    wp_walk using wpAny_loadPart' hl
    repeat (first
      | (refine wpAny_ite_false (decide_eq_false (by rw [c0]; exact Bool.false_ne_true)) ?_; wp_walk using wpAny_loadPart' hl)
      | (refine wpAny_ite_true (decide_eq_true c1) ?_; wp_walk using wpAny_loadPart' hl))
    exact ⟨_, rfl, h⟩
theorem tuple_mulE (l : Addr) (items : Array Value) (n : Nat) (dd : Option Addr) (sl : Array (Option Value)) (x : Int) (u : Tok) (c0 : (decide (x < -(2 ^ 63)) || decide (x ≥ 2 ^ 63)) = false) (c1 : (items.isEmpty || x == 1) = false) (c2 : (decide (x ≤ 0) || items.isEmpty) = true) :
    Meets (Builtin.«tuple.__mul__» ⟨[.ref l, .int x u], []⟩) (fun _ R s => s.heap.get? l = some { cls := .type "tuple", dict := dd, data := .seq items n, slots := sl } ∧
      R (.ok (.ret (Value.ref s.heap.objs.size))) { s with heap := s.heap.push { cls := Value.type "tuple", data := Data.seq #[] }, toks := s.toks }) :=
  .of_wp fun prog w A R s h => by
    obtain ⟨hp, g, d, tk, os⟩ := s
    obtain ⟨hl, h⟩ := h
    have f1 := AutoSeq1.idx_int
    wp_walk using wpAny_loadPart' hl
    repeat (first
      | (refine wpAny_ite_false (decide_eq_false (by rw [c0]; exact Bool.false_ne_true)) ?_; wp_walk using wpAny_loadPart' hl)
      | (refine wpAny_ite_false (decide_eq_false (by rw [c1]; exact Bool.false_ne_true)) ?_; wp_walk using wpAny_loadPart' hl)
      | (refine wpAny_ite_true (decide_eq_true c2) ?_; wp_walk using wpAny_loadPart' hl))
    exact ⟨_, rfl, h⟩
end
/-- a tuple times an int: once is the tuple itself -/
theorem op_repT1 {X : Cx} : OpR X (binaryOp .Mult) (fun x y H Q => ∃ l xs, x = .ref l ∧ y = .int 1 ∧ SqT X.K H l xs ∧ Q (.ref l) H) := by
  intro pins s σ H x y v u Q I rx ry h
  obtain ⟨l, xs, rfl, rfl, hT, q⟩ := h
  cases rx
  obtain ⟨t, rfl⟩ := ry
  obtain ⟨its, r, ⟨⟨cls, dd, data, sl⟩, ho, hc, n, hd⟩, hs⟩ := I.tuple hT
  simp only at hc hd
  subst hc hd
  have c0 : (decide ((1 : Int) < -(2 ^ 63)) || decide ((1 : Int) ≥ 2 ^ 63)) = false := by decide
  refine wpAny_binaryOp_repeat_ref (T := "tuple") (U := "int") (by decide) ⟨_, ho, rfl⟩ (fun s' => typeIs_int s' 1 t) noFill_tuple_mul F.fills_int_mul F.slot_int_rmul repeat_tuple F.slot_int_index.lookup
    (call_meets F.slot_int_rmul (typeIs_int s 1 t) F.entry_int_rmul (F.args_int_rmul_2 _ _) (int_rmul_tuple 1 t l its.toArray n dd sl)
      ⟨ho, rfl, ⟨_, ho, rfl⟩, call_meets F.slot_tuple_mul ⟨_, ho, rfl⟩ F.entry_tuple_mul (F.args_tuple_mul_2 _ _) (tuple_mulS l its.toArray n dd sl 1 t c0 (by simp)) ⟨ho, ?_⟩⟩)
  exact ⟨.ref l, H, I, rfl, q⟩
/-- no time or fewer: an empty tuple -/
theorem op_repT0 {X : Cx} : OpR X (binaryOp .Mult) (fun x y H Q => ∃ l k xs, x = .ref l ∧ y = .int k ∧ SqT X.K H l xs ∧ xs ≠ [] ∧ k ≤ 0 ∧ -(2 ^ 20) < k ∧ ∀ p, H p = none → Q (.ref p) (upd H p (.tup []))) := by
  intro pins s σ H x y v u Q I rx ry h
  obtain ⟨l, k, xs, rfl, rfl, hT, hne, h1, h2, q⟩ := h
  cases rx
  obtain ⟨t, rfl⟩ := ry
  obtain ⟨its, r, ⟨⟨cls, dd, data, sl⟩, ho, hc, n, hd⟩, hs⟩ := I.tuple hT
  simp only at hc hd
  subst hc hd
  have hi : its.toArray.isEmpty = false := by
    cases its with
    | nil => exact absurd (List.eq_nil_of_length_eq_zero r.length) hne
    | cons a b => rfl
  have c0 : (decide (k < -(2 ^ 63)) || decide (k ≥ 2 ^ 63)) = false := by
    rw [decide_eq_false (by omega), decide_eq_false (by omega)] <;> rfl
  have c1 : (its.toArray.isEmpty || k == 1) = false := by
    rw [hi, Bool.false_or]
    exact beq_eq_false_iff_ne.mpr (by omega)
  have c2 : (decide (k ≤ 0) || its.toArray.isEmpty) = true := by
    rw [decide_eq_true h1, Bool.true_or]
  refine wpAny_binaryOp_repeat_ref (T := "tuple") (U := "int") (by decide) ⟨_, ho, rfl⟩ (fun s' => typeIs_int s' k t) noFill_tuple_mul F.fills_int_mul F.slot_int_rmul repeat_tuple F.slot_int_index.lookup
    (call_meets F.slot_int_rmul (typeIs_int s k t) F.entry_int_rmul (F.args_int_rmul_2 _ _) (int_rmul_tuple k t l its.toArray n dd sl)
      ⟨ho, rfl, ⟨_, ho, rfl⟩, call_meets F.slot_tuple_mul ⟨_, ho, rfl⟩ F.entry_tuple_mul (F.args_tuple_mul_2 _ _) (tuple_mulE l its.toArray n dd sl k t c0 c1 c2) ⟨ho, ?_⟩⟩)
  refine ⟨.ref s.heap.objs.size, _, I.laid (t' := s.toks) (o := .tup []) (fun b ob q => Heap.get?_push_of_some _ q) (Nat.le_refl _) ?_, rfl, q _ (I.hok.fresh (Nat.le_refl _))⟩
  exact ⟨Nat.zero_le _, [], .nil, IsTup.new _ _⟩
theorem rep_all {K : PySem.W.Frag} {H : Hp} {P : Pr} {ds : List D} {vs : List V} (h : Reps K H ds P vs) : ∀ k : Nat, Reps K H (List.replicate k ds).flatten P (List.replicate k vs).flatten
  | 0 => Reps.nil
  | k + 1 => by rw [List.replicate_succ, List.replicate_succ, List.flatten_cons, List.flatten_cons]; exact h.append (rep_all h k)
noncomputable instance : DecidableEq (List D) := fun _ _ => Classical.propDecidable _
noncomputable instance : DecidableEq D := fun _ _ => Classical.propDecidable _
section
variable {X : Cx}
theorem repS_len (k : Int) (x : Str) : (⟨(List.replicate k.toNat x.cps).foldl (· ++ ·) #[]⟩ : Str).length = x.length * k.toNat := by
  show Array.size _ = _
  have h : ∀ (m : Nat) (a : Array Nat), ((List.replicate m x.cps).foldl (· ++ ·) a).size = a.size + x.cps.size * m := by
    intro m
    induction m with
    | zero => intro a; simp
    | succ m ih => intro a; rw [List.replicate_succ, List.foldl_cons, ih, Array.size_append, Nat.mul_succ]; omega
  rw [h, Array.size_empty, Nat.zero_add]
  rfl
/-- a text times an int -/
theorem op_repS : OpR X (binaryOp .Mult) (fun x y H Q => ∃ i k, x = .str i ∧ y = .int k ∧ -(2 ^ 20) < k ∧ k < 2 ^ 20 ∧ i.length * k.toNat ≤ sizeLine ∧ Q (.str (repS k i)) H) := by
  intro pins s σ H x y v u Q I rx ry h
  obtain ⟨i, k, rfl, rfl, h1, h2, hz, q⟩ := h
  obtain ⟨t, rfl⟩ := rx
  obtain ⟨t', rfl⟩ := ry
  have hs : sizeLine ≤ 2 ^ 40 := by decide
  refine PySem.P.mul_str ?_ (fun c _ => ?_) (fun _ _ => decide_eq_false (by omega)) ?_
  · rw [decide_eq_false (by omega), decide_eq_false (by omega)]; rfl
  · have e : ((i.length * k.toNat : Nat) : Int) = (i.length : Int) * k := by rw [Int.natCast_mul, Int.toNat_of_nonneg (by omega)]
    have := (Int.le_ediv_iff_mul_le (a := (i.length : Int)) (b := 2 ^ 63 - 1) (c := k) (by omega)).mpr (by rw [← e]; omega)
    omega
  · unfold repS at q
    by_cases c1 : k < 1
    · rw [if_pos c1] at q ⊢
      exact ⟨by decide, ⟨.str _, H, I.tok _, ⟨_, rfl⟩, q⟩⟩
    · rw [if_neg c1] at q ⊢
      by_cases c2 : (k == 1 || i.length == 0) = true
      · rw [if_pos c2] at q ⊢
        exact ⟨.str _, H, I, ⟨_, rfl⟩, q⟩
      · rw [if_neg c2] at q ⊢
        exact ⟨by rw [repS_len]; exact hz, ⟨.str _, H, I.tok _, ⟨_, rfl⟩, q⟩⟩
theorem od_mul : OpR X (binaryOp .Mult) (rD X.K mulD) := by
  intro pins s σ H x y v u Q I rx ry ⟨P, dx, dy, dz, hm, r1, r2, e, out⟩
  cases dx <;> cases dy <;> simp only [mulD, R.ok.injEq, reduceCtorEq] at e
  case int.int =>
    split at e
    · rename_i c; cases e
      obtain rfl := r1.int
      obtain rfl := r2.int
      obtain ⟨t, rfl⟩ := rx
      obtain ⟨t', rfl⟩ := ry
      exact mul_int ⟨.int _, H, I.tok _, ⟨_, rfl⟩, out.int⟩ (mulOk_ok c)
    · cases e
  case str.int =>
    split at e
    · rename_i c; cases e
      obtain rfl := r1.str
      obtain rfl := r2.int
      exact op_repS pins s σ H _ _ v u Q I rx ry ⟨_, _, rfl, rfl, by omega, by omega, of_decide_eq_true c.2.2, out.str⟩
    · cases e
  case tup.int =>
    split at e
    · rename_i c; cases e
      obtain ⟨a, vs, rfl, h1, h2⟩ := r1.tup
      obtain rfl := r2.int
      rename_i ds k
      have hne : vs ≠ [] := fun z => by
        have z2 := h2.length
        rw [z] at z2
        have z3 := List.length_eq_zero_iff.mp z2.symm
        rw [z3] at c
        exact absurd c.1 (by decide)
      by_cases c1 : k = 1
      · subst c1
        have e1 : (List.replicate (1 : Int).toNat ds).flatten = ds := by
          show ds ++ [] = ds
          exact List.append_nil _
        rw [e1] at out
        exact op_repT1 pins s σ H _ _ v u Q I rx ry ⟨a, vs, rfl, rfl, SqT.of h1, out.flat (Rep.tup_of h1 h2) rfl⟩
      · by_cases c2 : k ≤ 0
        · have e1 : (List.replicate k.toNat ds).flatten = [] := by
            have : k.toNat = 0 := by omega
            rw [this]; rfl
          rw [e1] at out
          exact op_repT0 pins s σ H _ _ v u Q I rx ry ⟨a, _, vs, rfl, rfl, SqT.of h1, hne, c2, c.2.1, fun p hp => out.newT hm Reps.nil hp⟩
        · exact op_repT pins s σ H _ _ v u Q I rx ry ⟨a, _, vs, rfl, rfl, SqT.of h1, hne, by omega, c.2.2.1, by rw [h2.length]; exact c.2.2.2, fun p hp => out.newT hm (rep_all h2 _) hp⟩
    · cases e
  case lst.int =>
    split at e
    · rename_i c
      have c : _ ∧ _ ∧ _ := c
      cases e
      obtain ⟨a, vs, rfl, h1, h2⟩ := r1.lst
      obtain rfl := r2.int
      exact op_rep pins s σ H _ _ v u Q I rx ry ⟨a, _, vs, rfl, rfl, h1, by omega, by omega, by rw [h2.length]; exact of_decide_eq_true c.2.2, fun p hp => out.newL hm (rep_all h2 _) hp⟩
    · cases e
end

/-! ### == -/
mutual
def toPy : D → PyData
  | .non => .none
  | .bl b => .bool b
  | .int i => .int i
  | .str x => .str x
  | .tup ds => .tuple (toPys ds)
  | .lst ds => .list (toPys ds)
  | .arg ns => .list (ns.map .int)
  | .dik _ _ => .dict []
  | .dit _ _ => .dict []
def toPys : List D → List PyData
  | [] => []
  | d :: ds => toPy d :: toPys ds
end
def dOk (d : D) : Bool := SeqAt.shaped (toPy d)
def eqP (x y : D) : Bool := PyData.eqv (toPy x) (toPy y)
theorem dp_ints {K : PySem.W.Frag} {H : Hp} : ∀ ns : List Int, DpAll K H (ns.map V.int) (ns.map PyData.int)
  | [] => .nil
  | n :: ns => .cons (.int n) (dp_ints ns)
mutual
theorem Rep.dp {K : PySem.W.Frag} {H : Hp} : ∀ (d : D) {P : Pr} {v : V}, (toPy d).canLay0 = true → Rep K H d P v → Dp K H v (toPy d)
  | .non, _, _, _, h => by unfold Rep at h; subst h; exact .non
  | .bl b, _, _, _, h => by unfold Rep at h; subst h; exact .bl b
  | .int i, _, _, _, h => by unfold Rep at h; subst h; exact .int i
  | .str i, _, _, _, h => by unfold Rep at h; subst h; exact .str i
  | .tup ds, P, v, c, h => by
    unfold Rep at h
    obtain ⟨a, vs, rfl, h1, h2⟩ := h
    unfold toPy at c ⊢
    exact .tup (SqT.of h1) (Reps.dp ds (by simpa [PyData.canLay0] using c) h2)
  | .lst ds, P, v, c, h => by
    unfold Rep at h
    obtain ⟨a, vs, rfl, _, h1, h2⟩ := h
    unfold toPy at c ⊢
    exact .lst (SqL.of h1) (Reps.dp ds (by simpa [PyData.canLay0] using c) h2)
  | .arg ns, P, v, c, h => by
    unfold Rep at h
    unfold toPy
    obtain ⟨a, rfl, h⟩ := h
    rcases h with ⟨_, h⟩ | h
    · exact .lst (.inl h) (dp_ints ns)
    · refine .lst (.inr ?_) (dp_ints ns)
      rcases h with h | h
      · rcases h with e | ⟨o, e⟩ <;> cases e
      · exact h
  | .dik _ _, _, _, c, _ => by simp [toPy, PyData.canLay0] at c
  | .dit _ _, _, _, c, _ => by simp [toPy, PyData.canLay0] at c
theorem Reps.dp {K : PySem.W.Frag} {H : Hp} : ∀ (ds : List D) {P : Pr} {vs : List V}, PyData.canLayAll0 (toPys ds) = true → Reps K H ds P vs → DpAll K H vs (toPys ds)
  | [], _, _, _, h => by rw [h.nil_iff]; exact .nil
  | d :: ds, P, vs, c, h => by
    obtain ⟨v, ws, rfl, h1, h2⟩ := h.cons_iff
    unfold toPys at c ⊢
    have c := Bool.and_eq_true_iff.mp (show (PyData.canLay0 (toPy d) && PyData.canLayAll0 (toPys ds)) = true by simpa [PyData.canLayAll0] using c)
    exact .cons (Rep.dp d c.1 h1) (Reps.dp ds c.2 h2)
end
theorem RepW.dp {K : PySem.W.Frag} {H : Hp} {d : D} {P : Pr} {v : V} (c : dOk d = true) (h : RepW K H d P v) : Dp K H v (toPy d) := by
  have c := SeqAt.canLay_of_shaped c
  cases d with
  | lst ds =>
    obtain ⟨a, vs, rfl, h1, h2⟩ := h
    unfold toPy at c ⊢
    exact .lst (SqL.of h1) (Reps.dp ds (by simpa [PyData.canLay0] using c) h2)
  | arg ns =>
    obtain ⟨a, rfl, h1⟩ := h
    unfold toPy
    exact .lst h1 (dp_ints ns)
  | dik _ _ => simp [toPy, PyData.canLay0] at c
  | dit _ _ => simp [toPy, PyData.canLay0] at c
  | non => exact Rep.dp (P := P) _ c h
  | bl _ => exact Rep.dp (P := P) _ c h
  | int _ => exact Rep.dp (P := P) _ c h
  | str _ => exact Rep.dp (P := P) _ c h
  | tup _ => exact Rep.dp (P := P) _ c h
def eqD (x y : D) : R D := if (dOk x && dOk y) = true then .ok (.bl (eqP x y)) else .stk
def neD (x y : D) : R D := if (dOk x && dOk y) = true then .ok (.bl (!eqP x y)) else .stk
/-! ### order -/
mutual
def ltP : D → D → Option Bool
  | .int i, .int j => some (decide (i < j))
  | .str x, .str y => some (decide (x.cps.toList < y.cps.toList))
  | .tup xs, .tup ys => ltPs xs ys
  | .lst xs, .lst ys => ltPs xs ys
  | _, _ => none
def ltPs : List D → List D → Option Bool
  | [], [] => some false
  | [], _ :: _ => some true
  | _ :: _, [] => some false
  | x :: xs, y :: ys => if eqP x y = true then ltPs xs ys else ltP x y
end
def ltD : D → D → R D
  | .int i, .int j => .ok (.bl (decide (i < j)))
  | .str x, .str y => .ok (.bl (decide (x.cps.toList < y.cps.toList)))
  | _, _ => .stk
def leD : D → D → R D
  | .int i, .int j => .ok (.bl (decide (i ≤ j)))
  | _, _ => .stk
def gtD : D → D → R D
  | .int i, .int j => .ok (.bl (decide (j < i)))
  | _, _ => .stk
def geD : D → D → R D
  | .int i, .int j => .ok (.bl (decide (j ≤ i)))
  | _, _ => .stk
def isNon : D → Bool
  | .non => true
  | _ => false
def isD : D → D → R D
  | x, .non => .ok (.bl (isNon x))
  | .bl a, .bl b => .ok (.bl (decide (a = b)))
  | _, _ => .stk
def isNotD : D → D → R D
  | x, .non => .ok (.bl (!isNon x))
  | .bl a, .bl b => .ok (.bl (!decide (a = b)))
  | _, _ => .stk
def flatD : D → Bool
  | .non => true
  | .bl _ => true
  | .int _ => true
  | .str _ => true
  | _ => false
/-- in a text of one sign, a list of data, a tuple of flat data -/
def inB : D → D → Option Bool
  | .str a, .str b => if a.length = 1 then some (decide (a.cps.getD 0 0 ∈ b.cps.toList)) else none
  | x, .lst ds => if (dOk x && dOk (.lst ds)) = true then some (ds.any fun z => eqP z x) else none
  | x, .tup ds => if (flatD x && ds.all flatD) = true then some (ds.any fun z => eqP z x) else none
  | _, _ => none
def inD (x y : D) : R D := match inB x y with | some b => .ok (.bl b) | none => .stk
def ninD (x y : D) : R D := match inB x y with | some b => .ok (.bl (!b)) | none => .stk
section
variable {K : PySem.W.Frag} {H : Hp} {P : Pr}
theorem RepW.isNon {d : D} {v : V} (h : RepW K H d P v) : decide (v = .non) = isNon d := by
  cases d with
  | non => rw [h.non]; rfl
  | bl _ => rw [h.bl]; rfl
  | int _ => rw [h.int]; rfl
  | str _ => rw [h.str]; rfl
  | tup _ => obtain ⟨a, vs, rfl, _⟩ := h.tup; rfl
  | lst _ => obtain ⟨a, vs, rfl, _⟩ := h.lst; rfl
  | arg _ => obtain ⟨a, rfl, _⟩ := h.arg; rfl
  | dik _ _ => obtain ⟨a, vs, rfl, _⟩ := h; rfl
  | dit _ _ => obtain ⟨a, vs, rfl, _⟩ := h; rfl
theorem flat_rep {d : D} {v : V} (f : flatD d = true) (h : Rep K H d P v) : flatV v = true := by
  cases d <;> unfold Rep at h <;> first | (subst h; rfl) | (simp [flatD] at f)
theorem flat_eq {d e : D} {v w : V} (f : flatD d = true) (g : flatD e = true) (h : Rep K H d P v) (h2 : Rep K H e P w) : eqV v w = eqP d e := by
  cases d <;> unfold Rep at h <;> first | (simp [flatD] at f; done) | skip
  all_goals (cases e <;> unfold Rep at h2 <;> first | (simp [flatD] at g; done) | skip)
  all_goals (subst h; subst h2; simp [eqV, eqP, toPy, PyData.eqv])
theorem flats_rep : ∀ {ds : List D} {vs : List V}, ds.all flatD = true → Reps K H ds P vs → vs.all flatV = true
  | [], _, _, h => by rw [h.nil_iff]; rfl
  | d :: ds, vs, f, h => by
    obtain ⟨v, ws, rfl, h1, h2⟩ := h.cons_iff
    rw [List.all_cons, Bool.and_eq_true] at f ⊢
    exact ⟨flat_rep f.1 h1, flats_rep f.2 h2⟩
theorem inV_rep {x : D} {v : V} (g : flatD x = true) (hx : Rep K H x P v) : ∀ {ds : List D} {vs : List V}, ds.all flatD = true → Reps K H ds P vs → inV v vs = ds.any fun z => eqP z x
  | [], _, _, h => by rw [h.nil_iff]; rfl
  | d :: ds, vs, f, h => by
    obtain ⟨w, ws, rfl, h1, h2⟩ := h.cons_iff
    rw [List.all_cons, Bool.and_eq_true] at f
    have ih := inV_rep g hx f.2 h2
    unfold inV at ih ⊢
    rw [List.any_cons, List.any_cons, ih, flat_eq f.1 g h1 hx]
theorem flatW {d : D} {v : V} (f : flatD d = true) (h : RepW K H d P v) : Rep K H d P v := by
  cases d <;> first | exact h | (simp [flatD] at f)
theorem dp_any {x : D} : ∀ ds : List D, ((toPys ds).any fun z => PyData.eqv z (toPy x)) = ds.any fun z => eqP z x
  | [] => rfl
  | d :: ds => by unfold toPys; rw [List.any_cons, List.any_cons, dp_any ds]; rfl
end
section
variable {X : Cx}
theorem od_eq (hu : X.A.units + 64 < cLine) : OpR X (compareOp .Eq) (rD X.K eqD) := by
  intro pins s σ H x y v u Q I rx ry ⟨P, dx, dy, dz, hm, r1, r2, e, out⟩
  unfold eqD at e
  split at e
  · rename_i c; cases e
    rw [Bool.and_eq_true] at c
    exact op_eqD hu pins s σ H x y v u Q I rx ry ⟨_, _, r1.dp c.1, r2.dp c.2, c.1, c.2, out.bl⟩
  · cases e
theorem od_ne (hu : X.A.units + 64 < cLine) : OpR X (compareOp .NotEq) (rD X.K neD) := by
  intro pins s σ H x y v u Q I rx ry ⟨P, dx, dy, dz, hm, r1, r2, e, out⟩
  unfold neD at e
  split at e
  · rename_i c; cases e
    rw [Bool.and_eq_true] at c
    exact op_neD hu pins s σ H x y v u Q I rx ry ⟨_, _, r1.dp c.1, r2.dp c.2, c.1, c.2, out.bl⟩
  · cases e
theorem od_cmp {op : CmpOp} {f : D → D → R D} {p : Int → Int → Bool} (ho : OpR X (compareOp op) (rI0 fun i j => .bl (p i j))) (hf : ∀ x y z, f x y = .ok z → ∃ i j, x = .int i ∧ y = .int j ∧ z = .bl (p i j)) : OpR X (compareOp op) (rD X.K f) := by
  intro pins s σ H x y v u Q I rx ry ⟨P, dx, dy, dz, hm, r1, r2, e, out⟩
  obtain ⟨i, j, rfl, rfl, rfl⟩ := hf _ _ _ e
  obtain rfl := r1.int
  obtain rfl := r2.int
  exact ho pins s σ H _ _ v u Q I rx ry ⟨_, _, rfl, rfl, out.bl⟩
theorem od_le : OpR X (compareOp .LtE) (rD X.K leD) := od_cmp op_le fun x y z e => by
  cases x <;> cases y <;> simp only [leD, R.ok.injEq, reduceCtorEq] at e
  exact ⟨_, _, rfl, rfl, e.symm⟩
theorem od_gt : OpR X (compareOp .Gt) (rD X.K gtD) := od_cmp op_gt fun x y z e => by
  cases x <;> cases y <;> simp only [gtD, R.ok.injEq, reduceCtorEq] at e
  exact ⟨_, _, rfl, rfl, e.symm⟩
theorem od_ge : OpR X (compareOp .GtE) (rD X.K geD) := od_cmp op_ge fun x y z e => by
  cases x <;> cases y <;> simp only [geD, R.ok.injEq, reduceCtorEq] at e
  exact ⟨_, _, rfl, rfl, e.symm⟩
theorem od_lt : OpR X (compareOp .Lt) (rD X.K ltD) := by
  intro pins s σ H x y v u Q I rx ry ⟨P, dx, dy, dz, hm, r1, r2, e, out⟩
  cases dx <;> cases dy <;> simp only [ltD, R.ok.injEq, reduceCtorEq] at e
  · subst e
    obtain rfl := r1.int
    obtain rfl := r2.int
    exact op_lt pins s σ H _ _ v u Q I rx ry ⟨_, _, rfl, rfl, out.bl⟩
  · subst e
    obtain rfl := r1.str
    obtain rfl := r2.str
    exact op_lt_str pins s σ H _ _ v u Q I rx ry ⟨_, _, rfl, rfl, out.bl⟩
theorem od_is : OpR X (compareOp .Is) (rD X.K isD) := by
  intro pins s σ H x y v u Q I rx ry ⟨P, dx, dy, dz, hm, r1, r2, e, out⟩
  unfold isD at e
  split at e
  · cases e
    obtain rfl := r2.non
    exact op_isN pins s σ H _ _ v u Q I rx ry ⟨rfl, by rw [r1.isNon]; exact out.bl⟩
  · cases e
    obtain rfl := r1.bl
    obtain rfl := r2.bl
    exact op_is_bl pins s σ H _ _ v u Q I rx ry ⟨_, _, rfl, rfl, out.bl⟩
  · cases e
theorem od_isnot : OpR X (compareOp .IsNot) (rD X.K isNotD) := by
  intro pins s σ H x y v u Q I rx ry ⟨P, dx, dy, dz, hm, r1, r2, e, out⟩
  unfold isNotD at e
  split at e
  · cases e
    obtain rfl := r2.non
    exact op_notN pins s σ H _ _ v u Q I rx ry ⟨rfl, by rw [r1.isNon]; exact out.bl⟩
  · cases e
    obtain rfl := r1.bl
    obtain rfl := r2.bl
    exact op_isnot_bl pins s σ H _ _ v u Q I rx ry ⟨_, _, rfl, rfl, out.bl⟩
  · cases e
theorem one_sign {a : Str} (h : a.length = 1) : a = ⟨#[a.cps.getD 0 0]⟩ := by
  refine Str.ext' ?_
  have h : a.cps.size = 1 := h
  apply Array.ext
  · simpa using h
  · intro i h1 h2
    have : i = 0 := by simp at h2; omega
    subst this
    simp [Array.getD, h]
theorem od_in (hu : X.A.units + 65 < cLine) : OpR X (compareOp .In) (rD X.K inD) := by
  intro pins s σ H x y v u Q I rx ry ⟨P, dx, dy, dz, hm, r1, r2, e, out⟩
  unfold inD at e
  split at e
  · rename_i b eb
    cases e
    unfold inB at eb
    split at eb
    · split at eb
      · rename_i c; cases eb
        obtain rfl := r1.str
        obtain rfl := r2.str
        refine op_in_sign pins s σ H _ _ v u Q I rx ry ⟨_, _, congrArg V.str (one_sign c), rfl, out.bl⟩
      · cases eb
    · split at eb
      · rename_i c; cases eb
        rw [Bool.and_eq_true] at c
        refine op_inD hu pins s σ H _ _ v u Q I rx ry ⟨_, toPys _, r1.dp c.1, by have q := r2.dp c.2; unfold toPy at q; exact q, c.1, by have q := c.2; unfold dOk toPy at q; exact q, ?_⟩
        rw [dp_any]
        exact out.bl
      · cases eb
    · split at eb
      · rename_i c; cases eb
        rw [Bool.and_eq_true] at c
        obtain ⟨a, vs, rfl, h1, h2⟩ := r2.tup
        refine op_in_seq pins s σ H _ _ v u Q I rx ry ⟨a, vs, rfl, .inr (SqT.of h1), flat_rep c.1 (flatW c.1 r1), flats_rep c.2 h2, ?_⟩
        rw [if_neg (by decide), inV_rep c.1 (flatW c.1 r1) c.2 h2]
        exact out.bl
      · cases eb
    · cases eb
  · cases e
theorem od_nin (hu : X.A.units + 65 < cLine) : OpR X (compareOp .NotIn) (rD X.K ninD) := by
  intro pins s σ H x y v u Q I rx ry ⟨P, dx, dy, dz, hm, r1, r2, e, out⟩
  unfold ninD at e
  split at e
  · rename_i b eb
    cases e
    unfold inB at eb
    split at eb
    · split at eb
      · rename_i c; cases eb
        obtain rfl := r1.str
        obtain rfl := r2.str
        refine op_notIn_sign pins s σ H _ _ v u Q I rx ry ⟨_, _, congrArg V.str (one_sign c), rfl, out.bl⟩
      · cases eb
    · split at eb
      · rename_i c; cases eb
        rw [Bool.and_eq_true] at c
        refine op_notInD hu pins s σ H _ _ v u Q I rx ry ⟨_, toPys _, r1.dp c.1, by have q := r2.dp c.2; unfold toPy at q; exact q, c.1, by have q := c.2; unfold dOk toPy at q; exact q, ?_⟩
        rw [dp_any]
        exact out.bl
      · cases eb
    · split at eb
      · rename_i c; cases eb
        rw [Bool.and_eq_true] at c
        obtain ⟨a, vs, rfl, h1, h2⟩ := r2.tup
        refine op_notIn_seq pins s σ H _ _ v u Q I rx ry ⟨a, vs, rfl, .inr (SqT.of h1), flat_rep c.1 (flatW c.1 r1), flats_rep c.2 h2, ?_⟩
        rw [if_pos rfl, inV_rep c.1 (flatW c.1 r1) c.2 h2]
        exact out.bl
      · cases eb
    · cases eb
  · cases e
end
end Y

set_option Elab.async false
set_option linter.all false
set_option maxRecDepth 100000
namespace Y
open PySem PySem.Spec PyProof.Rows L2

/-! ### expressions of two parts -/
section
variable {X : Cx} {P0 : Pr} {O W : List Nat} {E : EK} {a b c : Expr} {ma mb mc : EM} {pos : Pos}
theorem ce_bin {op : Operator} {f : D → D → R D} (ho : OpR X (binaryOp op) (rD X.K f)) (ha : CEx X P0 O W E a ma) (hb : CEx X P0 O W E b mb) : CEx X P0 O W E (.BinOp a op b pos) (cOp f ma mb) := PE.imp (pe_op ho ha hb) tM_op
theorem ce_cmp {op : CmpOp} {f : D → D → R D} (ho : OpR X (compareOp op) (rD X.K f)) (ha : CEx X P0 O W E a ma) (hb : CEx X P0 O W E b mb) (hm : behindInMarks op b = false := by rfl) : CEx X P0 O W E (.Compare a [op] [b] pos) (cOp f ma mb) := PE.imp (pe_cmpR ho ha hb hm) tM_op
/-- a handle's truth -/
def truD : D → R Bool
  | .non => .ok false
  | .bl b => .ok b
  | .int i => .ok (i != 0)
  | .str x => if szOk x.length = true then .ok (x.length != 0) else .stk
  | .tup ds => .ok (!ds.isEmpty)
  | .lst ds => .ok (!ds.isEmpty)
  | .arg ns => .ok (!ns.isEmpty)
  | .dik _ _ => .stk
  | .dit _ _ => .stk
theorem truD_ok {K : PySem.W.Frag} {H : Hp} {P : Pr} {d : D} {v : V} {k : Bool} (h : truD d = .ok k) (r : RepW K H d P v) : TruV K v H k := by
  cases d <;> simp only [truD, R.ok.injEq, reduceCtorEq] at h
  · rw [r.non]; exact h.symm
  · rw [r.bl]; exact h.symm
  · rw [r.int]; exact h.symm
  · split at h
    · rename_i c; cases h
      rw [r.str]
      exact ⟨of_decide_eq_true c, by
        show (_ != _) = (_ != _)
        simp only [bne, Nat.beq_eq_true_eq]
        congr 1
        exact Bool.eq_iff_iff.mpr (by simp)⟩
    · cases h
  · obtain ⟨a, vs, rfl, h1, h2⟩ := r.tup
    refine .inr (.inl ⟨vs, SqT.of h1, ?_⟩)
    rw [← h]
    rename_i ds
    have := h2.length
    cases vs <;> cases ds <;> simp at this ⊢
  · obtain ⟨a, vs, rfl, h1, h2⟩ := r.lst
    refine .inl ⟨vs, SqL.of h1, ?_⟩
    rw [← h]
    rename_i ds
    have := h2.length
    cases vs <;> cases ds <;> simp at this ⊢
  · obtain ⟨a, rfl, h1⟩ := r.arg
    refine .inl ⟨_, h1, ?_⟩
    rw [← h]
    rename_i ns
    cases ns <;> rfl
/-! ### tests -/
abbrev CT (X : Cx) (P0 : Pr) (O W : List Nat) (E : EK) (e : Expr) (m : BM) : Prop := PT X e (tMt X.K P0 O W E m)
def cTru (m : EM) : BM := fun ρ => do
  let (h, ρ1) ← m ρ
  let d ← (h.d ρ1).nox
  let b ← (truD d).nox
  pure (b, ρ1)
theorem ct_val (ha : CEx X P0 O W E a ma) (he : ∀ whole, isTrue a X.env whole = (do let v ← whole; standAt a.pos; holding [v] (truthy v)) := by intro _; rfl) : CT X P0 O W E a (cTru ma) := PT.imp (pt_truth ha he) fun σ H Q ⟨ρ, S, h⟩ =>
  ⟨ρ, S, h.of_bind.mono fun ⟨h1, ρ1⟩ q v H1 S1 k1 r1 => by
    obtain ⟨d, e1, q⟩ := q.of_nox
    obtain ⟨k, e2, q⟩ := q.of_nox
    exact ⟨k, truD_ok e2 (r1.d S1 e1), q H1 S1 k1⟩⟩
/-- a comparison as a test -/
def cBl (m : EM) : BM := fun ρ => do
  let (h, ρ1) ← m ρ
  let d ← h.v.nox
  match d with
  | .bl k => pure (k, ρ1)
  | _ => .stk
theorem tM_bl {m : EM} (σ : St) (H : Hp) (Q : Bool → Hp → Prop) (h : tMt X.K P0 O W E (cBl m) σ H Q) : tTest (tM X.K P0 O W E m) σ H Q := by
  obtain ⟨ρ, S, h⟩ := h
  refine ⟨ρ, S, h.of_bind.mono fun ⟨h1, ρ1⟩ q v H1 S1 k1 r1 => ?_⟩
  obtain ⟨d, e1, q⟩ := q.of_nox
  have r := r1.v e1
  cases d <;> first | (exact q.elim) | skip
  unfold Rep at r
  exact ⟨_, r, q H1 S1 k1⟩
theorem tTest_imp {t t' : TE} (i : ∀ σ H Q, t' σ H Q → t σ H Q) {σ : St} {H : Hp} {Q : Bool → Hp → Prop} (h : tTest t' σ H Q) : tTest t σ H Q := i σ H _ h
theorem ct_cmp {op : CmpOp} {f : D → D → R D} (ho : OpR X (compareOp op) (rD X.K f)) (ha : CEx X P0 O W E a ma) (hb : CEx X P0 O W E b mb) (hm : behindInMarks op b = false := by rfl) : CT X P0 O W E (.Compare a [op] [b] pos) (cBl (cOp f ma mb)) := PT.imp (pt_cmpR ho ha hb hm) fun σ H Q h => tTest_imp tM_op (tM_bl σ H Q h)
def cNotT (m : BM) : BM := fun ρ => do
  let (b, ρ1) ← m ρ
  pure (!b, ρ1)
theorem ct_not {m : BM} (h : CT X P0 O W E a m) : CT X P0 O W E (.UnaryOp .Not a pos) (cNotT m) := PT.imp (pt_not h) fun σ H Q ⟨ρ, S, h⟩ => ⟨ρ, S, h.of_bind.mono fun ⟨b, ρ1⟩ q => q⟩
abbrev CW (X : Cx) (P0 : Pr) (O W : List Nat) (E : EK) (e : Expr) (m : BM) : Prop := PW X e (tMt X.K P0 O W E m)
def cAndT (a b : BM) : BM := fun ρ => do
  let (k, ρ1) ← a ρ
  if k = true then b ρ1 else pure (false, ρ1)
def cOrT (a b : BM) : BM := fun ρ => do
  let (k, ρ1) ← a ρ
  if k = true then pure (true, ρ1) else b ρ1
theorem cw_and1 {m : BM} (h : CT X P0 O W E a m) : CW X P0 O W E (.BoolOp .And [a] pos) m := pw_and1 h
theorem cw_or1 {m : BM} (h : CT X P0 O W E a m) : CW X P0 O W E (.BoolOp .Or [a] pos) m := pw_or1 h
theorem cw_and {rest : List Expr} {m n : BM} (h : CT X P0 O W E a m) (h2 : CW X P0 O W E (.BoolOp .And (b :: rest) pos) n) : CW X P0 O W E (.BoolOp .And (a :: b :: rest) pos) (cAndT m n) := PW.imp (pw_and h h2) fun σ H Q ⟨ρ, S, h⟩ =>
  ⟨ρ, S, h.of_bind.mono fun ⟨k, ρ1⟩ q H1 S1 k1 => by
    cases k with
    | true => exact ⟨ρ1, S1, (q.keep k1).mono fun ⟨k2, ρ2⟩ q2 H2 S2 k3 => q2 H2 S2 (k1.trans k3)⟩
    | false => exact q H1 S1 k1⟩
theorem cw_or {rest : List Expr} {m n : BM} (h : CT X P0 O W E a m) (h2 : CW X P0 O W E (.BoolOp .Or (b :: rest) pos) n) : CW X P0 O W E (.BoolOp .Or (a :: b :: rest) pos) (cOrT m n) := PW.imp (pw_or h h2) fun σ H Q ⟨ρ, S, h⟩ =>
  ⟨ρ, S, h.of_bind.mono fun ⟨k, ρ1⟩ q H1 S1 k1 => by
    cases k with
    | false => exact ⟨ρ1, S1, (q.keep k1).mono fun ⟨k2, ρ2⟩ q2 H2 S2 k3 => q2 H2 S2 (k1.trans k3)⟩
    | true => exact q H1 S1 k1⟩
theorem ct_w {m : BM} (h : CW X P0 O W E a m) : CT X P0 O W E a m := h.pt
/-! ### and, or, not, if else as values -/
theorem HdR.then {K : PySem.W.Frag} {ρ : Env} {σ : St} {H H1 H2 : Hp} {hd : Hd} {v : V} (k : Keep W σ H H1) (r : HdR K P0 O H1 σ H2 hd v) : HdR K P0 O H σ H2 hd v := r.back k.some
def cAnd (a b : EM) : EM := fun ρ => do
  let (h, ρ1) ← a ρ
  let d ← (h.d ρ1).nox
  let k ← (truD d).nox
  if k = true then b ρ1 else pure (h, ρ1)
def cOr (a b : EM) : EM := fun ρ => do
  let (h, ρ1) ← a ρ
  let d ← (h.d ρ1).nox
  let k ← (truD d).nox
  if k = true then pure (h, ρ1) else b ρ1
def cNot (m : EM) : EM := fun ρ => do
  let (h, ρ1) ← m ρ
  let d ← (h.d ρ1).nox
  let k ← (truD d).nox
  pure (.fr (.bl (!k)), ρ1)
theorem ce_one {op : BoolOp} (h : CEx X P0 O W E a ma) : CEx X P0 O W E (.BoolOp op [a] pos) ma := pe_one h
theorem ce_and {rest : List Expr} (h : CEx X P0 O W E a ma) (h2 : CEx X P0 O W E (.BoolOp .And (b :: rest) pos) mb) : CEx X P0 O W E (.BoolOp .And (a :: b :: rest) pos) (cAnd ma mb) := PE.imp (pe_andT h h2) fun σ H Q ⟨ρ, S, h⟩ =>
  ⟨ρ, S, h.of_bind.mono fun ⟨h1, ρ1⟩ q v H1 S1 k1 r1 => by
    obtain ⟨d, e1, q⟩ := q.of_nox
    obtain ⟨k, e2, q⟩ := q.of_nox
    refine ⟨k, truD_ok e2 (r1.d S1 e1), ?_⟩
    cases k with
    | true => exact ⟨ρ1, S1, (q.keep k1).mono fun ⟨h2, ρ2⟩ q2 w H2 S2 k2 r2 => q2 w H2 S2 (k1.trans k2) (r2.back k1.some)⟩
    | false => exact q v H1 S1 k1 r1⟩
theorem ce_or {rest : List Expr} (h : CEx X P0 O W E a ma) (h2 : CEx X P0 O W E (.BoolOp .Or (b :: rest) pos) mb) : CEx X P0 O W E (.BoolOp .Or (a :: b :: rest) pos) (cOr ma mb) := PE.imp (pe_orT h h2) fun σ H Q ⟨ρ, S, h⟩ =>
  ⟨ρ, S, h.of_bind.mono fun ⟨h1, ρ1⟩ q v H1 S1 k1 r1 => by
    obtain ⟨d, e1, q⟩ := q.of_nox
    obtain ⟨k, e2, q⟩ := q.of_nox
    refine ⟨k, truD_ok e2 (r1.d S1 e1), ?_⟩
    cases k with
    | false => exact ⟨ρ1, S1, (q.keep k1).mono fun ⟨h2, ρ2⟩ q2 w H2 S2 k2 r2 => q2 w H2 S2 (k1.trans k2) (r2.back k1.some)⟩
    | true => exact q v H1 S1 k1 r1⟩
theorem ce_not (h : CEx X P0 O W E a ma) : CEx X P0 O W E (.UnaryOp .Not a pos) (cNot ma) := PE.imp (pe_notT h) fun σ H Q ⟨ρ, S, h⟩ =>
  ⟨ρ, S, h.of_bind.mono fun ⟨h1, ρ1⟩ q v H1 S1 k1 r1 => by
    obtain ⟨d, e1, q⟩ := q.of_nox
    obtain ⟨k, e2, q⟩ := q.of_nox
    exact ⟨k, truD_ok e2 (r1.d S1 e1), (out_of S1 k1 q).bl⟩⟩
def cIf (t : BM) (a b : EM) : EM := fun ρ => do
  let (k, ρ1) ← t ρ
  if k = true then a ρ1 else b ρ1
theorem ce_if {m : BM} (h : CT X P0 O W E c m) (ha : CEx X P0 O W E a ma) (hb : CEx X P0 O W E b mb) : CEx X P0 O W E (.IfExp c a b pos) (cIf m ma mb) := PE.imp (pe_ifExp h ha hb) fun σ H Q ⟨ρ, S, h⟩ =>
  ⟨ρ, S, h.of_bind.mono fun ⟨k, ρ1⟩ q H1 S1 k1 => by
    cases k with
    | true => exact ⟨ρ1, S1, (q.keep k1).mono fun ⟨h2, ρ2⟩ q2 w H2 S2 k2 r2 => q2 w H2 S2 (k1.trans k2) (r2.back k1.some)⟩
    | false => exact ⟨ρ1, S1, (q.keep k1).mono fun ⟨h2, ρ2⟩ q2 w H2 S2 k2 r2 => q2 w H2 S2 (k1.trans k2) (r2.back k1.some)⟩⟩
/-! ### a < b < c -/
def cChain2 (g : D → D → R D) (c : EM) (h2 : Hd) : EM := fun ρ2 => do
  let (h3, ρ3) ← c ρ2
  let y ← (h2.d ρ3).nox
  let w ← (h3.d ρ3).nox
  let z ← (g y w).nox
  pure (.fr z, ρ3)
def cChain (f g : D → D → R D) (a b c : EM) : EM := fun ρ => do
  let (h1, ρ1) ← a ρ
  let (h2, ρ2) ← b ρ1
  let x ← (h1.d ρ2).nox
  let y ← (h2.d ρ2).nox
  let z ← (f x y).nox
  match z with
  | .bl k => if k = true then cChain2 g c h2 ρ2 else .ok (.fr (.bl false), ρ2)
  | _ => .stk
theorem tM_chain {f g : D → D → R D} (σ : St) (H : Hp) (Q : VK) (h : tM X.K P0 O W E (cChain f g ma mb mc) σ H Q) : tChain (rD X.K f) (rD X.K g) (tM X.K P0 O W E ma) (tM X.K P0 O W E mb) (tM X.K P0 O W E mc) σ H Q := by
  obtain ⟨ρ, S, h⟩ := h
  refine ⟨ρ, S, h.of_bind.mono fun ⟨h1, ρ1⟩ q x H1 S1 k1 r1 => ⟨ρ1, S1, (q.keep k1).of_bind.mono fun ⟨h2, ρ2⟩ q2 y H2 S2 k2 r2 => ?_⟩⟩
  obtain ⟨dx, e1, q3⟩ := q2.of_nox
  obtain ⟨dy, e2, q4⟩ := q3.of_nox
  obtain ⟨dz, e3, q5⟩ := q4.of_nox
  refine ⟨FA P0 O σ, dx, dy, dz, S2.dom, (r1.keep S1 k2).d S2 e1, r2.d S2 e2, e3, fun v H3 sm r fr => ?_⟩
  cases dz <;> first | (exact q5.elim) | skip
  rename_i bb
  unfold Rep at r
  refine ⟨bb, r, ?_⟩
  have k3 : Keep W σ H2 H3 := Keep.same sm
  have S3 := S2.same sm
  cases bb with
  | false =>
    refine (if_neg Bool.false_ne_true).mpr ?_
    exact (q5 : ∀ v H', _) (.bl false) H3 S3 ((k1.trans k2).trans k3) ⟨by unfold Rep; rfl, fun z => by cases z⟩
  | true =>
    have q5 : Res E W σ H1 (cChain2 g mc h2 ρ2) _ := q5
    unfold cChain2 at q5
    refine (if_pos rfl).mpr ⟨ρ2, S3, (q5.keep (k2.trans k3)).of_bind.mono fun ⟨h3, ρ3⟩ q6 w H4 S4 k4 r4 => ?_⟩
    obtain ⟨dy2, e5, q7⟩ := q6.of_nox
    obtain ⟨dw, e6, q8⟩ := q7.of_nox
    obtain ⟨du, e7, q9⟩ := q8.of_nox
    exact ⟨FA P0 O σ, dy2, dw, du, S4.dom, ((r2.keep S2 k3).keep S3 k4).d S4 e5, r4.d S4 e6, e7, out_of S4 (((k1.trans k2).trans k3).trans k4) q9⟩
theorem ce_chain {op op' : CmpOp} {f g : D → D → R D} (ho : OpR X (compareOp op) (rD X.K f)) (ho' : OpR X (compareOp op') (rD X.K g)) (ha : CEx X P0 O W E a ma) (hb : CEx X P0 O W E b mb) (hc : CEx X P0 O W E c mc)
    (hm : lastMarks [op, op'] [b, c] = false := by with_unfolding_all rfl) : CEx X P0 O W E (.Compare a [op, op'] [b, c] pos) (cChain f g ma mb mc) := PE.imp (pe_chain ho ho' ha hb hc hm) tM_chain
theorem ct_chain {op op' : CmpOp} {f g : D → D → R D} (ho : OpR X (compareOp op) (rD X.K f)) (ho' : OpR X (compareOp op') (rD X.K g)) (ha : CEx X P0 O W E a ma) (hb : CEx X P0 O W E b mb) (hc : CEx X P0 O W E c mc)
    (hm : lastMarks [op, op'] [b, c] = false := by with_unfolding_all rfl) : CT X P0 O W E (.Compare a [op, op'] [b, c] pos) (cBl (cChain f g ma mb mc)) := PT.imp (pt_chain ho ho' ha hb hc hm) fun σ H Q h => tTest_imp tM_chain (tM_bl σ H Q h)
/-! ### -a -/
def cNeg (m : EM) : EM := fun ρ => do
  let (h, ρ1) ← m ρ
  let d ← h.v.nox
  match d with
  | .int i => pure (.fr (.int (-i)), ρ1)
  | _ => .stk
theorem ce_neg (h : CEx X P0 O W E a ma) : CEx X P0 O W E (.UnaryOp .USub a pos) (cNeg ma) := PE.imp (pe_un un_neg h) fun σ H Q ⟨ρ, S, h⟩ =>
  ⟨ρ, S, h.of_bind.mono fun ⟨h1, ρ1⟩ q v H1 S1 k1 r1 => by
    obtain ⟨d, e1, q⟩ := q.of_nox
    have r := r1.v e1
    cases d <;> first | (exact q.elim) | skip
    unfold Rep at r
    exact ⟨_, r, (out_of S1 k1 q).int⟩⟩
end
end Y

set_option Elab.async false
set_option linter.all false
set_option maxRecDepth 100000
namespace Y
open PySem PySem.Spec PyProof.Rows L2

/-! ### arguments, displays -/
def cNil : AM := fun ρ => .ok ([], ρ)
def cCons (a : EM) (as : AM) : AM := fun ρ => do
  let (h, ρ1) ← a ρ
  let (hs, ρ2) ← as ρ1
  pure (h :: hs, ρ2)
def vsOf : List Hd → R (List D)
  | [] => .ok []
  | h :: hs => do
    let d ← h.v.nox
    let ds ← vsOf hs
    pure (d :: ds)
def dsOf : List Hd → Env → R (List D)
  | [], _ => .ok []
  | h :: hs, ρ => do
    let d ← (h.d ρ).nox
    let ds ← dsOf hs ρ
    pure (d :: ds)
def RepWs (K : PySem.W.Frag) (H : Hp) : List D → Pr → List V → Prop
  | [], _, vs => vs = []
  | d :: ds, P, vs => ∃ v ws, vs = v :: ws ∧ RepW K H d P v ∧ RepWs K H ds P ws
theorem R.ok_of {α β : Type} {r : R α} {f : α → R β} {b : β} (h : (r >>= f) = .ok b) : ∃ a, r = .ok a ∧ f a = .ok b := by
  cases r with
  | ok a => exact ⟨a, rfl, h⟩
  | er c ds => cases h
  | stk => cases h
theorem R.nox_of {α : Type} {r : R α} {a : α} (h : r.nox = .ok a) : r = .ok a := by cases r <;> first | exact h | cases h
theorem RepWs.get1 {K : PySem.W.Frag} {H : Hp} {d : D} {P : Pr} {vs : List V} (h : RepWs K H [d] P vs) : ∃ v, vs = [v] ∧ RepW K H d P v := by
  obtain ⟨v, ws, rfl, h1, h2⟩ := h
  have h2 : ws = [] := h2
  subst h2
  exact ⟨v, rfl, h1⟩
theorem RepWs.get2 {K : PySem.W.Frag} {H : Hp} {d e : D} {P : Pr} {vs : List V} (h : RepWs K H [d, e] P vs) : ∃ v w, vs = [v, w] ∧ RepW K H d P v ∧ RepW K H e P w := by
  obtain ⟨v, ws, rfl, h1, h2⟩ := h
  obtain ⟨w, rfl, h3⟩ := RepWs.get1 h2
  exact ⟨v, w, rfl, h1, h3⟩
section
variable {K : PySem.W.Frag} {P0 : Pr} {O W : List Nat} {ρ : Env} {σ : St} {Hs H : Hp}
theorem HdRs.vs : ∀ {hs : List Hd} {vs : List V} {ds : List D}, HdRs K P0 O Hs σ H hs vs → vsOf hs = .ok ds → Reps K H ds (FA P0 O σ) vs
  | [], _, _, r, e => by cases e; have r : _ = [] := r; subst r; exact Reps.nil
  | h :: hs, _, _, ⟨v, ws, e, r1, r2⟩, q => by
    obtain ⟨d, e1, q⟩ := R.ok_of q
    obtain ⟨ds, e2, q⟩ := R.ok_of q
    cases q
    subst e
    exact Reps.cons (r1.v (R.nox_of e1)) (HdRs.vs r2 e2)
theorem HdRs.ds (S : Sim K P0 O W ρ σ H) : ∀ {hs : List Hd} {vs : List V} {ds : List D}, HdRs K P0 O Hs σ H hs vs → dsOf hs ρ = .ok ds → RepWs K H ds (FA P0 O σ) vs
  | [], _, _, r, e => by cases e; exact r
  | h :: hs, _, _, ⟨v, ws, e, r1, r2⟩, q => by
    obtain ⟨d, e1, q⟩ := R.ok_of q
    obtain ⟨ds, e2, q⟩ := R.ok_of q
    cases q
    subst e
    exact ⟨v, ws, rfl, r1.d S (R.nox_of e1), HdRs.ds S r2 e2⟩
end
section
variable {X : Cx} {P0 : Pr} {O W : List Nat} {E : EK} {a b c e : Expr} {es : List Expr} {ma mb mc : EM} {ms : AM} {pos : Pos}
abbrev CA (X : Cx) (P0 : Pr) (O W : List Nat) (E : EK) (es : List Expr) (m : AM) : Prop := PA X es (tMs X.K P0 O W E m)
theorem ca_nil : CA X P0 O W E [] cNil := PA.imp pa_nil fun σ H Q ⟨ρ, S, h⟩ => h [] H S .refl rfl
theorem ca_cons (h : CEx X P0 O W E e ma) (hs : CA X P0 O W E es ms) (hst : starEach (e :: es) X.env = (false, eval e X.env) :: starEach es X.env := by rfl) : CA X P0 O W E (e :: es) (cCons ma ms) := PA.imp (pa_cons h hs hst) fun σ H Q ⟨ρ, S, h⟩ =>
  ⟨ρ, S, h.of_bind.mono fun ⟨h1, ρ1⟩ q v H1 S1 k1 r1 => ⟨ρ1, S1, (q.keep k1).of_bind.mono fun ⟨hs, ρ2⟩ q2 vs H2 S2 k2 r2 => q2 _ H2 S2 (k1.trans k2) ⟨v, vs, rfl, r1.keep S1 k2, HdRs.back k1.some r2⟩⟩⟩
def cTup (m : AM) : EM := fun ρ => do
  let (hs, ρ1) ← m ρ
  let ds ← (vsOf hs).nox
  if szOk ds.length = true then pure (.fr (.tup ds), ρ1) else .stk
def cLst (m : AM) : EM := fun ρ => do
  let (hs, ρ1) ← m ρ
  let ds ← (vsOf hs).nox
  if szOk ds.length = true then pure (.fr (.lst ds), ρ1) else .stk
theorem ce_tup {x1} (h : CA X P0 O W E es ms) : CEx X P0 O W E (.Tuple es x1 pos) (cTup ms) := PE.imp (pe_tup h) fun σ H Q ⟨ρ, S, h⟩ =>
  ⟨ρ, S, h.of_bind.mono fun ⟨hs, ρ1⟩ q vs H1 S1 k1 r1 => by
    obtain ⟨ds, e1, q⟩ := q.of_nox
    have rr := HdRs.vs r1 e1
    by_cases c : szOk ds.length = true
    · rw [if_pos c] at q
      exact ⟨by rw [rr.length]; exact of_decide_eq_true c, fun p hp => (out_of S1 k1 q).newT S1.dom rr hp⟩
    · rw [if_neg c] at q
      exact q.elim⟩
theorem ce_lst (h : CA X P0 O W E es ms) : CEx X P0 O W E (.List es pos) (cLst ms) := PE.imp (pe_lst h) fun σ H Q ⟨ρ, S, h⟩ =>
  ⟨ρ, S, h.of_bind.mono fun ⟨hs, ρ1⟩ q vs H1 S1 k1 r1 => by
    obtain ⟨ds, e1, q⟩ := q.of_nox
    have rr := HdRs.vs r1 e1
    by_cases c : szOk ds.length = true
    · rw [if_pos c] at q
      exact ⟨by rw [rr.length]; exact of_decide_eq_true c, fun p hp => (out_of S1 k1 q).newL S1.dom rr hp⟩
    · rw [if_neg c] at q
      exact q.elim⟩

/-! ### built-ins called -/
def cCall (f : List D → R D) (m : AM) : EM := fun ρ => do
  let (hs, ρ1) ← m ρ
  let ds ← (dsOf hs ρ1).nox
  let z ← (f ds).nox
  pure (.fr z, ρ1)
def rDs (K : PySem.W.Frag) (f : List D → R D) : List V → Hp → VK → Prop := fun xs H Q => ∃ (P : Pr) (ds : List D) (dz : D), (∀ b, P b → isMut (H b)) ∧ RepWs K H ds P xs ∧ f ds = .ok dz ∧ Out K P H dz Q
theorem tM_call {f : List D → R D} (σ : St) (H : Hp) (Q : VK) (h : tM X.K P0 O W E (cCall f ms) σ H Q) : tCB (rDs X.K f) (tMs X.K P0 O W E ms) σ H Q := by
  obtain ⟨ρ, S, h⟩ := h
  refine ⟨ρ, S, h.of_bind.mono fun ⟨hs, ρ1⟩ q vs H1 S1 k1 r1 => ?_⟩
  obtain ⟨ds, e1, q⟩ := q.of_nox
  obtain ⟨z, e2, q⟩ := q.of_nox
  exact ⟨FA P0 O σ, ds, z, S1.dom, HdRs.ds S1 r1 e1, e2, out_of S1 k1 q⟩
theorem ce_callB {f : List D → R D} {id : String} {x : Str} {p : Pos} (hc : CallR X (.builtin id) (rDs X.K f)) (hm : X.mg x = none) (hv : bootBuiltins x = some (.builtin id)) (ha : CA X P0 O W E (e :: es) ms) (hg : Gl X x := by rfl) (hn : x ≠ "__name__" := by decide) (hdb : (x == ("__debug__" : Str)) = false := by decide)
    (he : starEach (e :: es) X.env = (false, eval e X.env) :: starEach es X.env := by rfl) (hpl : (backTo pos (starEach es X.env)).any (·.1) = false := by rfl) : CEx X P0 O W E (.Call (.Name x p) (e :: es) [] pos) (cCall f ms) := PE.imp (pe_callB hc hg hm hv ha hn hdb he hpl) tM_call
theorem ce_callT {f : List D → R D} {T : String} {x : Str} {p : Pos} (hc : CallR X (.type T) (rDs X.K f)) (hm : X.mg x = none) (hv : bootBuiltins x = some (.type T)) (ha : CA X P0 O W E (e :: es) ms) (hg : Gl X x := by rfl) (hn : x ≠ "__name__" := by decide) (hdb : (x == ("__debug__" : Str)) = false := by decide)
    (he : starEach (e :: es) X.env = (false, eval e X.env) :: starEach es X.env := by rfl) (hpl : (backTo pos (starEach es X.env)).any (·.1) = false := by rfl) : CEx X P0 O W E (.Call (.Name x p) (e :: es) [] pos) (cCall f ms) := PE.imp (pe_callTy hc hg hm hv ha hn hdb he hpl) tM_call
def lenD : List D → R D
  | [.str x] => if szOk x.length = true then .ok (.int x.length) else .stk
  | [.tup ds] => .ok (.int ds.length)
  | [.lst ds] => .ok (.int ds.length)
  | [.arg ns] => .ok (.int ns.length)
  | _ => .stk
def max2D : List D → R D
  | [.int i, .int j] => .ok (.int (max i j))
  | _ => .stk
def min2D : List D → R D
  | [.int i, .int j] => .ok (.int (min i j))
  | _ => .stk
def divmodD : List D → R D
  | [.int i, .int j] => if smallPos j = true then .ok (.tup [.int (i / j), .int (i % j)]) else .stk
  | _ => .stk
/-- the ints of a list -/
def intsOf : List D → Option (List Int)
  | [] => some []
  | .int i :: ds => (intsOf ds).map (i :: ·)
  | _ => none
def blsOf : List D → Option (List Bool)
  | [] => some []
  | .bl i :: ds => (blsOf ds).map (i :: ·)
  | _ => none
def strsOf : List D → Option (List Str)
  | [] => some []
  | .str i :: ds => (strsOf ds).map (i :: ·)
  | _ => none
def sumD : List D → R D
  | [.lst ds] => match intsOf ds with
    | some ns => .ok (.int ns.sum)
    | none => .stk
  | _ => .stk
def allD : List D → R D
  | [.lst ds] => match blsOf ds with
    | some bs => .ok (.bl (bs.all id))
    | none => .stk
  | _ => .stk
def anyD : List D → R D
  | [.lst ds] => match blsOf ds with
    | some bs => .ok (.bl (bs.any id))
    | none => .stk
  | _ => .stk
/-- tuple(x), list(x) -/
def tupleD : List D → R D
  | [.lst ds] => .ok (.tup ds)
  | [.tup ds] => .ok (.tup ds)
  | _ => .stk
def listD : List D → R D
  | [.lst ds] => .ok (.lst ds)
  | [.tup ds] => .ok (.lst ds)
  | _ => .stk
def intOfD : List D → R D
  | [.int i] => .ok (.int i)
  | [.bl k] => .ok (.int (if k then 1 else 0))
  | [.str x] => if x.length = 1 ∧ 48 ≤ x.cps.getD 0 0 ∧ x.cps.getD 0 0 < 58 then .ok (.int ((x.cps.getD 0 0 : Nat) - 48)) else .stk
  | _ => .stk
def boolOfD : List D → R D
  | [.int i] => .ok (.bl (i != 0))
  | [.bl k] => .ok (.bl k)
  | _ => .stk
def strOfD : List D → R D
  | [.int i] => if i.natAbs.log2 < 1920 then .ok (.str (toString i)) else .stk
  | _ => .stk
theorem ints_rep {K : PySem.W.Frag} {H : Hp} {P : Pr} : ∀ {ds : List D} {ns : List Int} {vs : List V}, intsOf ds = some ns → Reps K H ds P vs → vs = ns.map V.int
  | [], ns, vs, e, h => by simp [intsOf] at e; subst e; exact h.nil_iff
  | d :: ds, ns, vs, e, h => by
    cases d <;> simp [intsOf] at e
    obtain ⟨ms, e1, rfl⟩ := e
    obtain ⟨v, ws, rfl, h1, h2⟩ := h.cons_iff
    unfold Rep at h1
    rw [h1, ints_rep e1 h2]
    rfl
theorem bls_rep {K : PySem.W.Frag} {H : Hp} {P : Pr} : ∀ {ds : List D} {ns : List Bool} {vs : List V}, blsOf ds = some ns → Reps K H ds P vs → vs = ns.map V.bl
  | [], ns, vs, e, h => by simp [blsOf] at e; subst e; exact h.nil_iff
  | d :: ds, ns, vs, e, h => by
    cases d <;> simp [blsOf] at e
    obtain ⟨ms, e1, rfl⟩ := e
    obtain ⟨v, ws, rfl, h1, h2⟩ := h.cons_iff
    unfold Rep at h1
    rw [h1, bls_rep e1 h2]
    rfl
theorem strs_rep {K : PySem.W.Frag} {H : Hp} {P : Pr} : ∀ {ds : List D} {ns : List Str} {vs : List V}, strsOf ds = some ns → Reps K H ds P vs → vs = ns.map V.str
  | [], ns, vs, e, h => by simp [strsOf] at e; subst e; exact h.nil_iff
  | d :: ds, ns, vs, e, h => by
    cases d <;> simp [strsOf] at e
    obtain ⟨ms, e1, rfl⟩ := e
    obtain ⟨v, ws, rfl, h1, h2⟩ := h.cons_iff
    unfold Rep at h1
    rw [h1, strs_rep e1 h2]
    rfl
theorem int2_of {f : Int → Int → D} {g : List D → R D} {ds : List D} {z : D} (hg : ∀ ds, g ds = match ds with | [.int i, .int j] => .ok (f i j) | _ => .stk) (h : g ds = .ok z) : ∃ i j, ds = [.int i, .int j] ∧ z = f i j := by
  rw [hg] at h
  split at h
  · cases h; exact ⟨_, _, rfl, rfl⟩
  · cases h
theorem cd_len : CallR X (.builtin "len") (rDs X.K lenD) := by
  intro pins s σ H xs us Q I r ⟨P, ds, dz, hm, rs, e, out⟩
  unfold lenD at e
  split at e
  · split at e
    · rename_i c; cases e
      obtain ⟨v, rfl, r1⟩ := rs.get1
      obtain rfl := r1.str
      exact call_len pins s σ H _ us Q I r ⟨_, _, rfl, ⟨of_decide_eq_true c, rfl⟩, out.int⟩
    · cases e
  · cases e
    obtain ⟨v, rfl, r1⟩ := rs.get1
    obtain ⟨a, vs, rfl, h1, h2⟩ := r1.tup
    rw [← h2.length] at out
    exact call_len pins s σ H _ us Q I r ⟨_, _, rfl, .inr ⟨vs, SqT.of h1, rfl⟩, out.int⟩
  · cases e
    obtain ⟨v, rfl, r1⟩ := rs.get1
    obtain ⟨a, vs, rfl, h1, h2⟩ := r1.lst
    rw [← h2.length] at out
    exact call_len pins s σ H _ us Q I r ⟨_, _, rfl, .inl ⟨vs, SqL.of h1, rfl⟩, out.int⟩
  · cases e
    obtain ⟨v, rfl, r1⟩ := rs.get1
    obtain ⟨a, rfl, h1⟩ := r1.arg
    refine call_len pins s σ H _ us Q I r ⟨_, _, rfl, .inl ⟨_, h1, rfl⟩, ?_⟩
    rw [List.length_map]
    exact out.int
  · cases e
theorem cd_max (hc : X.calm = true) : CallR X (.builtin "max") (rDs X.K max2D) := by
  intro pins s σ H xs us Q I r ⟨P, ds, dz, hm, rs, e, out⟩
  obtain ⟨i, j, rfl, rfl⟩ := int2_of (f := fun i j => .int (max i j)) (fun ds => by unfold max2D; rfl) e
  obtain ⟨v, w, rfl, r1, r2⟩ := rs.get2
  obtain rfl := r1.int
  obtain rfl := r2.int
  refine call_max2 hc pins s σ H _ us Q I r ⟨i, j, rfl, ?_⟩
  rw [show (if j > i then j else i) = max i j by omega]
  exact out.int
theorem cd_min (hc : X.calm = true) : CallR X (.builtin "min") (rDs X.K min2D) := by
  intro pins s σ H xs us Q I r ⟨P, ds, dz, hm, rs, e, out⟩
  obtain ⟨i, j, rfl, rfl⟩ := int2_of (f := fun i j => .int (min i j)) (fun ds => by unfold min2D; rfl) e
  obtain ⟨v, w, rfl, r1, r2⟩ := rs.get2
  obtain rfl := r1.int
  obtain rfl := r2.int
  refine call_min2 hc pins s σ H _ us Q I r ⟨i, j, rfl, ?_⟩
  rw [show (if j < i then j else i) = min i j by omega]
  exact out.int
theorem cd_divmod : CallR X (.builtin "divmod") (rDs X.K divmodD) := by
  intro pins s σ H xs us Q I r ⟨P, ds, dz, hm, rs, e, out⟩
  unfold divmodD at e
  split at e
  · split at e
    · rename_i c; cases e
      obtain ⟨v, w, rfl, r1, r2⟩ := rs.get2
      obtain rfl := r1.int
      obtain rfl := r2.int
      refine call_divmod pins s σ H _ us Q I r ⟨_, _, rfl, by unfold smallPos at c; have c := of_decide_eq_true c; exact c, fun p hp => out.newT hm (Reps.cons (by unfold Rep; rfl) (Reps.cons (by unfold Rep; rfl) Reps.nil)) hp⟩
    · cases e
  · cases e
theorem cd_sum (hc : X.calm = true) : CallR X (.builtin "sum") (rDs X.K sumD) := by
  intro pins s σ H xs us Q I r ⟨P, ds, dz, hm, rs, e, out⟩
  unfold sumD at e
  split at e
  · split at e
    · rename_i ns c; cases e
      obtain ⟨v, rfl, r1⟩ := rs.get1
      obtain ⟨a, vs, rfl, h1, h2⟩ := r1.lst
      obtain rfl := ints_rep c h2
      exact cr_sum hc pins s σ H _ us Q I r ⟨a, ns, rfl, SqL.of h1, out.int⟩
    · cases e
  · cases e
theorem cd_all (hc : X.calm = true) : CallR X (.builtin "all") (rDs X.K allD) := by
  intro pins s σ H xs us Q I r ⟨P, ds, dz, hm, rs, e, out⟩
  unfold allD at e
  split at e
  · split at e
    · rename_i ns c; cases e
      obtain ⟨v, rfl, r1⟩ := rs.get1
      obtain ⟨a, vs, rfl, h1, h2⟩ := r1.lst
      obtain rfl := bls_rep c h2
      exact cr_all hc pins s σ H _ us Q I r ⟨a, ns, rfl, SqL.of h1, out.bl⟩
    · cases e
  · cases e
theorem cd_any (hc : X.calm = true) : CallR X (.builtin "any") (rDs X.K anyD) := by
  intro pins s σ H xs us Q I r ⟨P, ds, dz, hm, rs, e, out⟩
  unfold anyD at e
  split at e
  · split at e
    · rename_i ns c; cases e
      obtain ⟨v, rfl, r1⟩ := rs.get1
      obtain ⟨a, vs, rfl, h1, h2⟩ := r1.lst
      obtain rfl := bls_rep c h2
      exact cr_any hc pins s σ H _ us Q I r ⟨a, ns, rfl, SqL.of h1, out.bl⟩
    · cases e
  · cases e
theorem cd_tuple : CallR X (.type "tuple") (rDs X.K tupleD) := by
  intro pins s σ H xs us Q I r ⟨P, ds, dz, hm, rs, e, out⟩
  unfold tupleD at e
  split at e
  · cases e
    obtain ⟨v, rfl, r1⟩ := rs.get1
    obtain ⟨a, vs, rfl, h1, h2⟩ := r1.lst
    exact call_tuple_of pins s σ H _ us Q I r ⟨a, vs, rfl, .inl ⟨SqL.of h1, fun l hl => out.newT hm h2 hl⟩⟩
  · cases e
    obtain ⟨v, rfl, r1⟩ := rs.get1
    obtain ⟨a, vs, rfl, h1, h2⟩ := r1.tup
    exact call_tuple_of pins s σ H _ us Q I r ⟨a, vs, rfl, .inr ⟨SqT.of h1, out.flat (Rep.tup_of h1 h2) rfl⟩⟩
  · cases e
theorem cd_list : CallR X (.type "list") (rDs X.K listD) := by
  intro pins s σ H xs us Q I r ⟨P, ds, dz, hm, rs, e, out⟩
  unfold listD at e
  split at e
  · cases e
    obtain ⟨v, rfl, r1⟩ := rs.get1
    obtain ⟨a, vs, rfl, h1, h2⟩ := r1.lst
    exact call_list_of pins s σ H _ us Q I r ⟨a, vs, rfl, .inl (SqL.of h1), fun l hl => out.newL hm h2 hl⟩
  · cases e
    obtain ⟨v, rfl, r1⟩ := rs.get1
    obtain ⟨a, vs, rfl, h1, h2⟩ := r1.tup
    exact call_list_of pins s σ H _ us Q I r ⟨a, vs, rfl, .inr (SqT.of h1), fun l hl => out.newL hm h2 hl⟩
  · cases e
theorem cd_bool : CallR X (.type "bool") (rDs X.K boolOfD) := by
  intro pins s σ H xs us Q I r ⟨P, ds, dz, hm, rs, e, out⟩
  unfold boolOfD at e
  split at e
  · cases e
    obtain ⟨v, rfl, r1⟩ := rs.get1
    obtain rfl := r1.int
    exact call_bool1 pins s σ H _ us Q I r (.inl ⟨_, rfl, out.bl⟩)
  · cases e
    obtain ⟨v, rfl, r1⟩ := rs.get1
    obtain rfl := r1.bl
    exact call_bool1 pins s σ H _ us Q I r (.inr ⟨_, rfl, out.bl⟩)
  · cases e
theorem cd_str : CallR X (.type "str") (rDs X.K strOfD) := by
  intro pins s σ H xs us Q I r ⟨P, ds, dz, hm, rs, e, out⟩
  unfold strOfD at e
  split at e
  · split at e
    · rename_i c; cases e
      obtain ⟨v, rfl, r1⟩ := rs.get1
      obtain rfl := r1.int
      exact call_str_int pins s σ H _ us Q I r ⟨_, rfl, c, out.str⟩
    · cases e
  · cases e
theorem digit_text : ∀ c : Nat, 48 ≤ c → c < 58 → PySem.intText? ⟨#[c]⟩ = some ((c : Int) - 48) := by
  intro c h1 h2
  have : c = 48 ∨ c = 49 ∨ c = 50 ∨ c = 51 ∨ c = 52 ∨ c = 53 ∨ c = 54 ∨ c = 55 ∨ c = 56 ∨ c = 57 := by omega
  rcases this with rfl | rfl | rfl | rfl | rfl | rfl | rfl | rfl | rfl | rfl <;> decide +kernel
theorem cd_int : CallR X (.type "int") (rDs X.K intOfD) := by
  intro pins s σ H xs us Q I r ⟨P, ds, dz, hm, rs, e, out⟩
  unfold intOfD at e
  split at e
  · cases e
    obtain ⟨v, rfl, r1⟩ := rs.get1
    obtain rfl := r1.int
    exact call_int1 pins s σ H _ us Q I r (.inl ⟨_, rfl, out.int⟩)
  · cases e
    obtain ⟨v, rfl, r1⟩ := rs.get1
    obtain rfl := r1.bl
    exact call_int1 pins s σ H _ us Q I r (.inr ⟨_, rfl, out.int⟩)
  · split at e
    · rename_i x c; cases e
      obtain ⟨v, rfl, r1⟩ := rs.get1
      obtain rfl := r1.str
      refine call_int_str pins s σ H _ us Q I r ⟨x, _, rfl, ?_, by rw [c.1]; decide, out.int⟩
      have q := digit_text _ c.2.1 c.2.2
      rw [one_sign c.1]
      exact q
    · cases e
  · cases e
end
end Y

set_option Elab.async false
set_option linter.all false
set_option maxRecDepth 100000
namespace Y
open PySem PySem.Spec PyProof.Rows L2

/-! ### x[i], x[a:b] -/
def ixD : D → D → R D
  | .str x, .int i => match atI x.cps.toList i with
    | some c => if szOk x.length = true then .ok (.str ⟨#[c]⟩) else .stk
    | none => .stk
  | .tup ds, .int i => match atI ds i with | some d => .ok d | none => .stk
  | .lst ds, .int i => match atI ds i with | some d => .ok d | none => .stk
  | .arg ns, .int i => match atI ns i with | some n => .ok (.int n) | none => .stk
  | _, _ => .stk
def cIx (a b : EM) : EM := fun ρ => do
  let (h1, ρ1) ← a ρ
  let (h2, ρ2) ← b ρ1
  let x ← (h1.d ρ2).nox
  let y ← (h2.d ρ2).nox
  let z ← (ixD x y).nox
  pure (.vl z, ρ2)
theorem Reps.atI {K : PySem.W.Frag} {H : Hp} {P : Pr} {ds : List D} {vs : List V} {i : Int} {d : D} (h : Reps K H ds P vs) (e : L2.atI ds i = some d) : ∃ v, L2.atI vs i = some v ∧ Rep K H d P v := by
  unfold L2.atI at e ⊢
  rw [h.length]
  cases q : ixN ds.length i with
  | none => rw [q] at e; cases e
  | some j => rw [q] at e; exact h.get e
theorem ints_atI {ns : List Int} {i n : Int} (e : atI ns i = some n) : atI (ns.map V.int) i = some (.int n) := by
  unfold atI at e ⊢
  rw [List.length_map]
  cases q : ixN ns.length i with
  | none => rw [q] at e; cases e
  | some j =>
    rw [q] at e
    show (ns.map V.int)[j]? = _
    rw [List.getElem?_map, show ns[j]? = some n from e]
    rfl
/-- the items of ds[lo:hi] -/
def cutD (ds : List D) (lo hi : Option Int) : List D := (ds.drop (HT.sIx ds.length 0 lo)).take (HT.sIx ds.length ds.length hi - HT.sIx ds.length 0 lo)
theorem Reps.drop {K : PySem.W.Frag} {H : Hp} {P : Pr} : ∀ (n : Nat) {ds : List D} {vs : List V}, Reps K H ds P vs → Reps K H (ds.drop n) P (vs.drop n)
  | 0, _, _, h => h
  | n + 1, [], _, h => by rw [h.nil_iff]; exact Reps.nil
  | n + 1, d :: ds, _, h => by
    obtain ⟨v, ws, rfl, _, h2⟩ := h.cons_iff
    exact Reps.drop n h2
theorem Reps.take {K : PySem.W.Frag} {H : Hp} {P : Pr} : ∀ (n : Nat) {ds : List D} {vs : List V}, Reps K H ds P vs → Reps K H (ds.take n) P (vs.take n)
  | 0, _, _, h => Reps.nil
  | n + 1, [], _, h => by rw [h.nil_iff]; exact Reps.nil
  | n + 1, d :: ds, _, h => by
    obtain ⟨v, ws, rfl, h1, h2⟩ := h.cons_iff
    exact Reps.cons h1 (Reps.take n h2)
theorem Reps.cut {K : PySem.W.Frag} {H : Hp} {P : Pr} {ds : List D} {vs : List V} (h : Reps K H ds P vs) (lo hi : Option Int) : Reps K H (cutD ds lo hi) P (cutV vs lo hi) := by
  unfold cutD cutV
  rw [h.length]
  exact (h.drop _).take _
def sliceD : D → Option Int → Option Int → R D
  | .str x, lo, hi => if szOk x.length = true then .ok (.str (cutS x lo hi)) else .stk
  | .tup ds, lo, hi => .ok (.tup (cutD ds lo hi))
  | .lst ds, lo, hi => .ok (.lst (cutD ds lo hi))
  | _, _, _ => .stk
abbrev OM := Env → R (Option Int × Env)
def cNoPart : OM := fun ρ => .ok (none, ρ)
def cPart (m : EM) : OM := fun ρ => do
  let (h, ρ1) ← m ρ
  let d ← h.v.nox
  match d with
  | .int i => pure (some i, ρ1)
  | _ => .stk
def cSlice (a : EM) (lo hi : OM) : EM := fun ρ => do
  let (h, ρ1) ← a ρ
  let (l, ρ2) ← lo ρ1
  let (u, ρ3) ← hi ρ2
  let d ← (h.d ρ3).nox
  let z ← (sliceD d l u).nox
  pure (.fr z, ρ3)
def tMo (K : PySem.W.Frag) (P0 : Pr) (O W : List Nat) (E : EK) (m : OM) : TO := fun σ H Q => ∃ ρ, Sim K P0 O W ρ σ H ∧ Res E W σ H (m ρ) fun a => ∀ H', Sim K P0 O W a.2 σ H' → Keep W σ H H' → Q a.1 H'
theorem PO.imp {X : Cx} {e : Option Expr} {t t' : TO} (h : PO X e t) (i : ∀ σ H Q, t' σ H Q → t σ H Q) : PO X e t' := by
  cases h with
  | mk h => exact ⟨fun pins s σ H Q I q => h pins s σ H Q I (i σ H Q q)⟩
section
variable {X : Cx} {P0 : Pr} {O W : List Nat} {E : EK} {a b c e : Expr} {es : List Expr} {ma mb mc : EM} {ms : AM} {pos : Pos}
abbrev CO (X : Cx) (P0 : Pr) (O W : List Nat) (E : EK) (e : Option Expr) (m : OM) : Prop := PO X e (tMo X.K P0 O W E m)
theorem co_none : CO X P0 O W E none cNoPart := PO.imp po_none fun σ H Q ⟨ρ, S, h⟩ => h H S .refl
theorem co_some (h : CEx X P0 O W E e ma) : CO X P0 O W E (some e) (cPart ma) := PO.imp (po_some h) fun σ H Q ⟨ρ, S, h⟩ =>
  ⟨ρ, S, h.of_bind.mono fun ⟨h1, ρ1⟩ q v H1 S1 k1 r1 => by
    obtain ⟨d, e1, q⟩ := q.of_nox
    have r := r1.v e1
    cases d <;> first | (exact q.elim) | skip
    unfold Rep at r
    exact ⟨_, r, q H1 S1 k1⟩⟩
theorem ce_ix (ha : CEx X P0 O W E a ma) (hb : CEx X P0 O W E b mb) (hs : PlainIx b := by intro _ _; rfl) : CEx X P0 O W E (.Subscript a b pos) (cIx ma mb) := PE.imp (pe_ix ix_seq ha hb hs) fun σ H Q ⟨ρ, S, h⟩ => by
  refine ⟨ρ, S, h.of_bind.mono fun ⟨h1, ρ1⟩ q x H1 S1 k1 r1 => ⟨ρ1, S1, (q.keep k1).of_bind.mono fun ⟨h2, ρ2⟩ q2 y H2 S2 k2 r2 => ?_⟩⟩
  obtain ⟨dx, e1, q3⟩ := q2.of_nox
  obtain ⟨dy, e2, q4⟩ := q3.of_nox
  obtain ⟨dz, e3, q5⟩ := q4.of_nox
  have rx := (r1.keep S1 k2).d S2 e1
  have ry := r2.d S2 e2
  have fin : ∀ v, Rep X.K H2 dz (FA P0 O σ) v → Q v H2 := fun v r => q5 v H2 S2 (k1.trans k2) r
  unfold ixD at e3
  split at e3
  · split at e3
    · split at e3
      · rename_i c' hc z; cases e3
        obtain rfl := rx.str
        obtain rfl := ry.int
        exact .inr (.inr ⟨_, _, _, rfl, rfl, of_decide_eq_true z, hc, fin _ (by unfold Rep; rfl)⟩)
      · cases e3
    · cases e3
  · split at e3
    · rename_i d hd; cases e3
      obtain ⟨p, vs, rfl, t1, t2⟩ := rx.tup
      obtain rfl := ry.int
      obtain ⟨v, e4, r4⟩ := t2.atI hd
      exact .inr (.inl ⟨p, vs, _, v, rfl, rfl, SqT.of t1, e4, fin v r4⟩)
    · cases e3
  · split at e3
    · rename_i d hd; cases e3
      obtain ⟨p, vs, rfl, t1, t2⟩ := rx.lst
      obtain rfl := ry.int
      obtain ⟨v, e4, r4⟩ := t2.atI hd
      exact .inl ⟨p, vs, _, v, rfl, rfl, SqL.of t1, e4, fin v r4⟩
    · cases e3
  · split at e3
    · rename_i d hd; cases e3
      obtain ⟨p, rfl, t1⟩ := rx.arg
      obtain rfl := ry.int
      exact .inl ⟨p, _, _, _, rfl, rfl, t1, ints_atI hd, fin _ (by unfold Rep; rfl)⟩
    · cases e3
  · cases e3
theorem ce_slice {lo hi : Option Expr} {ml mh : OM} {p2 : Pos} (ha : CEx X P0 O W E a ma) (hl : CO X P0 O W E lo ml) (hh : CO X P0 O W E hi mh) : CEx X P0 O W E (.Subscript a (.Slice lo hi none p2) pos) (cSlice ma ml mh) := PE.imp (pe_slice (sl_list.or (sl_tupA.or sl_str)) ha hl hh) fun σ H Q ⟨ρ, S, h⟩ => by
  refine ⟨ρ, S, h.of_bind.mono fun ⟨h1, ρ1⟩ q x H1 S1 k1 r1 => ⟨ρ1, S1, (q.keep k1).of_bind.mono fun ⟨l, ρ2⟩ q2 H2 S2 k2 => ⟨ρ2, S2, (q2.keep k2).of_bind.mono fun ⟨u, ρ3⟩ q3 H3 S3 k3 => ?_⟩⟩⟩
  obtain ⟨dx, e1, q4⟩ := q3.of_nox
  obtain ⟨dz, e3, q5⟩ := q4.of_nox
  have rx := (r1.keep S1 (k2.trans k3)).d S3 e1
  have out := out_of S3 ((k1.trans k2).trans k3) q5
  unfold sliceD at e3
  split at e3
  · split at e3
    · rename_i z; cases e3
      obtain rfl := rx.str
      exact .inr (.inr ⟨_, rfl, of_decide_eq_true z, out.str⟩)
    · cases e3
  · cases e3
    obtain ⟨p, vs, rfl, t1, t2⟩ := rx.tup
    have t3 := t2.cut l u
    refine .inr (.inl ⟨p, vs, rfl, SqT.of t1, fun z => ?_, fun _ p hp => out.newT S3.dom t3 hp⟩)
    have e4 : cutV vs l u = vs := by
      unfold cutV
      rw [z.1, z.2, List.drop_zero, Nat.sub_zero, List.take_length]
    rw [e4] at t3
    exact out.flat (Rep.tup_of t1 t3) rfl
  · cases e3
    obtain ⟨p, vs, rfl, t1, t2⟩ := rx.lst
    exact .inl ⟨p, vs, rfl, SqL.of t1, fun p hp => out.newL S3.dom (t2.cut l u) hp⟩
  · cases e3
end

/-! ### what is walked -/
/-- behind a statement or an expression: U: own slots that keep their objects -/
structure Tr (O U : List Nat) (σ : St) (H : Hp) (σ' : St) (H' : Hp) : Prop where
  keep : ∀ b o, H b = some o → ¬ OA O σ b → H' b = some o
  some : ∀ b, H b ≠ none → H' b ≠ none
  own : ∀ b, OA O σ' b → OA O σ b ∨ H b = none
  unch : ∀ i ∈ U, σ'[i]? = σ[i]?
theorem Tr.of {O W U : List Nat} {σ : St} {H H' : Hp} (hs : ∀ i ∈ W, i ∈ O) (k : Keep W σ H H') : Tr O U σ H σ H' := ⟨fun b o e n => k.keep b o e fun ⟨i, hi, z⟩ => n ⟨i, hs i hi, z⟩, k.some, fun _ z => .inl z, fun _ _ => rfl⟩
theorem Tr.refl {O U : List Nat} {σ : St} {H : Hp} : Tr O U σ H σ H := ⟨fun _ _ e _ => e, fun _ e => e, fun _ z => .inl z, fun _ _ => rfl⟩
theorem Tr.trans {O U : List Nat} {σ σ1 σ2 : St} {H H1 H2 : Hp} (a : Tr O U σ H σ1 H1) (b : Tr O U σ1 H1 σ2 H2) : Tr O U σ H σ2 H2 where
  keep := fun c o e n => b.keep c o (a.keep c o e n) fun z => by
    rcases a.own c z with z | z
    · exact n z
    · rw [e] at z; cases z
  some := fun c e => b.some c (a.some c e)
  own := fun c z => by
    rcases b.own c z with z | z
    · exact a.own c z
    · exact .inr (Classical.byContradiction fun q => a.some c q z)
  unch := fun i hi => (b.unch i hi).trans (a.unch i hi)
theorem Tr.less {O U U' : List Nat} {σ σ1 : St} {H H1 : Hp} (a : Tr O U σ H σ1 H1) (h : ∀ i ∈ U', i ∈ U) : Tr O U' σ H σ1 H1 := ⟨a.keep, a.some, a.own, fun i hi => a.unch i (h i hi)⟩
section
variable {K : PySem.W.Frag} {P0 : Pr} {O W U : List Nat} {ρ ρ' : Env} {σ σ' : St} {H H' : Hp}
theorem Sim.repT (S : Sim K P0 O W ρ σ H) (k : Tr O U σ H σ' H') {d : D} {v : V} (h : Rep K H d (FA P0 O σ) v) : Rep K H' d (FA P0 O σ') v :=
  h.mono d S.dom (fun b o e n => k.keep b o e fun z => n (.inr z)) fun b z => by
    rcases z with z | z
    · exact .inl (.inl z)
    · rcases k.own b z with z | z
      · exact .inl (.inr z)
      · exact .inr z
theorem Sim.repsT (S : Sim K P0 O W ρ σ H) (k : Tr O U σ H σ' H') {d : List D} {v : List V} (h : Reps K H d (FA P0 O σ) v) : Reps K H' d (FA P0 O σ') v :=
  h.mono d S.dom (fun b o e n => k.keep b o e fun z => n (.inr z)) fun b z => by
    rcases z with z | z
    · exact .inl (.inl z)
    · rcases k.own b z with z | z
      · exact .inl (.inr z)
      · exact .inr z
end
end Y

set_option Elab.async false
set_option linter.all false
set_option maxRecDepth 100000
namespace Y
open PySem PySem.Spec PyProof.Rows L2

/-! ### what is walked -/
/-- v is the datum d that the handle tells, and stays so -/
def Hold (K : PySem.W.Frag) (O : List Nat) (h : Hd) (d : D) (v : V) (P0 : Pr) (ρ : Env) (σ : St) (H : Hp) : Prop := match h with
  | .ow i => i ∈ O ∧ ρ[i]? = some (some d) ∧ σ[i]? = some (some v)
  | _ => Rep K H d (FA P0 O σ) v
def Hd.ws : Hd → List Nat
  | .ow i => [i]
  | _ => []
section
variable {K : PySem.W.Frag} {P0 P1 : Pr} {O W : List Nat} {ρ ρ' : Env} {σ σ' : St} {H H' Hs : Hp} {h : Hd} {d : D} {v : V}
theorem Hold.rep (S : Sim K P0 O W ρ σ H) (o : Hold K O h d v P0 ρ σ H) : RepW K H d (FA P0 O σ) v := by
  cases h with
  | fr d' => exact Rep.weak S.dom o
  | vl d' => exact Rep.weak S.dom o
  | ow i =>
    obtain ⟨w, h1, h2⟩ := S.own i d o.2.1 o.1
    rw [o.2.2] at h1; cases h1
    exact h2.weak
theorem HdR.hold (r : HdR K P0 O Hs σ H h v) (e : h.d ρ = .ok d) : Hold K O h d v P0 ρ σ H := by
  cases h with
  | fr d' => cases e; exact r.1
  | vl d' => cases e; exact r
  | ow i => exact ⟨r.1, look_some e, r.2⟩
theorem Hold.keep (S : Sim K P0 O W ρ σ H) (o : Hold K O h d v P0 ρ σ H) (k : ∀ b o, H b = some o → ¬ FA P0 O σ b → H' b = some o) (w : ∀ b, FA P0 O σ' b → FA P0 O σ b ∨ H b = none)
    (hw : ∀ w ∈ h.ws, σ'[w]? = σ[w]? ∧ ρ'[w]? = ρ[w]?) : Hold K O h d v P0 ρ' σ' H' := by
  cases h with
  | fr d' => exact Rep.mono d S.dom k w o
  | vl d' => exact Rep.mono d S.dom k w o
  | ow i =>
    obtain ⟨h1, h2⟩ := hw i (by simp [Hd.ws])
    exact ⟨o.1, h2.trans o.2.1, h1.trans o.2.2⟩
theorem Hold.grow (S : Sim K P0 O W ρ σ H) (o : Hold K O h d v P0 ρ σ H) (w : ∀ b, P1 b → P0 b ∨ H b = none) (k : Same H H') : Hold K O h d v P1 ρ σ H' := by
  have q : ∀ b, FA P1 O σ b → FA P0 O σ b ∨ H b = none := fun b z => by
    rcases z with z | z
    · rcases w b z with z | z
      · exact .inl (.inl z)
      · exact .inr z
    · exact .inl (.inr z)
  cases h with
  | fr d' => exact Rep.mono d S.dom (fun b o e _ => k b o e) q o
  | vl d' => exact Rep.mono d S.dom (fun b o e _ => k b o e) q o
  | ow i => exact o
end
theorem Hold.mem {K : PySem.W.Frag} {P0 : Pr} {O : List Nat} {ρ : Env} {σ : St} {H : Hp} {h : Hd} {d : D} {v : V} (o : Hold K O h d v P0 ρ σ H) : ∀ w ∈ h.ws, w ∈ O := by
  cases h with
  | fr _ => exact fun w z => nomatch z
  | vl _ => exact fun w z => nomatch z
  | ow i =>
    intro w z
    have z : w = i := by simpa [Hd.ws] using z
    rw [z]; exact o.1
/-- an iterator gives ds; ws: own slots that it reads from; Ok: what must stay -/
structure Src (K : PySem.W.Frag) (O W : List Nat) (ds : List D) (ws : List Nat) (J : It) (Ok : Pr → Env → St → Hp → Prop) : Prop where
  go : ∀ P0 i ρ σ H, Sim K P0 O W ρ σ H → Ok P0 ρ σ H → i < ds.length → J.go i H
  stop : ∀ P0 ρ σ H, Sim K P0 O W ρ σ H → Ok P0 ρ σ H → J.stop ds.length H
  yld : ∀ P0 (i : Nat) ρ σ H x H' d, Sim K P0 O W ρ σ H → Ok P0 ρ σ H → ds[i]? = some d → J.yld i H x H' → Same H H' ∧ Rep K H' d (FA P0 O σ) x
  keep : ∀ P0 ρ σ H ρ' σ' H', Sim K P0 O W ρ σ H → (∀ b o, H b = some o → ¬ FA P0 O σ b → H' b = some o) → (∀ b, FA P0 O σ' b → FA P0 O σ b ∨ H b = none) → (∀ w ∈ ws, σ'[w]? = σ[w]? ∧ ρ'[w]? = ρ[w]?) → Ok P0 ρ σ H → Ok P0 ρ' σ' H'
  mem : ∀ P0 ρ σ H, Ok P0 ρ σ H → ∀ w ∈ ws, w ∈ O
  grow : ∀ P0 P1 ρ σ H H', Sim K P0 O W ρ σ H → (∀ b, P1 b → P0 b ∨ H b = none) → Same H H' → Ok P0 ρ σ H → Ok P1 ρ σ H'
abbrev IM := Env → R ((List D × List Nat) × Env)
def tMi (K : PySem.W.Frag) (P0 : Pr) (O W : List Nat) (E : EK) (m : IM) : TI := fun σ H R => ∃ ρ, Sim K P0 O W ρ σ H ∧
  Res E W σ H (m ρ) fun a => ∀ J H' Ok, Sim K P0 O W a.2 σ H' → Keep W σ H H' → Src K O W a.1.1 a.1.2 J Ok → Ok P0 a.2 σ H' → a.1.1.length ≤ sizeLine → R J H'
theorem PI.imp {X : Cx} {tg e : Expr} {t t' : TI} (h : PI X tg e t) (i : ∀ σ H R, t' σ H R → t σ H R) : PI X tg e t' := ⟨fun pins s σ H R I q => h.run pins s σ H R I (i σ H R q)⟩
theorem PI.or {X : Cx} {tg e : Expr} {t t' : TI} (h : PI X tg e t) (h' : PI X tg e t') : PI X tg e fun σ H R => t σ H R ∨ t' σ H R :=
  ⟨fun pins s σ H R I q => q.elim (h.run pins s σ H R I) (h'.run pins s σ H R I)⟩
section
variable {K : PySem.W.Frag} {O W : List Nat} {h h2 : Hd}
/-- over a list that a handle tells -/
theorem src_list {a : Addr} {ds : List D} : Src K O W ds h.ws (Itl K a) (Hold K O h (.lst ds) (.ref a)) where
  go := fun P0 i ρ σ H S ok hi => by
    obtain ⟨p, vs, e, t1, t2⟩ := (ok.rep S).lst
    cases e
    exact walk_list.goes i H (by rw [t2.length]; exact hi) (SqL.of t1)
  stop := fun P0 ρ σ H S ok => by
    obtain ⟨p, vs, e, t1, t2⟩ := (ok.rep S).lst
    cases e
    rw [← t2.length]
    exact walk_list.stops H (SqL.of t1)
  yld := fun P0 i ρ σ H x H' d S ok hd y => by
    obtain ⟨p, vs, e, t1, t2⟩ := (ok.rep S).lst
    cases e
    obtain ⟨v, e1, r⟩ := t2.get hd
    obtain ⟨e2, e3⟩ := walk_list.yields i H x H' (by rw [t2.length]; exact (List.getElem?_eq_some_iff.mp hd).1) (SqL.of t1) y
    subst e2
    rw [e1] at e3; cases e3
    exact ⟨fun _ _ z => z, r⟩
  keep := fun P0 ρ σ H ρ' σ' H' S k w hw ok => ok.keep S k w hw
  mem := fun P0 ρ σ H ok => ok.mem
  grow := fun P0 P1 ρ σ H H' S w k ok => ok.grow S w k
theorem src_tup {a : Addr} {ds : List D} : Src K O W ds h.ws (Itt K a) (Hold K O h (.tup ds) (.ref a)) where
  go := fun P0 i ρ σ H S ok hi => by
    obtain ⟨p, vs, e, t1, t2⟩ := (ok.rep S).tup
    cases e
    exact walk_tup.goes i H (by rw [t2.length]; exact hi) (SqT.of t1)
  stop := fun P0 ρ σ H S ok => by
    obtain ⟨p, vs, e, t1, t2⟩ := (ok.rep S).tup
    cases e
    rw [← t2.length]
    exact walk_tup.stops H (SqT.of t1)
  yld := fun P0 i ρ σ H x H' d S ok hd y => by
    obtain ⟨p, vs, e, t1, t2⟩ := (ok.rep S).tup
    cases e
    obtain ⟨v, e1, r⟩ := t2.get hd
    obtain ⟨e2, e3⟩ := walk_tup.yields i H x H' (by rw [t2.length]; exact (List.getElem?_eq_some_iff.mp hd).1) (SqT.of t1) y
    subst e2
    rw [e1] at e3; cases e3
    exact ⟨fun _ _ z => z, r⟩
  keep := fun P0 ρ σ H ρ' σ' H' S k w hw ok => ok.keep S k w hw
  mem := fun P0 ρ σ H ok => ok.mem
  grow := fun P0 P1 ρ σ H H' S w k ok => ok.grow S w k
theorem src_arg {a : Addr} {ns : List Int} : Src K O W (ns.map D.int) h.ws (Itl K a) (Hold K O h (.arg ns) (.ref a)) where
  go := fun P0 i ρ σ H S ok hi => by
    obtain ⟨p, e, t1⟩ := (ok.rep S).arg
    cases e
    exact walk_list.goes i H (by simpa using hi) t1
  stop := fun P0 ρ σ H S ok => by
    obtain ⟨p, e, t1⟩ := (ok.rep S).arg
    cases e
    have := walk_list.stops H t1
    simpa using this
  yld := fun P0 i ρ σ H x H' d S ok hd y => by
    obtain ⟨p, e, t1⟩ := (ok.rep S).arg
    cases e
    obtain ⟨e2, e3⟩ := walk_list.yields i H x H' (by have := (List.getElem?_eq_some_iff.mp hd).1; simpa using this) t1 y
    subst e2
    rw [List.getElem?_map] at e3 hd
    cases q : ns[i]? with
    | none => rw [q] at hd; cases hd
    | some n => rw [q] at hd e3; cases hd; cases e3; exact ⟨fun _ _ z => z, by unfold Rep; rfl⟩
  keep := fun P0 ρ σ H ρ' σ' H' S k w hw ok => ok.keep S k w hw
  mem := fun P0 ρ σ H ok => ok.mem
  grow := fun P0 P1 ρ σ H H' S w k ok => ok.grow S w k
theorem src_range {lo : Int} {n : Nat} : Src K O W ((List.range n).map fun i => D.int (lo + (i : Nat))) [] (Itr lo n) (fun _ _ _ _ => True) where
  go := fun P0 i ρ σ H S ok hi => by simpa [Itr] using hi
  stop := fun P0 ρ σ H S ok => by simp [Itr]
  yld := fun P0 i ρ σ H x H' d S ok hd y => by
    obtain ⟨e1, e2⟩ := y
    subst e1
    rw [List.getElem?_map] at hd
    cases q : (List.range n)[i]? with
    | none => rw [q] at hd; cases hd
    | some j =>
      rw [q] at hd; cases hd
      have : j = i := by
        obtain ⟨h1, h2⟩ := List.getElem?_eq_some_iff.mp q
        simpa using h2.symm
      subst this
      exact ⟨fun _ _ z => z, by unfold Rep; exact e2⟩
  keep := fun _ _ _ _ _ _ _ _ _ _ _ _ => trivial
  mem := fun _ _ _ _ _ w z => nomatch z
  grow := fun _ _ _ _ _ _ _ _ _ _ => trivial
theorem src_str {z : Str} : Src K O W (z.cps.toList.map fun c => D.str ⟨#[c]⟩) [] (Its z) (fun _ _ _ _ => True) where
  go := fun P0 i ρ σ H S ok hi => by simpa [Its] using hi
  stop := fun P0 ρ σ H S ok => by simp [Its]
  yld := fun P0 i ρ σ H x H' d S ok hd y => by
    obtain ⟨e1, c, e2, e3⟩ := y
    subst e1
    rw [List.getElem?_map, Array.getElem?_toList, e2] at hd
    cases hd
    exact ⟨fun _ _ z => z, by unfold Rep; exact e3⟩
  keep := fun _ _ _ _ _ _ _ _ _ _ _ _ => trivial
  mem := fun _ _ _ _ _ w z => nomatch z
  grow := fun _ _ _ _ _ _ _ _ _ _ => trivial
theorem Src.anyw {ds : List D} {J : It} {Ok : Pr → Env → St → Hp → Prop} (q : Src K O W ds [] J Ok) : Src K O W ds h.ws J (fun P0 ρ σ H => Ok P0 ρ σ H ∧ ∀ w ∈ h.ws, w ∈ O) where
  go := fun P0 i ρ σ H S ok => q.go P0 i ρ σ H S ok.1
  stop := fun P0 ρ σ H S ok => q.stop P0 ρ σ H S ok.1
  yld := fun P0 i ρ σ H x H' d S ok => q.yld P0 i ρ σ H x H' d S ok.1
  keep := fun P0 ρ σ H ρ' σ' H' S k w _ ok => ⟨q.keep P0 ρ σ H ρ' σ' H' S k w (fun _ z => nomatch z) ok.1, ok.2⟩
  mem := fun P0 ρ σ H ok => ok.2
  grow := fun P0 P1 ρ σ H H' S w k ok => ⟨q.grow P0 P1 ρ σ H H' S w k ok.1, ok.2⟩
end
def pairsD : List D → List D → List D
  | x :: xs, y :: ys => .tup [x, y] :: pairsD xs ys
  | _, _ => []
theorem pairsD_len : ∀ xs ys : List D, (pairsD xs ys).length = min xs.length ys.length
  | [], _ => by simp [pairsD]
  | _ :: _, [] => by simp [pairsD]
  | x :: xs, y :: ys => by simp [pairsD, pairsD_len xs ys]
theorem pairsD_get : ∀ {xs ys : List D} {i : Nat} {d : D}, (pairsD xs ys)[i]? = some d → ∃ x y, xs[i]? = some x ∧ ys[i]? = some y ∧ d = .tup [x, y]
  | [], _, _, _, h => by simp [pairsD] at h
  | _ :: _, [], _, _, h => by simp [pairsD] at h
  | x :: xs, y :: ys, 0, d, h => by simp [pairsD] at h; exact ⟨x, y, rfl, rfl, h.symm⟩
  | x :: xs, y :: ys, i + 1, d, h => by simpa using pairsD_get (i := i) (by simpa [pairsD] using h)
/-- a new pair at T -/
theorem pair_rep {K : PySem.W.Frag} {H : Hp} {P : Pr} {x y : D} {v w : V} {T : Addr} (hm : ∀ b, P b → isMut (H b)) (hT : H T = none) (h1 : Rep K H x P v) (h2 : Rep K H y P w) : Same H (upd H T (.tup [v, w])) ∧ Rep K (upd H T (.tup [v, w])) (.tup [x, y]) P (.ref T) :=
  ⟨Same.new hT, Rep.newT hm (Reps.cons h1 (Reps.cons h2 Reps.nil)) hT⟩
section
variable {K : PySem.W.Frag} {O W : List Nat} {h h2 : Hd}
theorem src_zipL {a b : Addr} {xs ys : List D} : Src K O W (pairsD xs ys) (h.ws ++ h2.ws) (Itz K a b) (fun P0 ρ σ H => Hold K O h (.lst xs) (.ref a) P0 ρ σ H ∧ Hold K O h2 (.lst ys) (.ref b) P0 ρ σ H) where
  go := fun P0 i ρ σ H S ok hi => by
    obtain ⟨p, vs, e, t1, t2⟩ := (ok.1.rep S).lst
    obtain ⟨p2, vs2, e2, t3, t4⟩ := (ok.2.rep S).lst
    cases e; cases e2
    rw [pairsD_len] at hi
    exact (walk_zip rfl).goes i H (by rw [t2.length, t4.length]; exact hi) ⟨SqL.of t1, SqL.of t3⟩
  stop := fun P0 ρ σ H S ok => by
    obtain ⟨p, vs, e, t1, t2⟩ := (ok.1.rep S).lst
    obtain ⟨p2, vs2, e2, t3, t4⟩ := (ok.2.rep S).lst
    cases e; cases e2
    rw [pairsD_len, ← t2.length, ← t4.length]
    exact (walk_zip rfl).stops H ⟨SqL.of t1, SqL.of t3⟩
  yld := fun P0 i ρ σ H x H' d S ok hd y => by
    obtain ⟨p, vs, e, t1, t2⟩ := (ok.1.rep S).lst
    obtain ⟨p2, vs2, e2, t3, t4⟩ := (ok.2.rep S).lst
    cases e; cases e2
    have hi := (List.getElem?_eq_some_iff.mp hd).1
    rw [pairsD_len] at hi
    obtain ⟨x1, y1, e1, e2, rfl⟩ := pairsD_get hd
    obtain ⟨v1, q1, r1⟩ := t2.get e1
    obtain ⟨v2, q2, r2⟩ := t4.get e2
    obtain ⟨T, u1, u2, rfl, hT, rfl, e3, e4⟩ := (walk_zip rfl).yields i H x H' (by rw [t2.length, t4.length]; exact hi) ⟨SqL.of t1, SqL.of t3⟩ y
    have e3 : vs[i]? = some u1 := e3
    have e4 : vs2[i]? = some u2 := e4
    rw [q1] at e3; cases e3
    rw [q2] at e4; cases e4
    exact pair_rep S.dom hT r1 r2
  keep := fun P0 ρ σ H ρ' σ' H' S k w hw ok => ⟨ok.1.keep S k w fun i hi => hw i (List.mem_append_left _ hi), ok.2.keep S k w fun i hi => hw i (List.mem_append_right _ hi)⟩
  mem := fun P0 ρ σ H ok w z => (List.mem_append.mp z).elim (ok.1.mem w) (ok.2.mem w)
  grow := fun P0 P1 ρ σ H H' S w k ok => ⟨ok.1.grow S w k, ok.2.grow S w k⟩
theorem src_zipT {a b : Addr} {xs ys : List D} : Src K O W (pairsD xs ys) (h.ws ++ h2.ws) (RZ.ItzT K a b) (fun P0 ρ σ H => Hold K O h (.tup xs) (.ref a) P0 ρ σ H ∧ Hold K O h2 (.tup ys) (.ref b) P0 ρ σ H) where
  go := fun P0 i ρ σ H S ok hi => by
    obtain ⟨p, vs, e, t1, t2⟩ := (ok.1.rep S).tup
    obtain ⟨p2, vs2, e2, t3, t4⟩ := (ok.2.rep S).tup
    cases e; cases e2
    rw [pairsD_len, ← t2.length, ← t4.length] at hi
    exact ⟨vs, vs2, vs[i]'(by omega), vs2[i]'(by omega), SqT.of t1, SqT.of t3, List.getElem?_eq_getElem _, List.getElem?_eq_getElem _⟩
  stop := fun P0 ρ σ H S ok => by
    obtain ⟨p, vs, e, t1, t2⟩ := (ok.1.rep S).tup
    obtain ⟨p2, vs2, e2, t3, t4⟩ := (ok.2.rep S).tup
    cases e; cases e2
    rw [pairsD_len, ← t2.length, ← t4.length]
    exact ⟨vs, vs2, SqT.of t1, SqT.of t3, by omega⟩
  yld := fun P0 i ρ σ H x H' d S ok hd y => by
    obtain ⟨p, vs, e, t1, t2⟩ := (ok.1.rep S).tup
    obtain ⟨p2, vs2, e2, t3, t4⟩ := (ok.2.rep S).tup
    cases e; cases e2
    obtain ⟨x1, y1, e1, e2, rfl⟩ := pairsD_get hd
    obtain ⟨v1, q1, r1⟩ := t2.get e1
    obtain ⟨v2, q2, r2⟩ := t4.get e2
    obtain ⟨T, u1, u2, rfl, hT, rfl, e3, e4⟩ := y
    have e3 := e3 _ (SqT.of t1)
    have e4 := e4 _ (SqT.of t3)
    rw [q1] at e3; cases e3
    rw [q2] at e4; cases e4
    exact pair_rep S.dom hT r1 r2
  keep := fun P0 ρ σ H ρ' σ' H' S k w hw ok => ⟨ok.1.keep S k w fun i hi => hw i (List.mem_append_left _ hi), ok.2.keep S k w fun i hi => hw i (List.mem_append_right _ hi)⟩
  mem := fun P0 ρ σ H ok w z => (List.mem_append.mp z).elim (ok.1.mem w) (ok.2.mem w)
  grow := fun P0 P1 ρ σ H H' S w k ok => ⟨ok.1.grow S w k, ok.2.grow S w k⟩
theorem src_enumL {a : Addr} {xs : List D} : Src K O W (pairsD ((List.range xs.length).map fun i => D.int (i : Nat)) xs) h.ws (Ite K a) (Hold K O h (.lst xs) (.ref a)) where
  go := fun P0 i ρ σ H S ok hi => by
    obtain ⟨p, vs, e, t1, t2⟩ := (ok.rep S).lst
    cases e
    rw [pairsD_len] at hi
    simp at hi
    exact walk_enum.goes i H (by rw [t2.length]; exact hi) (SqL.of t1)
  stop := fun P0 ρ σ H S ok => by
    obtain ⟨p, vs, e, t1, t2⟩ := (ok.rep S).lst
    cases e
    have := walk_enum.stops H (SqL.of (K := K) t1)
    rw [pairsD_len]
    simpa [t2.length] using this
  yld := fun P0 i ρ σ H x H' d S ok hd y => by
    obtain ⟨p, vs, e, t1, t2⟩ := (ok.rep S).lst
    cases e
    have hi := (List.getElem?_eq_some_iff.mp hd).1
    rw [pairsD_len] at hi
    simp at hi
    obtain ⟨x1, y1, e1, e2, rfl⟩ := pairsD_get hd
    obtain ⟨v2, q2, r2⟩ := t2.get e2
    obtain ⟨T, u1, u2, rfl, hT, rfl, e3, e4⟩ := walk_enum.yields i H x H' (by rw [t2.length]; exact hi) (SqL.of t1) y
    have e4 : vs[i]? = some u2 := e4
    rw [q2] at e4; cases e4
    cases e3
    rw [List.getElem?_map, List.getElem?_range hi] at e1
    cases e1
    exact pair_rep S.dom hT (by unfold Rep; rfl) r2
  keep := fun P0 ρ σ H ρ' σ' H' S k w hw ok => ok.keep S k w hw
  mem := fun P0 ρ σ H ok => ok.mem
  grow := fun P0 P1 ρ σ H H' S w k ok => ok.grow S w k
end
section
variable {X : Cx} {P0 : Pr} {O W : List Nat} {E : EK} {a b c e tg : Expr} {es : List Expr} {ma mb mc : EM} {ms : AM} {pos : Pos}
abbrev CI (X : Cx) (P0 : Pr) (O W : List Nat) (E : EK) (tg e : Expr) (m : IM) : Prop := PI X tg e (tMi X.K P0 O W E m)
/-- over a list, a tuple, a text, the script -/
def itD : D → R (List D)
  | .lst ds => .ok ds
  | .tup ds => .ok ds
  | .arg ns => .ok (ns.map D.int)
  | .str z => .ok (z.cps.toList.map fun c => D.str ⟨#[c]⟩)
  | _ => .stk
def cIter (m : EM) : IM := fun ρ => do
  let (h, ρ1) ← m ρ
  let d ← (h.d ρ1).nox
  let ds ← (itD d).nox
  if szOk ds.length = true then pure ((ds, h.ws), ρ1) else .stk
theorem ci_any (ha : CEx X P0 O W E a ma) : CI X P0 O W E tg a (cIter ma) := PI.imp (PI.or (pi_list ha) (PI.or (pi_tup ha) (pi_str ha))) fun σ H _ ⟨ρ, S, h⟩ => by
  unfold cIter at h
  cases em : ma ρ with
  | er c ds =>
    rw [em] at h
    exact .inl ⟨ρ, S, by rw [em]; exact h⟩
  | stk => rw [em] at h; exact h.elim
  | ok p =>
    obtain ⟨h1, ρ1⟩ := p
    rw [em] at h
    obtain ⟨d, ed, h⟩ := Res.of_nox (show Res E W σ H ((h1.d ρ1).nox >>= _) _ from h)
    obtain ⟨ds, ei, h⟩ := h.of_nox
    by_cases c : szOk ds.length = true
    · rw [if_pos c] at h
      have hz := of_decide_eq_true c
      cases d <;> simp only [itD, R.ok.injEq, reduceCtorEq] at ei
      · subst ei
        refine .inr (.inr ⟨ρ, S, ?_⟩)
        rw [em]
        intro v H1 S1 k1 r1
        obtain rfl := (r1.d S1 ed).str
        exact ⟨_, rfl, h _ H1 _ S1 k1 src_str.anyw ⟨trivial, (r1.hold ed).mem⟩ hz⟩
      · subst ei
        refine .inr (.inl ⟨ρ, S, ?_⟩)
        rw [em]
        intro v H1 S1 k1 r1
        obtain ⟨p, vs, rfl, t1, t2⟩ := (r1.d S1 ed).tup
        exact ⟨p, rfl, ⟨vs, SqT.of t1⟩, h _ H1 _ S1 k1 src_tup (r1.hold ed) hz⟩
      · subst ei
        refine .inl ⟨ρ, S, ?_⟩
        rw [em]
        intro v H1 S1 k1 r1
        obtain ⟨p, vs, rfl, t1, t2⟩ := (r1.d S1 ed).lst
        exact ⟨p, rfl, ⟨vs, SqL.of t1⟩, h _ H1 _ S1 k1 src_list (r1.hold ed) hz⟩
      · subst ei
        refine .inl ⟨ρ, S, ?_⟩
        rw [em]
        intro v H1 S1 k1 r1
        obtain ⟨p, rfl, t1⟩ := (r1.d S1 ed).arg
        exact ⟨p, rfl, ⟨_, t1⟩, h _ H1 _ S1 k1 src_arg (r1.hold ed) hz⟩
    · rw [if_neg c] at h
      exact h.elim
/-! ### range -/
def rngOk (i : Int) : Bool := decide (-(2 ^ 62) ≤ i ∧ i < 2 ^ 62)
def rng1D : List D → R (List D)
  | [.int j] => if rngOk j = true then .ok ((List.range j.toNat).map fun i => D.int (0 + (i : Nat))) else .stk
  | _ => .stk
def rng2D : List D → R (List D)
  | [.int i, .int j] => if (rngOk i && rngOk j) = true then .ok ((List.range (j - i).toNat).map fun k => D.int (i + (k : Nat))) else .stk
  | _ => .stk
def cRange (f : List D → R (List D)) (m : AM) : IM := fun ρ => do
  let (hs, ρ1) ← m ρ
  let ds ← (vsOf hs).nox
  let xs ← (f ds).nox
  if szOk xs.length = true then pure ((xs, []), ρ1) else .stk
theorem ci_range1 {p : Pos} (hm : X.mg "range" = none) (ha : CA X P0 O W E [a] ms) (hg : Gl X "range" := by rfl) (hs : starEach [a] X.env = [(false, eval a X.env)] := by rfl) : CI X P0 O W E tg (.Call (.Name "range" p) [a] [] pos) (cRange rng1D ms) := PI.imp (pi_range1 hg hm ha hs) fun σ H R ⟨ρ, S, h⟩ => by
  refine ⟨ρ, S, h.of_bind.mono fun ⟨hs, ρ1⟩ q vs H1 S1 k1 r1 => ?_⟩
  obtain ⟨ds, e1, q⟩ := q.of_nox
  obtain ⟨xs, e2, q⟩ := q.of_nox
  have rr := HdRs.vs r1 e1
  by_cases c : szOk xs.length = true
  · rw [if_pos c] at q
    unfold rng1D at e2
    split at e2
    · split at e2
      · rename_i j z; cases e2
        obtain ⟨v, ws, rfl, h1, h2⟩ := rr.cons_iff
        have h2 := h2.nil_iff
        subst h2
        unfold Rep at h1
        subst h1
        unfold rngOk at z
        have z := of_decide_eq_true z
        exact ⟨_, rfl, z.1, z.2, q _ H1 _ S1 k1 src_range trivial (of_decide_eq_true c)⟩
      · cases e2
    · cases e2
  · rw [if_neg c] at q
    exact q.elim
theorem ci_range2 {p : Pos} (hm : X.mg "range" = none) (ha : CA X P0 O W E [a, b] ms) (hg : Gl X "range" := by rfl) (hs : starEach [a, b] X.env = [(false, eval a X.env), (false, eval b X.env)] := by rfl) (hs2 : starEach [b] X.env = [(false, eval b X.env)] := by rfl) : CI X P0 O W E tg (.Call (.Name "range" p) [a, b] [] pos) (cRange rng2D ms) := PI.imp (pi_range2 hg hm ha hs hs2) fun σ H R ⟨ρ, S, h⟩ => by
  refine ⟨ρ, S, h.of_bind.mono fun ⟨hs, ρ1⟩ q vs H1 S1 k1 r1 => ?_⟩
  obtain ⟨ds, e1, q⟩ := q.of_nox
  obtain ⟨xs, e2, q⟩ := q.of_nox
  have rr := HdRs.vs r1 e1
  by_cases c : szOk xs.length = true
  · rw [if_pos c] at q
    unfold rng2D at e2
    split at e2
    · split at e2
      · rename_i i j z; cases e2
        obtain ⟨v, ws, rfl, h1, h2⟩ := rr.cons_iff
        obtain ⟨w, us, rfl, h3, h4⟩ := h2.cons_iff
        have h4 := h4.nil_iff
        subst h4
        unfold Rep at h1 h3
        subst h1
        subst h3
        rw [Bool.and_eq_true] at z
        unfold rngOk at z
        have z1 := of_decide_eq_true z.1
        have z2 := of_decide_eq_true z.2
        exact ⟨_, _, rfl, ⟨z1.1, z1.2, z2.1, z2.2⟩, q _ H1 _ S1 k1 src_range trivial (of_decide_eq_true c)⟩
      · cases e2
    · cases e2
  · rw [if_neg c] at q
    exact q.elim
/-! ### zip, enumerate -/
def zipD : D → D → R (List D)
  | .lst xs, .lst ys => .ok (pairsD xs ys)
  | .tup xs, .tup ys => .ok (pairsD xs ys)
  | _, _ => .stk
def cZip (m : AM) : IM := fun ρ => do
  let (hs, ρ1) ← m ρ
  match hs with
  | [h, h2] => do
    let x ← (h.d ρ1).nox
    let y ← (h2.d ρ1).nox
    let ps ← (zipD x y).nox
    if szOk ps.length = true then pure ((ps, h.ws ++ h2.ws), ρ1) else .stk
  | _ => .stk
theorem ci_zip {p tpos : Pos} {elts : List Expr} {kk : Nat} (hm : X.mg "zip" = none) (ha : CA X P0 O W E [a, b] ms) (hg : Gl X "zip" := by rfl) (hs : starEach [a, b] X.env = (false, eval a X.env) :: starEach [b] X.env := by rfl) (hpl : (backTo pos (starEach [b] X.env)).any (·.1) = false := by rfl) :
    CI X P0 O W E (.Tuple elts kk tpos) (.Call (.Name "zip" p) [a, b] [] pos) (cZip ms) := PI.imp (RZ.pi_zipA hg hm ha hs hpl) fun σ H _ ⟨ρ, S, h⟩ => by
  refine ⟨ρ, S, h.of_bind.mono fun ⟨hs, ρ1⟩ q vs H1 S1 k1 r1 => ?_⟩
  match hs, r1, q with
  | [h, h2], r1, q =>
    obtain ⟨v, ws, rfl, t1, t2⟩ := r1
    obtain ⟨w, us, rfl, t3, t4⟩ := t2
    have t4 : us = [] := t4
    subst t4
    obtain ⟨x, ex, q1⟩ := Res.of_nox (show Res E W σ H ((h.d ρ1).nox >>= _) _ from q)
    obtain ⟨y, ey, q2⟩ := q1.of_nox
    obtain ⟨ps, ep, q3⟩ := q2.of_nox
    clear q q1 q2
    by_cases c : szOk ps.length = true
    · rw [if_pos c] at q3
      unfold zipD at ep
      split at ep
      · cases ep
        obtain ⟨p1, vs1, rfl, u1, u2⟩ := (t1.d S1 ex).lst
        obtain ⟨p2, vs2, rfl, u3, u4⟩ := (t3.d S1 ey).lst
        exact ⟨p1, p2, vs1, vs2, rfl, .inl ⟨SqL.of u1, SqL.of u3, q3 _ H1 _ S1 k1 src_zipL ⟨t1.hold ex, t3.hold ey⟩ (of_decide_eq_true c)⟩⟩
      · cases ep
        obtain ⟨p1, vs1, rfl, u1, u2⟩ := (t1.d S1 ex).tup
        obtain ⟨p2, vs2, rfl, u3, u4⟩ := (t3.d S1 ey).tup
        exact ⟨p1, p2, vs1, vs2, rfl, .inr ⟨SqT.of u1, SqT.of u3, q3 _ H1 _ S1 k1 src_zipT ⟨t1.hold ex, t3.hold ey⟩ (of_decide_eq_true c)⟩⟩
      · cases ep
    · rw [if_neg c] at q3
      exact q3.elim
  | [], _, q => exact q.elim
  | [_], _, q => exact q.elim
  | _ :: _ :: _ :: _, _, q => exact q.elim
def enumD : D → R (List D)
  | .lst xs => .ok (pairsD ((List.range xs.length).map fun i => D.int (i : Nat)) xs)
  | _ => .stk
def cEnum (m : AM) : IM := fun ρ => do
  let (hs, ρ1) ← m ρ
  match hs with
  | [h] => do
    let x ← (h.d ρ1).nox
    let ps ← (enumD x).nox
    if szOk ps.length = true then pure ((ps, h.ws), ρ1) else .stk
  | _ => .stk
theorem ci_enum {p tpos : Pos} {elts : List Expr} {kk : Nat} (hm : X.mg "enumerate" = none) (ha : CA X P0 O W E [a] ms) (hg : Gl X "enumerate" := by rfl) (hs : starEach [a] X.env = [(false, eval a X.env)] := by rfl) :
    CI X P0 O W E (.Tuple elts kk tpos) (.Call (.Name "enumerate" p) [a] [] pos) (cEnum ms) := PI.imp (pi_enum hg hm ha hs) fun σ H _ ⟨ρ, S, h⟩ => by
  refine ⟨ρ, S, h.of_bind.mono fun ⟨hs, ρ1⟩ q vs H1 S1 k1 r1 => ?_⟩
  match hs, r1, q with
  | [h], r1, q =>
    obtain ⟨v, ws, rfl, t1, t2⟩ := r1
    have t2 : ws = [] := t2
    subst t2
    obtain ⟨x, ex, q1⟩ := Res.of_nox (show Res E W σ H ((h.d ρ1).nox >>= _) _ from q)
    obtain ⟨ps, ep, q3⟩ := q1.of_nox
    clear q q1
    by_cases c : szOk ps.length = true
    · rw [if_pos c] at q3
      unfold enumD at ep
      split at ep
      · cases ep
        obtain ⟨p1, vs1, rfl, u1, u2⟩ := (t1.d S1 ex).lst
        exact ⟨p1, vs1, rfl, SqL.of u1, q3 _ H1 _ S1 k1 src_enumL (t1.hold ex) (of_decide_eq_true c)⟩
      · cases ep
    · rw [if_neg c] at q3
      exact q3.elim
  | [], _, q => exact q.elim
  | _ :: _ :: _, _, q => exact q.elim
end
end Y

set_option Elab.async false
set_option linter.all false
set_option maxRecDepth 100000
namespace Y
open PySem PySem.Spec PyProof.Rows L2

/-! ### slots -/
theorem OA_of {O : List Nat} {σ σ' : St} (h : ∀ i ∈ O, σ'[i]? = σ[i]?) (b : Addr) : OA O σ' b ↔ OA O σ b := by
  constructor
  · rintro ⟨i, hi, e⟩; exact ⟨i, hi, (h i hi).symm.trans e⟩
  · rintro ⟨i, hi, e⟩; exact ⟨i, hi, (h i hi).trans e⟩
section
variable {K : PySem.W.Frag} {P0 P1 : Pr} {O W : List Nat} {ρ ρ' : Env} {σ σ' : St} {H H' : Hp} {d : D} {v : V}
theorem FA_of (h : ∀ i ∈ O, σ'[i]? = σ[i]?) (b : Addr) : FA P0 O σ' b ↔ FA P0 O σ b := or_congr Iff.rfl (OA_of h b)
/-- other slots, less known -/
theorem Sim.move (S : Sim K P0 O W ρ σ H) (hl : ρ'.length ≤ σ'.length) (ho : ∀ i ∈ O, σ'[i]? = σ[i]?) (hρ : ∀ i ∈ O, ∀ d, ρ'[i]? = some (some d) → ρ[i]? = some (some d))
    (hv : ∀ (i : Nat) d, ρ'[i]? = some (some d) → i ∉ O → ∃ v, σ'[i]? = some (some v) ∧ Rep K H d (FA P0 O σ) v) : Sim K P0 O W ρ' σ' H where
  sub := S.sub
  len := hl
  dom := fun b z => S.dom b ((FA_of ho b).mp z)
  val := fun i d e n => by
    obtain ⟨v, h1, h2⟩ := hv i d e n
    exact ⟨v, h1, h2.less S.dom fun b z => (FA_of ho b).mp z⟩
  own := fun i d e n => by
    obtain ⟨v, h1, h2⟩ := S.own i d (hρ i n d e) n
    refine ⟨v, (ho i n).trans h1, ?_⟩
    have fa : ∀ b, FA P0 O σ' b → FA P0 O σ b := fun b z => (FA_of ho b).mp z
    cases d with
    | lst ds => obtain ⟨a, vs, rfl, ht, hr⟩ := h2; exact ⟨a, vs, rfl, ht, hr.less S.dom fa⟩
    | dik ks ds => obtain ⟨a, vs, rfl, hl, ht, hr⟩ := h2; exact ⟨a, vs, rfl, hl, ht, hr.less S.dom fa⟩
    | dit ks ds => obtain ⟨a, vs, rfl, hl, ht, hr⟩ := h2; exact ⟨a, vs, rfl, hl, ht, hr.less S.dom fa⟩
    | non => exact h2
    | bl _ => exact h2
    | int _ => exact h2
    | str _ => exact h2
    | tup _ => exact h2
    | arg _ => exact h2
  sep := fun i j a hi hj e1 e2 => S.sep i j a hi hj ((ho i hi).symm.trans e1) ((ho j hj).symm.trans e2)
  sep0 := fun a z => S.sep0 a ((OA_of ho a).mp z)
theorem Sim.set (S : Sim K P0 O W ρ σ H) {i : Nat} (hi : i ∉ O) (r : Rep K H d (FA P0 O σ) v) : Sim K P0 O W (ρ.set i (some d)) (σ.set i (some v)) H := by
  refine S.move (by simpa using S.len) (fun j hj => ?_) (fun j hj d' e => ?_) fun j d' e n => ?_
  · exact List.getElem?_set_ne (fun (e : i = j) => hi (by rw [e]; exact hj))
  · rwa [List.getElem?_set_ne (fun (e : i = j) => hi (by rw [e]; exact hj))] at e
  · by_cases hj : i = j
    · subst hj
      have h1 : i < ρ.length := by
        have := (List.getElem?_eq_some_iff.mp e).1
        simpa using this
      rw [List.getElem?_set_self h1] at e
      cases e
      exact ⟨v, List.getElem?_set_self (Nat.lt_of_lt_of_le h1 S.len), r⟩
    · rw [List.getElem?_set_ne hj] at e ⊢
      exact S.val j d' e n
/-- forgetting -/
def wipeE (ρ : Env) : List Nat → Env
  | [] => ρ
  | i :: is => (wipeE ρ is).set i none
theorem wipeE_length (ρ : Env) : ∀ is, (wipeE ρ is).length = ρ.length
  | [] => rfl
  | i :: is => by unfold wipeE; rw [List.length_set, wipeE_length ρ is]
theorem wipeE_some : ∀ {is : List Nat} {j : Nat} {d : D}, (wipeE ρ is)[j]? = some (some d) → ρ[j]? = some (some d) ∧ j ∉ is
  | [], j, d, e => ⟨e, by simp⟩
  | i :: is, j, d, e => by
    unfold wipeE at e
    by_cases hj : i = j
    · subst hj
      by_cases hl : i < (wipeE ρ is).length
      · rw [List.getElem?_set_self hl] at e; cases e
      · rw [List.getElem?_eq_none (by simpa using hl)] at e; cases e
    · rw [List.getElem?_set_ne hj] at e
      obtain ⟨h1, h2⟩ := wipeE_some e
      exact ⟨h1, by simp only [List.mem_cons, not_or]; exact ⟨fun z => hj z.symm, h2⟩⟩
theorem Sim.wipe (S : Sim K P0 O W ρ σ H) (is : List Nat) : Sim K P0 O W (wipeE ρ is) σ H :=
  S.move (by rw [wipeE_length]; exact S.len) (fun _ _ => rfl) (fun i _ d e => (wipeE_some e).1) fun i d e n => S.val i d (wipeE_some e).1 n
theorem wipe_ne {is : List Nat} {j : Nat} (h : j ∉ is) : (L2.wipe σ is)[j]? = σ[j]? := wipe_out h
/-- a comprehension's own names -/
theorem Sim.wipe2 (S : Sim K P0 O W ρ σ H) {is : List Nat} (h : ∀ i ∈ is, i ∉ O) : Sim K P0 O W (wipeE ρ is) (L2.wipe σ is) H := by
  refine S.move (by rw [wipeE_length, L2.wipe_length]; exact S.len) (fun i hi => wipe_ne fun z => h i z hi) (fun i _ d e => (wipeE_some e).1) fun i d e n => ?_
  obtain ⟨e1, e2⟩ := wipeE_some e
  rw [wipe_ne e2]
  exact S.val i d e1 n
/-- back from the block: the wiped slots are not told -/
theorem Sim.out {is : List Nat} (S : Sim K P0 O W ρ (L2.wipe σ is) H) (h : ∀ i ∈ is, i ∉ O) (hρ : ∀ i ∈ is, ∀ d, ρ[i]? ≠ some (some d)) : Sim K P0 O W ρ σ H := by
  refine S.move (by have := S.len; rwa [L2.wipe_length] at this) (fun i hi => (wipe_ne fun z => h i z hi).symm) (fun i _ d e => e) fun i d e n => ?_
  obtain ⟨v, h1, h2⟩ := S.val i d e n
  rw [wipe_ne fun z => hρ i z d e] at h1
  exact ⟨v, h1, h2⟩
/-- one more object is forbidden -/
theorem Sim.more (S : Sim K P0 O W ρ σ H) {q : Addr} {vs : List V} (hq : H q = none) : Sim K (fun b => P0 b ∨ b = q) O W ρ σ (upd H q (.lst vs)) := by
  have S' := S.same (Same.new (o := .lst vs) hq)
  have fa : ∀ b, FA (fun b => P0 b ∨ b = q) O σ b → FA P0 O σ b ∨ H b = none := fun b z => by
    rcases z with (z | z) | z
    · exact .inl (.inl z)
    · rw [z]; exact .inr hq
    · exact .inl (.inr z)
  refine ⟨S.sub, S.len, fun b z => ?_, fun i d e n => ?_, fun i d e n => ?_, S.sep, fun a z => ?_⟩
  · rcases z with (z | z) | z
    · exact S'.dom b (.inl z)
    · rw [z, upd_same]; trivial
    · exact S'.dom b (.inr z)
  · obtain ⟨v, h1, h2⟩ := S.val i d e n
    exact ⟨v, h1, h2.mono d S.dom (fun b o e _ => Same.new hq b o e) fa⟩
  · obtain ⟨v, h1, h2⟩ := S.own i d e n
    refine ⟨v, h1, ?_⟩
    cases d with
    | lst ds => obtain ⟨a, vs, rfl, ht, hr⟩ := h2; exact ⟨a, vs, rfl, Same.new hq _ _ ht, hr.mono ds S.dom (fun b o e _ => Same.new hq b o e) fa⟩
    | dik ks ds => obtain ⟨a, vs, rfl, hl, ht, hr⟩ := h2; exact ⟨a, vs, rfl, hl, Same.new hq _ _ ht, hr.mono ds S.dom (fun b o e _ => Same.new hq b o e) fa⟩
    | dit ks ds => obtain ⟨a, vs, rfl, hl, ht, hr⟩ := h2; exact ⟨a, vs, rfl, hl, Same.new hq _ _ ht, hr.mono ds S.dom (fun b o e _ => Same.new hq b o e) fa⟩
    | non => exact h2
    | bl _ => exact h2
    | int _ => exact h2
    | str _ => exact h2
    | tup _ => exact h2
    | arg _ => exact h2
  · rintro (y | y)
    · exact S.sep0 a z y
    · subst y
      exact (S.dom a (.inr z)).some hq
theorem Sim.lessP (S : Sim K P1 O W ρ σ H) (h : ∀ b, P0 b → P1 b) : Sim K P0 O W ρ σ H := by
  have fa : ∀ b, FA P0 O σ b → FA P1 O σ b := fun b z => z.imp (h b) id
  refine ⟨S.sub, S.len, fun b z => S.dom b (fa b z), fun i d e n => ?_, fun i d e n => ?_, S.sep, fun a z y => S.sep0 a z (h a y)⟩
  · obtain ⟨v, h1, h2⟩ := S.val i d e n
    exact ⟨v, h1, h2.less S.dom fa⟩
  · obtain ⟨v, h1, h2⟩ := S.own i d e n
    refine ⟨v, h1, ?_⟩
    cases d with
    | lst ds => obtain ⟨a, vs, rfl, ht, hr⟩ := h2; exact ⟨a, vs, rfl, ht, hr.less S.dom fa⟩
    | dik ks ds => obtain ⟨a, vs, rfl, hl, ht, hr⟩ := h2; exact ⟨a, vs, rfl, hl, ht, hr.less S.dom fa⟩
    | dit ks ds => obtain ⟨a, vs, rfl, hl, ht, hr⟩ := h2; exact ⟨a, vs, rfl, hl, ht, hr.less S.dom fa⟩
    | non => exact h2
    | bl _ => exact h2
    | int _ => exact h2
    | str _ => exact h2
    | tup _ => exact h2
    | arg _ => exact h2
/-- a forbidden object is written -/
theorem Sim.wr (S : Sim K P0 O W ρ σ H) {q : Addr} {o : HO} (hq : P0 q) (ho : isMut (some o)) : Sim K P0 O W ρ σ (upd H q o) := by
  have k : ∀ b u, H b = some u → ¬ FA P0 O σ b → upd H q o b = some u := fun b u e n => by rw [upd_ne fun (z : b = q) => n (.inl (by rw [z]; exact hq))]; exact e
  have ne : ∀ {i a}, i ∈ O → σ[i]? = some (some (V.ref a)) → a ≠ q := fun {i a} hi e z => S.sep0 a ⟨i, hi, e⟩ (by rw [z]; exact hq)
  refine ⟨S.sub, S.len, fun b z => ?_, fun i d e n => ?_, fun i d e n => ?_, S.sep, S.sep0⟩
  · by_cases hb : b = q
    · rw [hb, upd_same]; exact ho
    · rw [upd_ne hb]; exact S.dom b z
  · obtain ⟨v, h1, h2⟩ := S.val i d e n
    exact ⟨v, h1, h2.of_same S.dom k⟩
  · obtain ⟨v, h1, h2⟩ := S.own i d e n
    refine ⟨v, h1, ?_⟩
    cases d with
    | lst ds => obtain ⟨a, vs, rfl, ht, hr⟩ := h2; exact ⟨a, vs, rfl, by rw [upd_ne (ne n h1)]; exact ht, hr.mono ds S.dom k fun _ z => .inl z⟩
    | dik ks ds => obtain ⟨a, vs, rfl, hl, ht, hr⟩ := h2; exact ⟨a, vs, rfl, hl, by rw [upd_ne (ne n h1)]; exact ht, hr.mono ds S.dom k fun _ z => .inl z⟩
    | dit ks ds => obtain ⟨a, vs, rfl, hl, ht, hr⟩ := h2; exact ⟨a, vs, rfl, hl, by rw [upd_ne (ne n h1)]; exact ht, hr.mono ds S.dom k fun _ z => .inl z⟩
    | non => exact h2
    | bl _ => exact h2
    | int _ => exact h2
    | str _ => exact h2
    | tup _ => exact h2
    | arg _ => exact h2
end

/-! ### targets -/
def setAll (ρ : Env) : List Nat → List D → Env
  | i :: is, d :: ds => setAll (ρ.set i (some d)) is ds
  | _, _ => ρ
abbrev GM := D → Env → R Env
def tmName (i : Nat) : GM := fun d ρ => .ok (ρ.set i (some d))
def tmTup (is : List Nat) : GM := fun d ρ => match d with
  | .tup ds => if ds.length = is.length then .ok (setAll ρ is ds) else .stk
  | _ => .stk
def tG (K : PySem.W.Frag) (P0 : Pr) (O W : List Nat) (tm : GM) (is : List Nat) : TG := fun v σ H Q => ∃ ρ d ρ', Sim K P0 O W ρ σ H ∧ Rep K H d (FA P0 O σ) v ∧ tm d ρ = .ok ρ' ∧
  ∀ σ', Sim K P0 O W ρ' σ' H → σ'.length = σ.length → (∀ j, j ∉ is → σ'[j]? = σ[j]?) → Q σ' H
theorem PG.imp {X : Cx} {e : Expr} {t t' : TG} (h : PG X e t) (i : ∀ v σ H Q, t' v σ H Q → t v σ H Q) : PG X e t' := by
  cases h with
  | mk h => exact ⟨fun pins s σ H v u Q I r q => h pins s σ H v u Q I r (i v σ H Q q)⟩
section
variable {X : Cx} {P0 : Pr} {O W : List Nat} {pos : Pos}
abbrev CG (X : Cx) (P0 : Pr) (O W : List Nat) (tg : Expr) (tm : GM) (is : List Nat) : Prop := PG X tg (tG X.K P0 O W tm is)
theorem cg_name (i : Nat) {x : Str} (hN : X.N.Nodup) (ho : i ∉ O := by decide) (hi : X.N[i]? = some x := by rfl) (hx : Loc X.env.scope x := by first | exact Or.inl rfl | exact Or.inr rfl) (hf : X.fn x = true ∨ X.env.scope.names.lookup x = some .local := by first | exact .inl rfl | exact .inr rfl) : CG X P0 O W (.Name x pos) (tmName i) [i] :=
  PG.imp (pg_name hN hi hx hf) fun v σ H Q ⟨ρ, d, ρ', S, r, e, q⟩ => by
    cases e
    exact q _ (S.set ho r) (by simp) fun j hj => List.getElem?_set_ne fun z => hj (by simp [z])
def gNames : List Nat → TGs
  | [] => gNil
  | i :: is => gCons (gName i) (gNames is)
theorem names_ok {K : PySem.W.Frag} {H : Hp} {Q : St → Hp → Prop} : ∀ {is : List Nat} {ds : List D} {vs : List V} {ρ : Env} {σ : St}, (∀ i ∈ is, i ∉ O) → ds.length = is.length → Sim K P0 O W ρ σ H → Reps K H ds (FA P0 O σ) vs →
    (∀ σ', Sim K P0 O W (setAll ρ is ds) σ' H → σ'.length = σ.length → (∀ j, j ∉ is → σ'[j]? = σ[j]?) → Q σ' H) → gNames is vs σ H Q
  | [], [], vs, ρ, σ, _, _, S, r, q => ⟨r.nil_iff, q σ S rfl fun _ _ => rfl⟩
  | [], _ :: _, _, _, _, _, hl, _, _, _ => by simp at hl
  | _ :: _, [], _, _, _, _, hl, _, _, _ => by simp at hl
  | i :: is, d :: ds, vs, ρ, σ, ho, hl, S, r, q => by
    obtain ⟨v, ws, rfl, r1, r2⟩ := r.cons_iff
    have hi : i ∉ O := ho i (by simp)
    have S1 := S.set hi r1
    have fa : ∀ j ∈ O, (σ.set i (some v))[j]? = σ[j]? := fun j hj => List.getElem?_set_ne fun (z : i = j) => hi (by rw [z]; exact hj)
    refine ⟨v, ws, rfl, names_ok (fun j hj => ho j (by simp [hj])) (by simpa using hl) S1 (r2.less S.dom fun b z => (FA_of fa b).mp z) fun σ' S' h1 h2 => ?_⟩
    exact q σ' S' (by rw [h1]; simp) fun j hj => by
      rw [h2 j fun z => hj (by simp [z])]
      exact List.getElem?_set_ne fun z => hj (by simp [z])
theorem cg_tup {es : List Expr} {k : Nat} (is : List Nat) (hc : X.calm = true) (h : PGs X es (gNames is)) (ho : ∀ i ∈ is, i ∉ O := by decide) (hst : (assignEach es X.env).findIdx? (·.1) = none := by rfl) (hn : (assignEach es X.env).length = is.length := by rfl) : CG X P0 O W (.Tuple es k pos) (tmTup is) is :=
  PG.imp (pg_tup hc h hn hst) fun v σ H Q ⟨ρ, d, ρ', S, r, e, q⟩ => by
    unfold tmTup at e
    split at e
    · split at e
      · rename_i hl; cases e
        unfold Rep at r
        obtain ⟨a, vs, rfl, h1, h2⟩ := r
        exact ⟨a, vs, rfl, SqT.of h1, by rw [h2.length, hl], names_ok ho hl S h2 q⟩
      · cases e
    · cases e
theorem cgs_nil : PGs X [] (gNames []) := pgs_nil
theorem cgs_cons {es : List Expr} {is : List Nat} (i : Nat) {x : Str} {p : Pos} (hN : X.N.Nodup) (h2 : PGs X es (gNames is)) (hi : X.N[i]? = some x := by rfl) (hx : Loc X.env.scope x := by first | exact Or.inl rfl | exact Or.inr rfl) (hf : X.fn x = true ∨ X.env.scope.names.lookup x = some .local := by first | exact .inl rfl | exact .inr rfl) :
    PGs X (.Name x p :: es) (gNames (i :: is)) := pgs_cons (pg_name hN hi hx hf) h2
end

/-! ### comprehensions -/
open Classical in
/-- the slots that are read from stay -/
noncomputable def chk (ws : List Nat) (ρ ρ' : Env) : R Unit := if ∀ w ∈ ws, ρ'[w]? = ρ[w]? then .ok () else .stk
@[simp] theorem chk_nil {ρ ρ' : Env} : chk [] ρ ρ' = .ok () := by unfold chk; rw [if_pos]; intro w hw; cases hw
theorem chk_ok {ws : List Nat} {ρ ρ' : Env} (h : chk ws ρ ρ' = .ok ()) : ∀ w ∈ ws, ρ'[w]? = ρ[w]? := by
  unfold chk at h
  split at h
  · assumption
  · cases h
noncomputable def cCompL (tm : GM) (t : BM) (e : EM) (vs ws : List Nat) : List D → Env → R (List D × Env)
  | [], ρ => .ok ([], ρ)
  | x :: xs, ρ => do
    let ρ1 ← tm x ρ
    let (k, ρ2) ← t ρ1
    if k = true then do
      let (h, ρ3) ← e ρ2
      let d ← h.v
      let _ ← chk ws ρ (wipeE ρ3 vs)
      let (ys, ρ5) ← cCompL tm t e vs ws xs (wipeE ρ3 vs)
      pure (d :: ys, ρ5)
    else do
      let _ ← chk ws ρ (wipeE ρ2 vs)
      cCompL tm t e vs ws xs (wipeE ρ2 vs)
noncomputable def cComp (im : IM) (tm : GM) (t : BM) (e : EM) (vs : List Nat) : EM := fun ρ => do
  let ((ds, ws), ρ1) ← im ρ
  let (ys, ρ2) ← (cCompL tm t e vs ws ds (wipeE ρ1 vs)).nox
  pure (.fr (.lst ys), ρ2)
def cYes : BM := fun ρ => .ok (true, ρ)
abbrev E00 : EK := fun _ _ _ => False
/-- one turn -/
inductive CStep (tm : GM) (t : BM) (e : EM) (vs ws : List Nat) (x : D) (xs : List D) (ρ : Env) (ys : List D) (ρf : Env) : Prop where
  | yes (ρ1 ρ2 ρ3 : Env) (h : Hd) (d : D) (ys' : List D) (e1 : tm x ρ = .ok ρ1) (e2 : t ρ1 = .ok (true, ρ2)) (e3 : e ρ2 = .ok (h, ρ3)) (e4 : h.v = .ok d) (e5 : chk ws ρ (wipeE ρ3 vs) = .ok ()) (e6 : cCompL tm t e vs ws xs (wipeE ρ3 vs) = .ok (ys', ρf)) (e7 : ys = d :: ys')
  | no (ρ1 ρ2 : Env) (e1 : tm x ρ = .ok ρ1) (e2 : t ρ1 = .ok (false, ρ2)) (e5 : chk ws ρ (wipeE ρ2 vs) = .ok ()) (e6 : cCompL tm t e vs ws xs (wipeE ρ2 vs) = .ok (ys, ρf))
theorem cComp_step {tm : GM} {t : BM} {e : EM} {vs ws : List Nat} {x : D} {xs : List D} {ρ : Env} {ys : List D} {ρf : Env} (h : cCompL tm t e vs ws (x :: xs) ρ = .ok (ys, ρf)) : CStep tm t e vs ws x xs ρ ys ρf := by
  unfold cCompL at h
  obtain ⟨ρ1, e1, h⟩ := R.ok_of h
  obtain ⟨⟨k, ρ2⟩, e2, h⟩ := R.ok_of h
  cases k with
  | true =>
    have h : (e ρ2 >>= _) = R.ok (ys, ρf) := h
    obtain ⟨⟨hd, ρ3⟩, e3, h⟩ := R.ok_of h
    obtain ⟨d, e4, h⟩ := R.ok_of h
    obtain ⟨_, e5, h⟩ := R.ok_of h
    obtain ⟨⟨ys', ρ5⟩, e6, h⟩ := R.ok_of h
    cases h
    exact .yes ρ1 ρ2 ρ3 hd d ys' e1 e2 e3 e4 e5 e6 rfl
  | false =>
    have h : (chk ws ρ (wipeE ρ2 vs) >>= _) = R.ok (ys, ρf) := h
    obtain ⟨_, e5, h⟩ := R.ok_of h
    exact .no ρ1 ρ2 e1 e2 e5 h
end Y

set_option Elab.async false
set_option linter.all false
set_option maxRecDepth 100000
namespace Y
open PySem PySem.Spec PyProof.Rows L2

theorem wipe_same {σ σ' : St} {vs : List Nat} (hl : σ'.length = σ.length) (h : ∀ j, j ∉ vs → σ'[j]? = σ[j]?) : L2.wipe σ' vs = L2.wipe σ vs := by
  apply List.ext_getElem?
  intro j
  by_cases hj : j ∈ vs
  · have q : ∀ (τ : St), (L2.wipe τ vs)[j]? = if j < τ.length then some none else none := fun τ => by
      have hlen := L2.wipe_length τ vs
      cases e : (L2.wipe τ vs)[j]? with
      | none =>
        rw [List.getElem?_eq_none_iff] at e
        rw [if_neg (by omega)]
      | some o =>
        have := (List.getElem?_eq_some_iff.mp e).1
        rw [if_pos (by omega)]
        cases o with
        | none => rfl
        | some v => exact absurd hj (wipe_some e).2
    rw [q, q, hl]
  · rw [wipe_ne hj, wipe_ne hj, h j hj]
theorem wipe_idem {σ : St} {vs : List Nat} : L2.wipe (L2.wipe σ vs) vs = L2.wipe σ vs := wipe_same (L2.wipe_length σ vs) fun j hj => wipe_ne hj
theorem wipeE_none {ρ : Env} {vs : List Nat} : ∀ i ∈ vs, ∀ d, (wipeE ρ vs)[i]? ≠ some (some d) := fun i hi d e => (wipeE_some e).2 hi
theorem cComp_end {tm : GM} {t : BM} {e : EM} {vs ws : List Nat} : ∀ {ds : List D} {ρ : Env} {ys : List D} {ρf : Env}, (∀ i ∈ vs, ∀ d, ρ[i]? ≠ some (some d)) → cCompL tm t e vs ws ds ρ = .ok (ys, ρf) → ∀ i ∈ vs, ∀ d, ρf[i]? ≠ some (some d)
  | [], ρ, ys, ρf, h, q => by cases q; exact h
  | x :: xs, ρ, ys, ρf, h, q => by
    cases cComp_step q with
    | yes ρ1 ρ2 ρ3 hd d ys' e1 e2 e3 e4 e5 e6 e7 => exact cComp_end wipeE_none e6
    | no ρ1 ρ2 e1 e2 e5 e6 => exact cComp_end wipeE_none e6
section
variable {X : Cx} {P0 : Pr} {O W : List Nat} {E : EK} {a b c e tg : Expr} {es : List Expr} {ma mb mc : EM} {ms : AM} {pos : Pos}
theorem PE.ex {e : Expr} {m : EM} (h : ∀ P0, CEx X P0 O W E e m) : PE X e (fun σ H Q => ∃ P0, tM X.K P0 O W E m σ H Q) := ⟨fun pins s σ H Q I ⟨P0, q⟩ => (h P0).run pins s σ H Q I q⟩
theorem PT.ex {e : Expr} {m : BM} (h : ∀ P0, CT X P0 O W E e m) : PT X e (fun σ H Q => ∃ P0, tMt X.K P0 O W E m σ H Q) := ⟨fun pins s σ H Q I ⟨P0, q⟩ => (h P0).run pins s σ H Q I q⟩
theorem PG.ex {e : Expr} {m : GM} {is : List Nat} (h : ∀ P0, CG X P0 O W e m is) : PG X e (fun v σ H Q => ∃ P0, tG X.K P0 O W m is v σ H Q) := by
  refine ⟨fun pins s σ H v u Q I r ⟨P0, q⟩ => ?_⟩
  cases h P0 with
  | mk h => exact h pins s σ H v u Q I r q
/-- the tests of a comprehension -/
abbrev CTs (X : Cx) (O W : List Nat) (E : EK) (ifs : List Expr) (m : BM) : Prop := PTs X ifs (fun σ H Q => ∃ P0, tMt X.K P0 O W E m σ H Q)
theorem cts_nil : CTs X O W E [] cYes := by
  cases (pts_nil (X := X)) with
  | mk h => exact ⟨fun pins s σ H Q I ⟨P0, ρ, S, q⟩ => h pins s σ H Q I (q H S .refl)⟩
theorem cts_one {m : BM} (h : ∀ P0, CT X P0 O W E c m) : CTs X O W E [c] m := pts_one (PT.ex h)
theorem comp_core {K : PySem.W.Frag} {im : IM} {tm : GM} {t : BM} {me : EM} {is vs : List Nat} (hv : ∀ i ∈ is, i ∈ vs) (ho : ∀ i ∈ vs, i ∉ O) (σ : St) (H : Hp) (Q : VK) (h : tM K P0 O W E (cComp im tm t me vs) σ H Q) :
    tLc (tMi K P0 O W E im) (fun v σ H Q => ∃ P0, tG K P0 O W tm is v σ H Q) (fun σ H Q => ∃ P0, tMt K P0 O W E00 t σ H Q) (fun σ H Q => ∃ P0, tM K P0 O W E00 me σ H Q) vs σ H Q := by
  obtain ⟨ρ, S, h⟩ := h
  refine ⟨ρ, S, h.of_bind.mono fun ⟨⟨ds, ws⟩, ρ1⟩ q J H1 Ok S1 k1 src ok hz Dn hD => ?_⟩
  obtain ⟨⟨ys, ρf⟩, er, q⟩ := q.of_nox
  have src : Src K O W ds ws J Ok := src
  have hz : ds.length ≤ sizeLine := hz
  generalize hP : (fun b => P0 b ∨ b = Dn : Pr) = P1
  have pD : P1 Dn := by subst hP; exact .inr rfl
  have pI : ∀ b, P0 b → P1 b := by subst hP; exact fun b z => .inl z
  have pO : ∀ b, P1 b → P0 b ∨ b = Dn := by subst hP; exact fun b z => z
  have S2 : Sim K P1 O W ρ1 σ (upd H1 Dn (.lst [])) := by subst hP; exact S1.more hD
  have ok2 : Ok P1 ρ1 σ (upd H1 Dn (.lst [])) := src.grow P0 _ ρ1 σ H1 _ S1 (fun b z => (pO b z).elim .inl fun z => .inr (by rw [z]; exact hD)) (Same.new hD) ok
  have wO : ∀ w ∈ ws, w ∉ vs := fun w hw z => ho w z (src.mem _ _ _ _ ok w hw)
  have sO : ∀ i ∈ O, (L2.wipe σ vs)[i]? = σ[i]? := fun i hi => wipe_ne fun y => ho i y hi
  have S3 : Sim K P1 O W (wipeE ρ1 vs) (L2.wipe σ vs) (upd H1 Dn (.lst [])) := S2.wipe2 ho
  have nD : ¬ OA O (L2.wipe σ vs) Dn := fun z => (S1.dom Dn (.inr ((OA_of sO Dn).mp z))).some hD
  have ok3 : Ok P1 (wipeE ρ1 vs) (L2.wipe σ vs) (upd H1 Dn (.lst [])) := src.keep P1 ρ1 σ _ _ _ _ S2 (fun _ _ e _ => e) (fun b z => .inl ((FA_of sO b).mp z)) (fun w hw => ⟨wipe_ne (wO w hw), by
    cases e : (wipeE ρ1 vs)[w]? with
    | none =>
      have : ρ1.length ≤ w := by rw [← wipeE_length ρ1 vs]; exact List.getElem?_eq_none_iff.mp e
      rw [List.getElem?_eq_none this]
    | some o =>
      have q2 : ∀ (is : List Nat), w ∉ is → (wipeE ρ1 is)[w]? = ρ1[w]? := fun is => by
        induction is with
        | nil => intro _; rfl
        | cons i is ih =>
          intro hn
          simp only [List.mem_cons, not_or] at hn
          unfold wipeE
          rw [List.getElem?_set_ne fun z => hn.1 z.symm]
          exact ih hn.2
      rw [← e, q2 vs (wO w hw)]⟩) ok2
  -- the invariant
  let I : Nat → Hp → Prop := fun i Hx => i ≤ ds.length ∧ ∃ (ρx : Env) (acc : List V) (yd rest : List D), Sim K P1 O W ρx (L2.wipe σ vs) Hx ∧ Ok P1 ρx (L2.wipe σ vs) Hx ∧ Hx Dn = some (.lst acc) ∧ Reps K Hx yd (FA P1 O (L2.wipe σ vs)) acc ∧ acc.length ≤ i ∧
    cCompL tm t me vs ws (ds.drop i) ρx = .ok (rest, ρf) ∧ ys = yd ++ rest ∧ (∀ b o, H1 b = some o → ¬ OA W σ b → Hx b = some o) ∧ (∀ b, H1 b ≠ none → Hx b ≠ none) ∧ (∀ j ∈ vs, ∀ d, ρx[j]? ≠ some (some d))
  refine ⟨fun i m Hx => m = ds.length - i ∧ I i Hx, ⟨ds.length, by simp, Nat.zero_le _, wipeE ρ1 vs, [], [], ys, S3, ok3, upd_same, Reps.nil, Nat.le_refl _, er, rfl, fun b o e _ => Same.new hD b o e, fun b e => Same.some (Same.new hD) b e, wipeE_none⟩, ?_⟩
  rintro i m Hx ⟨rfl, hi, ρx, acc, yd, rest, Sx, okx, hDx, hR, hacc, hC, hys, kx, sx, nx⟩
  by_cases hlt : i < ds.length
  · right
    refine ⟨src.go P1 i ρx _ Hx Sx okx hlt, I (i + 1), fun H' p' => ⟨ds.length - (i + 1), by omega, rfl, p'⟩, fun x' H' y => ?_⟩
    obtain ⟨sm, rx⟩ := src.yld P1 i ρx _ Hx x' H' ds[i] Sx okx (List.getElem?_eq_getElem hlt) y
    rw [List.drop_eq_getElem_cons hlt] at hC
    have back : ∀ {σ2 : St}, σ2.length = (L2.wipe σ vs).length → (∀ j, j ∉ is → σ2[j]? = (L2.wipe σ vs)[j]?) → L2.wipe σ2 vs = L2.wipe σ vs ∧ ∀ j ∈ O, σ2[j]? = (L2.wipe σ vs)[j]? := fun {σ2} h1 h2 =>
      ⟨(wipe_same h1 fun j hj => h2 j fun z => hj (hv j z)).trans wipe_idem, fun j hj => h2 j fun z => ho j (hv j z) hj⟩
    -- from the turn's end to the next turn
    have next : ∀ {σ2 : St} {ρ3 : Env} {H4 : Hp} {acc' : List V} {yd' rest' : List D}, σ2.length = (L2.wipe σ vs).length → (∀ j, j ∉ is → σ2[j]? = (L2.wipe σ vs)[j]?) → Sim K P1 O W ρ3 σ2 H4 → Keep W σ2 H' H4 →
        (∀ w ∈ ws, (wipeE ρ3 vs)[w]? = ρx[w]?) → Reps K H4 yd' (FA P1 O σ2) acc' → acc'.length ≤ i + 1 → cCompL tm t me vs ws (ds.drop (i + 1)) (wipeE ρ3 vs) = .ok (rest', ρf) → ys = yd' ++ rest' → I (i + 1) (upd H4 Dn (.lst acc')) := by
      intro σ2 ρ3 H4 acc' yd' rest' h1 h2 S4 k4 hw r' hl' hc' hy'
      obtain ⟨b1, b2⟩ := back h1 h2
      have nD2 : ¬ OA O σ2 Dn := fun z => nD ((OA_of b2 Dn).mp z)
      have S5 := S4.wipe2 (is := vs) ho
      rw [b1] at S5
      have S6 := S5.wr (o := .lst acc') pD trivial
      have kp : ∀ b o, Hx b = some o → ¬ FA P1 O (L2.wipe σ vs) b → upd H4 Dn (.lst acc') b = some o := fun b o e n => by
        rw [upd_ne fun z => n (.inl (by rw [z]; exact pD))]
        exact k4.keep b o (sm b o e) fun z => n (.inr ((OA_of b2 b).mp (S4.oaw z)))
      refine ⟨hlt, wipeE ρ3 vs, acc', yd', rest', S6, src.keep P1 ρx _ Hx _ _ _ Sx kp (fun b z => .inl z) (fun w hw' => ⟨rfl, hw w hw'⟩) okx, upd_same, ?_, hl', hc', hy', fun b o e n => ?_, fun b e => ?_, wipeE_none⟩
      · refine r'.mono yd' S4.dom (fun b o e n => ?_) fun b z => .inl ((FA_of b2 b).mpr z)
        rw [upd_ne fun z => n (.inl (by rw [z]; exact pD))]
        exact e
      · have hb : b ≠ Dn := ne_of_none e hD
        rw [upd_ne hb]
        exact k4.keep b o (sm b o (kx b o e n)) fun z => n ((OA_of (fun i hi => sO i (S1.sub i hi)) b).mp ((OA_of (fun i hi => b2 i (S1.sub i hi)) b).mp z))
      · by_cases hb : b = Dn
        · rw [hb, upd_same]; intro z; cases z
        · rw [upd_ne hb]
          exact k4.some b (Same.some sm b (sx b e))
    cases cComp_step hC with
    | yes ρa ρb ρc hd d ys' e1 e2 e3 e4 e5 e6 e7 =>
      refine ⟨P1, ρx, ds[i], ρa, Sx.same sm, rx, e1, fun σ2 Sa h1 h2 => ⟨(back h1 h2).1, P1, ρa, Sa, ?_⟩⟩
      rw [e2]
      intro H3 Sb k3
      refine (if_pos rfl).mpr ⟨P1, ρb, Sb, ?_⟩
      rw [e3]
      intro y' H4 Sc k4 r4
      have b2 := (back h1 h2).2
      have nD2 : ¬ OA O σ2 Dn := fun z => nD ((OA_of b2 Dn).mp z)
      have k34 : Keep W σ2 H' H4 := k3.trans k4
      refine ⟨acc, k34.keep _ _ (sm _ _ hDx) fun z => nD2 (Sc.oaw z), by omega, ?_⟩
      have r5 : Reps K H4 yd (FA P1 O σ2) acc := hR.mono yd Sx.dom (fun b o e n => k34.keep b o (sm b o e) fun z => n (.inr ((OA_of b2 b).mp (Sc.oaw z)))) fun b z => .inl ((FA_of b2 b).mp z)
      exact next h1 h2 Sc k34 (chk_ok e5) (r5.append (Reps.cons (r4.v e4) Reps.nil)) (by simp; omega) e6 (by rw [hys, e7]; simp)
    | no ρa ρb e1 e2 e5 e6 =>
      refine ⟨P1, ρx, ds[i], ρa, Sx.same sm, rx, e1, fun σ2 Sa h1 h2 => ⟨(back h1 h2).1, P1, ρa, Sa, ?_⟩⟩
      rw [e2]
      intro H3 Sb k3
      refine (if_neg Bool.false_ne_true).mpr ?_
      have b2 := (back h1 h2).2
      have nD2 : ¬ OA O σ2 Dn := fun z => nD ((OA_of b2 Dn).mp z)
      have r5 : Reps K H3 yd (FA P1 O σ2) acc := hR.mono yd Sx.dom (fun b o e n => k3.keep b o (sm b o e) fun z => n (.inr ((OA_of b2 b).mp (Sb.oaw z)))) fun b z => .inl ((FA_of b2 b).mp z)
      have hD3 : H3 Dn = some (.lst acc) := k3.keep _ _ (sm _ _ hDx) fun z => nD2 (Sb.oaw z)
      have fin := next h1 h2 Sb k3 (chk_ok e5) r5 (by omega) e6 hys
      have e : upd H3 Dn (.lst acc) = H3 := by
        funext b
        unfold upd
        split
        · rename_i z; rw [z, hD3]
        · rfl
      rw [e] at fin
      exact fin
  · left
    have ei : i = ds.length := by omega
    subst ei
    refine ⟨src.stop P1 ρx _ Hx Sx okx, ?_⟩
    rw [List.drop_length] at hC
    have hC : (R.ok (([] : List D), ρx)) = R.ok (rest, ρf) := hC
    cases hC
    rw [List.append_nil] at hys
    subst hys
    have kH : Keep W σ H1 Hx := ⟨kx, sx⟩
    refine q (.ref Dn) Hx ((Sx.lessP pI).out ho nx) (k1.trans kH) ⟨?_, fun _ a e => ?_⟩
    · unfold Rep
      refine ⟨Dn, acc, rfl, fun z => (S1.dom Dn z).some hD, hDx, hR.less Sx.dom fun b z => ?_⟩
      rcases z with z | z
      · exact (FA_of sO b).mpr (z.imp (pI b) id)
      · rw [z]; exact .inl pD
    · cases e
      exact Classical.byContradiction fun z => k1.some Dn z hD
theorem ce_comp {elt iter : Expr} {ifs : List Expr} {scope : Scope} {own : List (Str × Nat)} {im : IM} {tm : GM} {t : BM} {me : EM} {is : List Nat} (hc : X.calm = true) (hN : X.N.Nodup) (hi : CI X P0 O W E tg iter im) (ok : BlkOk X.N X.env.scope scope own)
    (hg : ∀ (P0 : Pr) (s : Shared) (H : Hp) (C : Addr) (cl : List (Str × Addr)) (fp : List Addr), CG (X.blk s H scope (compEnvC scope cl C X.env) fp) P0 O W tg tm is)
    (ht : ∀ (s : Shared) (H : Hp) (C : Addr) (cl : List (Str × Addr)) (fp : List Addr), CTs (X.blk s H scope (compEnvC scope cl C X.env) fp) O W E00 ifs t)
    (he : ∀ (P0 : Pr) (s : Shared) (H : Hp) (C : Addr) (cl : List (Str × Addr)) (fp : List Addr), CEx (X.blk s H scope (compEnvC scope cl C X.env) fp) P0 O W E00 elt me)
    (hv : ∀ i ∈ is, i ∈ own.map (·.2) := by decide) (ho : ∀ i ∈ own.map (·.2), i ∉ O := by decide) (hs : ∀ x, foldedSetIterable iter X.env x = pure x := by intro _; rfl) :
    CEx X P0 O W E (.ListComp elt [⟨tg, iter, ifs, 0⟩] scope pos) (cComp im tm t me (own.map (·.2))) :=
  PE.imp (pe_lc hc hN hi ok (fun s H C cl fp => PG.ex fun P0 => hg P0 s H C cl fp) ht (fun s H C cl fp => PE.ex fun P0 => he P0 s H C cl fp) hs) (comp_core hv ho)
end
end Y

set_option Elab.async false
set_option linter.all false
set_option maxRecDepth 100000
namespace Y
open PySem PySem.Spec PyProof.Rows L2

/-! ### data without lists -/
mutual
def D.nl : D → Bool
  | .non => true
  | .bl _ => true
  | .int _ => true
  | .str _ => true
  | .tup ds => nls ds
  | _ => false
def nls : List D → Bool
  | [] => true
  | d :: ds => d.nl && nls ds
end
/-- a list, a dict of such -/
def D.shallow : D → Bool
  | .lst ds => nls ds
  | .dik _ ds => nls ds
  | .dit _ ds => nls ds
  | d => d.nl
section
variable {K : PySem.W.Frag} {H : Hp}
mutual
theorem Rep.nl : ∀ {d : D} {P P' : Pr} {v : V}, d.nl = true → Rep K H d P v → Rep K H d P' v
  | .non, _, _, _, _, h => by unfold Rep at h ⊢; exact h
  | .bl _, _, _, _, _, h => by unfold Rep at h ⊢; exact h
  | .int _, _, _, _, _, h => by unfold Rep at h ⊢; exact h
  | .str _, _, _, _, _, h => by unfold Rep at h ⊢; exact h
  | .tup ds, P, P', v, n, h => by
    unfold Rep at h ⊢
    obtain ⟨a, vs, e, h1, h2⟩ := h
    exact ⟨a, vs, e, h1, Reps.nl (by unfold D.nl at n; exact n) h2⟩
  | .lst _, _, _, _, n, _ => by simp [D.nl] at n
  | .arg _, _, _, _, n, _ => by simp [D.nl] at n
  | .dik _ _, _, _, _, n, _ => by simp [D.nl] at n
  | .dit _ _, _, _, _, n, _ => by simp [D.nl] at n
theorem Reps.nl : ∀ {ds : List D} {P P' : Pr} {vs : List V}, nls ds = true → Reps K H ds P vs → Reps K H ds P' vs
  | [], _, _, _, _, h => by rw [h.nil_iff]; exact Reps.nil
  | d :: ds, P, P', vs, n, h => by
    obtain ⟨v, ws, rfl, h1, h2⟩ := h.cons_iff
    unfold nls at n
    rw [Bool.and_eq_true] at n
    exact Reps.cons (Rep.nl n.1 h1) (Reps.nl n.2 h2)
end
theorem RepO.shallow {d : D} {P P' : Pr} {v : V} (n : d.shallow = true) (h : RepO K H d P v) : RepO K H d P' v := by
  cases d with
  | lst ds => obtain ⟨a, vs, e, h1, h2⟩ := h; exact ⟨a, vs, e, h1, h2.nl n⟩
  | dik ks ds => obtain ⟨a, vs, e, hl, h1, h2⟩ := h; exact ⟨a, vs, e, hl, h1, h2.nl n⟩
  | dit ks ds => obtain ⟨a, vs, e, hl, h1, h2⟩ := h; exact ⟨a, vs, e, hl, h1, h2.nl n⟩
  | non => exact h
  | bl _ => exact h
  | int _ => exact h
  | str _ => exact h
  | tup _ => exact h
  | arg _ => exact h
theorem RepO.mono {H' : Hp} {d : D} {P P' : Pr} {v : V} (hm : ∀ b, P b → isMut (H b)) (k : ∀ b o, H b = some o → ¬ P b → H' b = some o) (hp : ∀ b, P' b → P b ∨ H b = none) (hk : ∀ a o, v = .ref a → H a = some o → H' a = some o) (h : RepO K H d P v) : RepO K H' d P' v := by
  cases d with
  | lst ds => obtain ⟨a, vs, e, h1, h2⟩ := h; exact ⟨a, vs, e, hk a _ e h1, h2.mono ds hm k hp⟩
  | dik ks ds => obtain ⟨a, vs, e, hl, h1, h2⟩ := h; exact ⟨a, vs, e, hl, hk a _ e h1, h2.mono ds hm k hp⟩
  | dit ks ds => obtain ⟨a, vs, e, hl, h1, h2⟩ := h; exact ⟨a, vs, e, hl, hk a _ e h1, h2.mono ds hm k hp⟩
  | non => exact h
  | bl _ => exact h
  | int _ => exact h
  | str _ => exact h
  | tup _ => exact h
  | arg _ => exact h
end
open Classical in
/-- what is known of the slots is what was known; or, of own slots, it holds no lists -/
noncomputable def chkO (O W : List Nat) (ρ ρ' : Env) : R Unit := if ∀ (j : Nat) d, ρ'[j]? = some (some d) → (ρ[j]? = some (some d) ∧ j ∉ W) ∨ (j ∈ O ∧ d.shallow = true) ∨ d.nl = true then .ok () else .stk
theorem chkO_ok {O W : List Nat} {ρ ρ' : Env} (h : chkO O W ρ ρ' = .ok ()) : ∀ (j : Nat) d, ρ'[j]? = some (some d) → (ρ[j]? = some (some d) ∧ j ∉ W) ∨ (j ∈ O ∧ d.shallow = true) ∨ d.nl = true := by
  unfold chkO at h
  split at h
  · assumption
  · cases h
@[simp] theorem chkO_same {O : List Nat} {ρ : Env} : chkO O [] ρ ρ = .ok () := by unfold chkO; rw [if_pos fun j d e => .inl ⟨e, by simp⟩]
/-- what an own slot may take -/
def D.ownable : D → Bool
  | .lst _ => true
  | .non => true
  | .bl _ => true
  | .int _ => true
  | .str _ => true
  | _ => false
section
variable {K : PySem.W.Frag} {P0 P1 : Pr} {O W : List Nat} {ρ ρ' : Env} {σ σ' : St} {H H' : Hp} {d : D} {v : V}
/-- an own slot's object is written -/
theorem Sim.ownW (S : Sim K P0 O W ρ σ H) {i : Nat} {a : Addr} {o : HO} (hi : i ∈ O) (ha : σ[i]? = some (some (.ref a))) (ho : isMut (some o)) (r : RepO K (upd H a o) d (FA P0 O σ) (.ref a)) : Sim K P0 O W (ρ.set i (some d)) σ (upd H a o) := by
  have pa : FA P0 O σ a := .inr ⟨i, hi, ha⟩
  have k : ∀ b u, H b = some u → ¬ FA P0 O σ b → upd H a o b = some u := fun b u e n => by rw [upd_ne fun z => n (by rw [z]; exact pa)]; exact e
  refine ⟨S.sub, by simpa using S.len, fun b z => ?_, fun j d' e n => ?_, fun j d' e n => ?_, S.sep, S.sep0⟩
  · by_cases hb : b = a
    · rw [hb, upd_same]; exact ho
    · rw [upd_ne hb]; exact S.dom b z
  · have hj : i ≠ j := fun (z : i = j) => n (by rw [← z]; exact hi)
    rw [List.getElem?_set_ne hj] at e
    obtain ⟨v, h1, h2⟩ := S.val j d' e n
    exact ⟨v, h1, h2.of_same S.dom k⟩
  · by_cases hj : i = j
    · subst hj
      have h1 : i < ρ.length := by have := (List.getElem?_eq_some_iff.mp e).1; simpa using this
      rw [List.getElem?_set_self h1] at e
      cases e
      exact ⟨_, ha, r⟩
    · rw [List.getElem?_set_ne hj] at e
      obtain ⟨v, h1, h2⟩ := S.own j d' e n
      refine ⟨v, h1, h2.mono S.dom k (fun _ z => .inl z) fun b u e1 e2 => ?_⟩
      subst e1
      rw [upd_ne fun (z : b = a) => hj (S.sep i j a hi n ha (by rw [← z]; exact h1))]
      exact e2
/-- a datum of an own slot, of a new object -/
theorem Rep.own (hm : ∀ b, FA P0 O σ b → isMut (H b)) (hd : d.ownable = true) (r : Rep K H d (FA P0 O σ) v) {P' : Pr} (hp : ∀ b, P' b → FA P0 O σ b ∨ v = .ref b) : RepO K H d P' v := by
  cases d with
  | lst ds =>
    unfold Rep at r
    obtain ⟨a, vs, rfl, h0, h1, h2⟩ := r
    exact ⟨a, vs, rfl, h1, h2.less (mutL hm h1) fun b z => (hp b z).imp id fun z => by cases z; rfl⟩
  | dik _ _ => cases hd
  | dit _ _ => cases hd
  | non => unfold Rep at r; exact r
  | bl _ => unfold Rep at r; exact r
  | int _ => unfold Rep at r; exact r
  | str _ => unfold Rep at r; exact r
  | tup _ => cases hd
  | arg _ => cases hd
/-- an own slot gets a new object v. S0: the state ahead of its making -/
theorem Sim.setO (S0 : Sim K P0 O W ρ σ H) (S : Sim K P0 O W ρ' σ H') (k : Keep W σ H H') (c : ∀ (j : Nat) d, ρ'[j]? = some (some d) → (ρ[j]? = some (some d) ∧ j ∉ W) ∨ (j ∈ O ∧ d.shallow = true) ∨ d.nl = true) {i : Nat} (hi : i ∈ O)
    (new : ∀ a, v = .ref a → H a = none ∧ isMut (H' a)) (r : RepO K H' d (fun b => FA P0 O σ b ∨ v = .ref b) v) : Sim K P0 O W (ρ'.set i (some d)) (σ.set i (some v)) H' := by
  have gs : ∀ {j : Nat} {w : V}, (σ.set i (some v))[j]? = some (some w) → (j = i ∧ w = v) ∨ (j ≠ i ∧ σ[j]? = some (some w)) := fun {j w} e => by
    by_cases hj : i = j
    · subst hj
      have h1 : i < σ.length := by have := (List.getElem?_eq_some_iff.mp e).1; simpa using this
      rw [List.getElem?_set_self h1] at e
      cases e
      exact .inl ⟨rfl, rfl⟩
    · rw [List.getElem?_set_ne hj] at e
      exact .inr ⟨fun z => hj z.symm, e⟩
  have oa : ∀ b, OA O (σ.set i (some v)) b → v = .ref b ∨ OA O σ b := fun b ⟨j, hj, e⟩ => by
    rcases gs e with ⟨_, e2⟩ | ⟨_, e2⟩
    · exact .inl e2.symm
    · exact .inr ⟨j, hj, e2⟩
  have fa0 : ∀ b, FA P0 O (σ.set i (some v)) b → FA P0 O σ b ∨ H b = none := fun b z => by
    rcases z with z | z
    · exact .inl (.inl z)
    · rcases oa b z with z | z
      · exact .inr (new b z).1
      · exact .inl (.inr z)
  have kf : ∀ b o, H b = some o → ¬ FA P0 O σ b → H' b = some o := fun b o e n => k.keep b o e fun z => n (.inr (S.oaw z))
  -- the new object is not what an own slot held
  have apart : ∀ a, v = .ref a → ¬ FA P0 O σ a := fun a e z => (S0.dom a z).some (new a e).1
  refine ⟨S.sub, by simpa using S.len, fun b z => ?_, fun j d' e n => ?_, fun j d' e n => ?_, fun x y a hx hy e1 e2 => ?_, fun a z y => ?_⟩
  · rcases z with z | z
    · exact S.dom b (.inl z)
    · rcases oa b z with z | z
      · exact (new b z).2
      · exact S.dom b (.inr z)
  · have hj : i ≠ j := fun (z : i = j) => n (by rw [← z]; exact hi)
    rw [List.getElem?_set_ne hj] at e ⊢
    rcases c j d' e with ⟨e0, _⟩ | ⟨z, _⟩ | nl
    · obtain ⟨w, h1, h2⟩ := S0.val j d' e0 n
      exact ⟨w, h1, h2.mono d' S0.dom kf fa0⟩
    · exact absurd z n
    · obtain ⟨w, h1, h2⟩ := S.val j d' e n
      exact ⟨w, h1, h2.nl nl⟩
  · by_cases hj : i = j
    · subst hj
      have h1 : i < ρ'.length := by have := (List.getElem?_eq_some_iff.mp e).1; simpa using this
      rw [List.getElem?_set_self h1] at e
      cases e
      refine ⟨v, List.getElem?_set_self (Nat.lt_of_lt_of_le h1 S.len), ?_⟩
      have r' := r
      refine r'.mono (P := fun b => FA P0 O σ b ∨ v = .ref b) (fun b z => z.elim (S.dom b) fun z => (new b z).2) (fun _ _ e _ => e) (fun b z => ?_) fun _ _ _ e => e
      rcases z with z | z
      · exact .inl (.inl (.inl z))
      · exact .inl ((oa b z).elim .inr fun z => .inl (.inr z))
    · rw [List.getElem?_set_ne hj] at e ⊢
      rcases c j d' e with ⟨e0, hw⟩ | ⟨_, sh⟩ | nl
      · obtain ⟨w, h1, h2⟩ := S0.own j d' e0 n
        refine ⟨w, h1, h2.mono S0.dom kf fa0 fun a o e1 e2 => ?_⟩
        subst e1
        refine k.keep a o e2 fun ⟨x, hx, ex⟩ => ?_
        have := S0.sep x j a (S0.sub x hx) n ex h1
        exact hw (this ▸ hx)
      · obtain ⟨w, h1, h2⟩ := S.own j d' e n
        exact ⟨w, h1, h2.shallow sh⟩
      · obtain ⟨w, h1, h2⟩ := S.own j d' e n
        refine ⟨w, h1, ?_⟩
        cases d' <;> first | exact h2 | (simp [D.nl] at nl)
  · rcases gs e1 with ⟨f1, g1⟩ | ⟨f1, g1⟩
    · rcases gs e2 with ⟨f2, g2⟩ | ⟨f2, g2⟩
      · rw [f1, f2]
      · exact absurd (.inr ⟨y, hy, g2⟩) (apart a g1.symm)
    · rcases gs e2 with ⟨f2, g2⟩ | ⟨f2, g2⟩
      · exact absurd (.inr ⟨x, hx, g1⟩) (apart a g2.symm)
      · exact S.sep x y a hx hy g1 g2
  · rcases oa a z with z | z
    · exact apart a z (.inl y)
    · exact S.sep0 a z y
end

/-! ### statements -/
inductive Fl where
  | nx | bk | ct | rt (h : Hd)
abbrev SM := Env → R (Fl × Env)
def Fin (K : PySem.W.Frag) (P0 : Pr) (O : List Nat) (Hs : Hp) (D : Ends) (σ : St) (H : Hp) : Fl → Prop
  | .nx => D.nx σ H
  | .bk => D.bk σ H
  | .ct => D.ct σ H
  | .rt h => ∀ v, HdR K P0 O Hs σ H h v → D.rt v H
def tSt (K : PySem.W.Frag) (P0 : Pr) (O W U : List Nat) (E : EK) (m : SM) : TS := fun D σ H => ∃ ρ, Sim K P0 O W ρ σ H ∧
  Res E O σ H (m ρ) fun a => ∀ σ' H', Sim K P0 O W a.2 σ' H' → Tr O U σ H σ' H' → σ'.length = σ.length → Fin K P0 O H D σ' H' a.1
section
variable {E : EK} {O W U : List Nat} {σ σ1 : St} {H H1 : Hp} {α β : Type}
theorem Keep.up (hs : ∀ i ∈ W, i ∈ O) (k : Keep W σ H H1) : Keep O σ H H1 := ⟨fun b o e n => k.keep b o e fun ⟨i, hi, z⟩ => n ⟨i, hs i hi, z⟩, k.some⟩
theorem Res.down (hs : ∀ i ∈ W, i ∈ O) {r : R α} {k : α → Prop} (h : Res E O σ H r k) : Res E W σ H r k := by
  cases r with
  | ok a => exact h
  | er c ds => exact fun H' kp => h H' (kp.up hs)
  | stk => exact h
theorem Keep.afterT {H2 : Hp} (t : Tr O U σ H σ1 H1) (k : Keep O σ1 H1 H2) : Keep O σ H H2 where
  keep := fun b o e n => k.keep b o (t.keep b o e n) fun z => by
    rcases t.own b z with z | z
    · exact n z
    · rw [e] at z; cases z
  some := fun b e => k.some b (t.some b e)
theorem Res.keepT {r : R α} {k : α → Prop} (h : Res E O σ H r k) (t : Tr O U σ H σ1 H1) : Res E O σ1 H1 r k := by
  cases r with
  | ok a => exact h
  | er c ds => exact fun H' kp => h H' (kp.afterT t)
  | stk => exact h
end
section
variable {X : Cx} {P0 : Pr} {O W U : List Nat} {E : EK} {a b c e tg : Expr} {es : List Expr} {ma mb mc : EM} {ms : AM} {pos : Pos} {st : Stmt} {sts : List Stmt} {m n : SM}
abbrev CS (X : Cx) (P0 : Pr) (O W U : List Nat) (E : EK) (st : Stmt) (m : SM) : Prop := PS X st (tSt X.K P0 O W U E m)
abbrev CSs (X : Cx) (P0 : Pr) (O W U : List Nat) (E : EK) (sts : List Stmt) (m : SM) : Prop := PSs X sts (tSt X.K P0 O W U E m)
def sSkip : SM := fun ρ => .ok (.nx, ρ)
def sSeq (m n : SM) : SM := fun ρ => do
  let (f, ρ1) ← m ρ
  match f with
  | .nx => n ρ1
  | f => pure (f, ρ1)
theorem cs_nil : CSs X P0 O W U E [] sSkip := PSs.imp pss_nil fun D σ H ⟨ρ, S, h⟩ => h σ H S .refl rfl
theorem cs_one (h : CS X P0 O W U E st m) : CSs X P0 O W U E [st] m := pss_one h
theorem cs_cons (h : CS X P0 O W U E st m) (h2 : CSs X P0 O W U E sts n) : CSs X P0 O W U E (st :: sts) (sSeq m n) := PSs.imp (pss_cons h h2) fun D σ H ⟨ρ, S, h⟩ =>
  ⟨ρ, S, h.of_bind.mono fun ⟨f, ρ1⟩ q σ1 H1 S1 t1 l1 => by
    cases f with
    | nx =>
      refine ⟨ρ1, S1, (Res.keepT (show Res E O σ H (n ρ1) _ from q) t1).mono fun ⟨f2, ρ2⟩ q2 σ2 H2 S2 t2 l2 => ?_⟩
      have q3 := q2 σ2 H2 S2 (t1.trans t2) (l2.trans l1)
      cases f2 with
      | nx => exact q3
      | bk => exact q3
      | ct => exact q3
      | rt hd => exact fun v r => q3 v (r.back t1.some)
    | bk => exact q σ1 H1 S1 t1 l1
    | ct => exact q σ1 H1 S1 t1 l1
    | rt hd => exact q σ1 H1 S1 t1 l1⟩
theorem cs_pass : CS X P0 O W U E (.Pass pos) sSkip := PS.imp ps_pass fun D σ H ⟨ρ, S, h⟩ => h σ H S .refl rfl
def sBrk : SM := fun ρ => .ok (.bk, ρ)
def sCnt : SM := fun ρ => .ok (.ct, ρ)
theorem cs_brk : CS X P0 O W U E (.Break pos) sBrk := PS.imp ps_break fun D σ H ⟨ρ, S, h⟩ => h σ H S .refl rfl
theorem cs_cnt : CS X P0 O W U E (.Continue pos) sCnt := PS.imp ps_continue fun D σ H ⟨ρ, S, h⟩ => h σ H S .refl rfl
/-- a statement that is not reached -/
def sNever : SM := fun _ => .stk
theorem cs_never : CS X P0 O W U E st sNever := PS.imp ps_never fun D σ H ⟨ρ, S, h⟩ => h
/-! ### return -/
def sRet (m : EM) : SM := fun ρ => do
  let (h, ρ1) ← m ρ
  pure (.rt h, ρ1)
theorem cs_ret (h : CEx X P0 O W E e ma) : CS X P0 O W U E (.Return (some e) pos) (sRet ma) := PS.imp (ps_ret h) fun D σ H ⟨ρ, S, h⟩ =>
  ⟨ρ, S, (h.of_bind.down S.sub).mono fun ⟨hd, ρ1⟩ q v H1 S1 k1 r1 => q σ H1 S1 (Tr.of S.sub k1) rfl v r1⟩
/-! ### if -/
def sIf (t : BM) (m n : SM) : SM := fun ρ => do
  let (k, ρ1) ← t ρ
  if k = true then m ρ1 else n ρ1
theorem Fin.back {K : PySem.W.Frag} {Hs Hs' : Hp} {D : Ends} {σ : St} {H : Hp} {f : Fl} (k : ∀ b, Hs b ≠ none → Hs' b ≠ none) (h : Fin K P0 O Hs D σ H f) : Fin K P0 O Hs' D σ H f := by
  cases f with
  | rt hd => exact fun v r => h v (r.back k)
  | nx => exact h
  | bk => exact h
  | ct => exact h
theorem cs_if {t : BM} {xs ys : List Stmt} (hc : CT X P0 O W E c t) (h1 : CSs X P0 O W U E xs m) (h2 : CSs X P0 O W U E ys n) : CS X P0 O W U E (.If c xs ys pos) (sIf t m n) := PS.imp (ps_if hc h1 h2) fun D σ H ⟨ρ, S, h⟩ =>
  ⟨ρ, S, (h.of_bind.down S.sub).mono fun ⟨k, ρ1⟩ q H1 S1 k1 => by
    cases k with
    | true =>
      exact (if_pos rfl).mpr ⟨ρ1, S1, (Res.keepT (show Res E O σ H (m ρ1) _ from q) (Tr.of (U := U) S.sub k1)).mono fun ⟨f2, ρ2⟩ q2 σ2 H2 S2 t2 l2 => (q2 σ2 H2 S2 ((Tr.of S.sub k1).trans t2) l2).back fun b e => k1.some b e⟩
    | false =>
      exact (if_neg Bool.false_ne_true).mpr ⟨ρ1, S1, (Res.keepT (show Res E O σ H (n ρ1) _ from q) (Tr.of (U := U) S.sub k1)).mono fun ⟨f2, ρ2⟩ q2 σ2 H2 S2 t2 l2 => (q2 σ2 H2 S2 ((Tr.of S.sub k1).trans t2) l2).back fun b e => k1.some b e⟩⟩
end
end Y

set_option Elab.async false
set_option linter.all false
set_option maxRecDepth 100000
namespace Y
open PySem PySem.Spec PyProof.Rows L2
section
variable {K : PySem.W.Frag} {X : Cx} {P0 : Pr} {O W U : List Nat} {E : EK} {a b c e tg iter : Expr} {es : List Expr} {ma mb mc : EM} {ms : AM} {pos : Pos} {st : Stmt} {sts : List Stmt} {m n : SM}
/-! ### x = e; x, y = e -/
def sAsg (m : EM) (tm : GM) : SM := fun ρ => do
  let (h, ρ1) ← m ρ
  let d ← h.v.nox
  let ρ2 ← (tm d ρ1).nox
  pure (.nx, ρ2)
theorem Tr.slots {is : List Nat} {σ σ' : St} {H : Hp} (ho : ∀ i ∈ is, i ∉ O) (hu : ∀ i ∈ U, i ∈ O) (h : ∀ j, j ∉ is → σ'[j]? = σ[j]?) : Tr O U σ H σ' H :=
  ⟨fun _ _ e _ => e, fun _ e => e, fun b z => .inl ((OA_of (fun i hi => h i fun y => ho i y hi) b).mp z), fun i hi => h i fun y => ho i y (hu i hi)⟩
theorem tM_asg {tm : GM} {is : List Nat} (ho : ∀ i ∈ is, i ∉ O) (hu : ∀ i ∈ U, i ∈ O) (D : Ends) (σ : St) (H : Hp) (h : tSt K P0 O W U E (sAsg ma tm) D σ H) : tAsg (tM K P0 O W E ma) (tG K P0 O W tm is) D σ H := by
  obtain ⟨ρ, S, h⟩ := h
  refine ⟨ρ, S, (h.of_bind.down S.sub).mono fun ⟨hd, ρ1⟩ q v H1 S1 k1 r1 => ?_⟩
  obtain ⟨d, e1, q⟩ := q.of_nox
  obtain ⟨ρ2, e2, q⟩ := q.of_nox
  exact ⟨ρ1, d, ρ2, S1, r1.v e1, e2, fun σ' S' l h' => q σ' H1 S' ((Tr.of S.sub k1).trans (Tr.slots ho hu h')) l⟩
theorem cs_asg {tm : GM} {is : List Nat} (h : CEx X P0 O W E e ma) (hg : CG X P0 O W tg tm is) (ho : ∀ i ∈ is, i ∉ O := by decide) (hu : ∀ i ∈ U, i ∈ O := by decide) (hs : swapsWithSole [tg] e pos.line X.env = pure false := by rfl) (hw : swappedStores [tg] e X.env = pure none := by rfl) (h1 : (assignEach [tg] X.env).map (·.2) = [assign tg X.env] := by rfl) : CS X P0 O W U E (.Assign [tg] e pos) (sAsg ma tm) :=
  PS.imp (ps_asg h hg hs hw h1) (tM_asg ho hu)
/-- y = [.. for ..] on one line, y not captured -/
theorem cs_asgLc {i : Nat} {y : Str} {py : Pos} {elt : Expr} {ifs : List Expr} {scope : Scope} {own : List (Str × Nat)} {im : IM} {tm : GM} {t : BM} {me : EM} {is : List Nat} {p2 : Pos} (hc : X.calm = true) (hN : X.N.Nodup) (hy : X.N[i]? = some y) (hyl : X.env.scope.names.lookup y = some .local)
    (hsw : swapsWith (.ListComp elt [⟨tg, iter, ifs, 0⟩] scope pos) (some (.Name y py)) p2.line X.env = pure true) (hi : CI X P0 O W E tg iter im) (ok : BlkOk X.N X.env.scope scope own)
    (hg : ∀ (P0 : Pr) (s : Shared) (H : Hp) (C : Addr) (cl : List (Str × Addr)) (fp : List Addr), CG (X.blk s H scope (compEnvC scope cl C X.env) fp) P0 O W tg tm is)
    (ht : ∀ (s : Shared) (H : Hp) (C : Addr) (cl : List (Str × Addr)) (fp : List Addr), CTs (X.blk s H scope (compEnvC scope cl C X.env) fp) O W E00 ifs t)
    (he : ∀ (P0 : Pr) (s : Shared) (H : Hp) (C : Addr) (cl : List (Str × Addr)) (fp : List Addr), CEx (X.blk s H scope (compEnvC scope cl C X.env) fp) P0 O W E00 elt me)
    (hv : ∀ i ∈ is, i ∈ own.map (·.2) := by decide) (ho : ∀ i ∈ own.map (·.2), i ∉ O := by decide) (hi' : i ∉ O := by decide) (hu : ∀ i ∈ U, i ∈ O := by decide) (hs : ∀ x, foldedSetIterable iter X.env x = pure x := by intro _; rfl) :
    CS X P0 O W U E (.Assign [.Name y py] (.ListComp elt [⟨tg, iter, ifs, 0⟩] scope pos) p2) (sAsg (cComp im tm t me (own.map (·.2))) (tmName i)) :=
  PS.imp (ps_setLc (i := i) hc hN hy hyl hsw hi ok (fun s H C cl fp => PG.ex fun P0 => hg P0 s H C cl fp) ht (fun s H C cl fp => PE.ex fun P0 => he P0 s H C cl fp) hs) fun D σ H h => by
    have q := tM_asg (is := [i]) (by simpa using hi') hu D σ H h
    refine comp_core (im := im) (tm := tm) (t := t) (me := me) hv ho σ H _ ?_
    obtain ⟨ρ, S, q⟩ := q
    refine ⟨ρ, S, q.mono fun a q v H1 S1 k1 r1 => ?_⟩
    obtain ⟨ρ1, d, ρ2, S2, r, e, q⟩ := q v H1 S1 k1 r1
    cases e
    exact q _ (S2.set hi' r) (by simp) fun j hj => List.getElem?_set_ne fun z => hj (by simp [z])
/-! ### x = e, x an own slot -/
noncomputable def sOwn (O W : List Nat) (m : EM) (i : Nat) : SM := fun ρ => do
  let (h, ρ1) ← m ρ
  match h with
  | .fr d => do
    let _ ← (chkO O W ρ ρ1).nox
    if d.ownable = true then pure (.nx, ρ1.set i (some d)) else .stk
  | _ => .stk
theorem tM_own {i : Nat} (hi : i ∈ O) (hu : i ∉ U) (D : Ends) (σ : St) (H : Hp) (h : tSt K P0 O W U E (sOwn O W ma i) D σ H) : tAsg (tM K P0 O W E ma) (gName i) D σ H := by
  obtain ⟨ρ, S, h⟩ := h
  refine ⟨ρ, S, (h.of_bind.down S.sub).mono fun ⟨hd, ρ1⟩ q v H1 S1 k1 r1 => ?_⟩
  cases hd with
  | vl d => exact q.elim
  | ow j => exact q.elim
  | fr d =>
    obtain ⟨_, e1, q⟩ := Res.of_nox (show Res E O σ H ((chkO O W ρ ρ1).nox >>= _) _ from q)
    have c := chkO_ok e1
    by_cases hd : d.ownable = true
    · rw [if_pos hd] at q
      have new : ∀ a, v = .ref a → H a = none ∧ isMut (H1 a) := fun a e => by
        subst e
        have r := r1.1
        have f := r1.2
        cases d with
        | lst ds =>
          unfold Rep at r
          obtain ⟨b, vs, e, h0, h1, h2⟩ := r
          cases e
          exact ⟨f rfl _ rfl, by rw [h1]; trivial⟩
        | non => unfold Rep at r; cases r
        | bl _ => unfold Rep at r; cases r
        | int _ => unfold Rep at r; cases r
        | str _ => unfold Rep at r; cases r
        | tup _ => cases hd
        | arg _ => cases hd
        | dik _ _ => cases hd
        | dit _ _ => cases hd
      have S2 := S.setO S1 k1 c hi new (r1.1.own S1.dom hd fun b z => z)
      have gs : ∀ {b : Addr}, OA O (σ.set i (some v)) b → OA O σ b ∨ H b = none := fun {b} ⟨j, hj, e⟩ => by
        by_cases hij : i = j
        · subst hij
          have h1 : i < σ.length := by have := (List.getElem?_eq_some_iff.mp e).1; simpa using this
          rw [List.getElem?_set_self h1] at e
          cases e
          exact .inr (new b rfl).1
        · rw [List.getElem?_set_ne hij] at e
          exact .inl ⟨j, hj, e⟩
      exact q _ H1 S2 ⟨fun b o e n => k1.keep b o e fun z => n (S.oaw z), k1.some, fun b z => gs z, fun j hj => List.getElem?_set_ne fun (z : i = j) => hu (by rw [z]; exact hj)⟩ (by simp)
    · rw [if_neg hd] at q
      exact q.elim
theorem cs_own {i : Nat} {x : Str} {p : Pos} (hN : X.N.Nodup) (h : CEx X P0 O W E e ma) (hi : i ∈ O := by decide) (hu : i ∉ U := by decide) (hx : X.N[i]? = some x := by rfl) (hl : Loc X.env.scope x := by first | exact Or.inl rfl | exact Or.inr rfl) (hf : X.fn x = true ∨ X.env.scope.names.lookup x = some .local := by first | exact .inl rfl | exact .inr rfl)
    (hs : swapsWithSole [.Name x p] e pos.line X.env = pure false := by rfl) (hw : swappedStores [.Name x p] e X.env = pure none := by rfl) : CS X P0 O W U E (.Assign [.Name x p] e pos) (sOwn O W ma i) :=
  PS.imp (ps_asg h (pg_name hN hx hl hf) hs hw) (tM_own hi hu)
theorem cs_ownLc {i : Nat} {y : Str} {py : Pos} {elt : Expr} {ifs : List Expr} {scope : Scope} {own : List (Str × Nat)} {im : IM} {tm : GM} {t : BM} {me : EM} {is : List Nat} {p2 : Pos} (hc : X.calm = true) (hN : X.N.Nodup) (hy : X.N[i]? = some y) (hyl : X.env.scope.names.lookup y = some .local)
    (hsw : swapsWith (.ListComp elt [⟨tg, iter, ifs, 0⟩] scope pos) (some (.Name y py)) p2.line X.env = pure true) (hi : CI X P0 O W E tg iter im) (ok : BlkOk X.N X.env.scope scope own)
    (hg : ∀ (P0 : Pr) (s : Shared) (H : Hp) (C : Addr) (cl : List (Str × Addr)) (fp : List Addr), CG (X.blk s H scope (compEnvC scope cl C X.env) fp) P0 O W tg tm is)
    (ht : ∀ (s : Shared) (H : Hp) (C : Addr) (cl : List (Str × Addr)) (fp : List Addr), CTs (X.blk s H scope (compEnvC scope cl C X.env) fp) O W E00 ifs t)
    (he : ∀ (P0 : Pr) (s : Shared) (H : Hp) (C : Addr) (cl : List (Str × Addr)) (fp : List Addr), CEx (X.blk s H scope (compEnvC scope cl C X.env) fp) P0 O W E00 elt me)
    (hv : ∀ i ∈ is, i ∈ own.map (·.2) := by decide) (ho : ∀ i ∈ own.map (·.2), i ∉ O := by decide) (hi' : i ∈ O := by decide) (hu : i ∉ U := by decide) (hs : ∀ x, foldedSetIterable iter X.env x = pure x := by intro _; rfl) :
    CS X P0 O W U E (.Assign [.Name y py] (.ListComp elt [⟨tg, iter, ifs, 0⟩] scope pos) p2) (sOwn O W (cComp im tm t me (own.map (·.2))) i) :=
  PS.imp (ps_setLc (i := i) hc hN hy hyl hsw hi ok (fun s H C cl fp => PG.ex fun P0 => hg P0 s H C cl fp) ht (fun s H C cl fp => PE.ex fun P0 => he P0 s H C cl fp) hs) fun D σ H h => comp_core hv ho σ H _ (tM_own hi' hu D σ H h)

/-- few arguments, no stars -/
abbrev Few (X : Cx) (cp : Pos) (es : List Expr) : Prop := ((backTo cp (starEach es X.env)).all (fun x => !x.1) && (backToKw cp (keywordEach [] X.env)).all (fun x => x.1.isSome)
      && decide (es.length + ([] : List Keyword).length + (if ([] : List Keyword).isEmpty then 0 else 1) < 30)) = true
/-! ### an own list is changed -/
theorem Tr.ownW {i : Nat} {l : Addr} {o : HO} {σ : L2.St} {H H1 : Hp} (hs : ∀ i ∈ W, i ∈ O) (k : Keep W σ H H1) (hi : i ∈ O) (ha : σ[i]? = Option.some (Option.some (V.ref l))) : Tr O U σ H σ (upd H1 l o) where
  keep := fun b u e n => by
    rw [upd_ne fun (z : b = l) => n ⟨i, hi, by rw [z]; exact ha⟩]
    exact k.keep b u e fun ⟨j, hj, z⟩ => n ⟨j, hs j hj, z⟩
  some := fun b e => by
    by_cases hb : b = l
    · rw [hb, upd_same]; intro z; cases z
    · rw [upd_ne hb]; exact k.some b e
  own := fun _ z => .inl z
  unch := fun _ _ => rfl
/-- the list of an own slot -/
theorem Sim.lst {ρ : Env} {σ : St} {H : Hp} (S : Sim K P0 O W ρ σ H) {i : Nat} {ds : List D} (hi : i ∈ O) (e : ρ[i]? = some (some (.lst ds))) : ∃ l vs, σ[i]? = some (some (.ref l)) ∧ H l = some (.lst vs) ∧ Reps K H ds (FA P0 O σ) vs := by
  obtain ⟨v, h1, l, vs, rfl, h2, h3⟩ := S.own i _ e hi
  exact ⟨l, vs, h1, h2, h3⟩
/-- .. is given other items -/
theorem Sim.lstW {ρ : Env} {σ : St} {H : Hp} (S : Sim K P0 O W ρ σ H) {i : Nat} {l : Addr} {ds' : List D} {vs' vs : List V} (hi : i ∈ O) (ha : σ[i]? = some (some (.ref l))) (hl : H l = some (.lst vs)) (r : Reps K H ds' (FA P0 O σ) vs') : Sim K P0 O W (ρ.set i (some (.lst ds'))) σ (upd H l (.lst vs')) :=
  S.ownW hi ha trivial ⟨l, vs', rfl, upd_same, r.mono ds' S.dom (fun b o e n => by rw [upd_ne fun z => n (.inr ⟨i, hi, by rw [z]; exact ha⟩)]; exact e) fun b z => .inl z⟩
def lstAt (i : Nat) (ρ : Env) : R (List D) := match ρ[i]? with
  | some (some (.lst ds)) => .ok ds
  | _ => .stk
theorem lstAt_ok {i : Nat} {ρ : Env} {ds : List D} (h : lstAt i ρ = .ok ds) : ρ[i]? = some (some (.lst ds)) := by
  unfold lstAt at h
  split at h
  · rename_i e; cases h; exact e
  · cases h
/-- x.append(e) -/
def sAppend (i : Nat) (m : EM) : SM := fun ρ => do
  let _ ← (lstAt i ρ).nox
  let (h, ρ1) ← m ρ
  let d ← h.v.nox
  let ds ← (lstAt i ρ1).nox
  if szOk (ds.length + 1) = true then pure (.nx, ρ1.set i (some (.lst (ds ++ [d])))) else .stk
theorem tM_append {i : Nat} (hi : i ∈ O) (D : Ends) (σ : St) (H : Hp) (h : tSt K P0 O W U E (sAppend i ma) D σ H) : tDrop (tBM K "list" rAppend (tVar i) (tCons (tM K P0 O W E ma) tNil)) D σ H := by
  obtain ⟨ρ, S, h⟩ := h
  obtain ⟨ds0, e0, h⟩ := h.of_nox
  obtain ⟨l, vs0, h1, h2, _⟩ := S.lst hi (lstAt_ok e0)
  refine ⟨.ref l, h1, .inl ⟨rfl, _, SqL.of h2⟩, ρ, S, (h.of_bind.down S.sub).mono fun ⟨hd, ρ1⟩ q v H1 S1 k1 r1 => ?_⟩
  obtain ⟨d, e1, q⟩ := q.of_nox
  obtain ⟨ds, e2, q⟩ := q.of_nox
  obtain ⟨l', vs, h1', h3, h4⟩ := S1.lst hi (lstAt_ok e2)
  rw [h1] at h1'
  cases h1'
  by_cases c : szOk (ds.length + 1) = true
  · rw [if_pos c] at q
    have c := of_decide_eq_true c
    refine ⟨l, vs, v, rfl, rfl, h3, by rw [h4.length]; omega, ?_⟩
    exact q σ _ (S1.lstW hi h1 h3 (h4.append (Reps.cons (r1.v e1) Reps.nil))) (Tr.ownW S.sub k1 hi h1) rfl
  · rw [if_neg c] at q
    exact q.elim
theorem cs_append {i : Nat} {x : Str} {p ap cp : Pos} (h : CEx X P0 O W E e ma) (hi : i ∈ O := by decide) (hx : X.N[i]? = some x := by rfl) (hv : Vis X.env.scope x := by first | exact Or.inl rfl | exact Or.inr (Or.inl rfl) | exact Or.inr (Or.inr rfl)) (hd : (x == ("__debug__" : Str)) = false := by decide) (hcd : (x == ("__classdict__" : Str)) = false := by decide)
    (he : starEach [e] X.env = (false, eval e X.env) :: starEach [] X.env := by rfl) (hpl : (backTo cp (starEach [] X.env)).any (·.1) = false := by rfl) (hbase : attributeBase (.Name x p) "append" X.env (eval (.Name x p) X.env) = eval (.Name x p) X.env := by rfl) (hline : (ap.endLine == cp.line) = true := by rfl)
    (hfew : Few X cp [e] := by rfl) (hsw : swapsWith (.Call (.Attribute (.Name x p) "append" ap) [e] [] cp) none pos.line X.env = pure false := by rfl) :
    CS X P0 O W U E (.Expr (.Call (.Attribute (.Name x p) "append" ap) [e] [] cp) pos) (sAppend i ma) :=
  PS.imp (ps_expr (pe_bm PySem.F.plainAttrs_list PySem.F.slot_list_append PySem.F.type_list_append mt_append (pe_var (i := i) hx hv hd hcd) (pa_cons h pa_nil he) hbase hfew hline he hpl) hsw) (tM_append hi)
end
end Y

set_option Elab.async false
set_option linter.all false
set_option maxRecDepth 100000
namespace Y
open PySem PySem.Spec PyProof.Rows L2
section
variable {K : PySem.W.Frag} {X : Cx} {P0 : Pr} {O W U : List Nat} {E : EK} {a b c e tg iter : Expr} {es : List Expr} {ma mb mc : EM} {ms : AM} {pos : Pos} {st : Stmt} {sts : List Stmt} {m n : SM}
/-! ### x[k] = e, x an own list -/
def sSetIx (i : Nat) (mk mv : EM) : SM := fun ρ => do
  let (h, ρ1) ← mv ρ
  let d ← h.v.nox
  let _ ← (lstAt i ρ1).nox
  let (h2, ρ2) ← mk ρ1
  let k ← h2.v.nox
  match k with
  | .int z => do
    let ds ← (lstAt i ρ2).nox
    match ixN ds.length z with
    | some j => pure (.nx, ρ2.set i (some (.lst (ds.set j d))))
    | none => .stk
  | _ => .stk
theorem Reps.set {H : Hp} {P : Pr} {d : D} {v : V} (r : Rep K H d P v) : ∀ {ds : List D} {vs : List V} (j : Nat), Reps K H ds P vs → Reps K H (ds.set j d) P (vs.set j v)
  | [], _, j, h => by rw [h.nil_iff]; exact Reps.nil
  | x :: xs, _, 0, h => by
    obtain ⟨w, ws, rfl, h1, h2⟩ := h.cons_iff
    exact Reps.cons r h2
  | x :: xs, _, j + 1, h => by
    obtain ⟨w, ws, rfl, h1, h2⟩ := h.cons_iff
    exact Reps.cons h1 (Reps.set r j h2)
theorem cs_setix {i : Nat} {x : Str} {p sp : Pos} {k : Expr} {mk : EM} (h : CEx X P0 O W E e ma) (hk : CEx X P0 O W E k mk) (hi : i ∈ O := by decide) (hx : X.N[i]? = some x := by rfl) (hv : Vis X.env.scope x := by first | exact Or.inl rfl | exact Or.inr (Or.inl rfl) | exact Or.inr (Or.inr rfl)) (hd : (x == ("__debug__" : Str)) = false := by decide) (hcd : (x == ("__classdict__" : Str)) = false := by decide)
    (hs : swapsWithSole [.Subscript (.Name x p) k sp] e pos.line X.env = pure false := by rfl) (hw : swappedStores [.Subscript (.Name x p) k sp] e X.env = pure none := by rfl) (h1 : (assignEach [.Subscript (.Name x p) k sp] X.env).map (·.2) = [assign (.Subscript (.Name x p) k sp) X.env] := by rfl)
    (hb : ∀ v, assign (.Subscript (.Name x p) k sp) X.env v = (do
      let ov ← holding [v] (eval (.Name x p) X.env)
      let iv ← holding [v, ov] (eval k X.env)
      standAt sp
      holding [v, ov, iv] (setItem ov iv v)
      release [v, ov, iv] []) := by intro _; rfl) :
    CS X P0 O W U E (.Assign [.Subscript (.Name x p) k sp] e pos) (sSetIx i mk ma) := PS.imp (ps_asg h (pg_sub (pe_var (i := i) hx hv hd hcd) hk set_list hb) hs hw h1) fun D σ H ⟨ρ, S, h⟩ => by
  refine ⟨ρ, S, (h.of_bind.down S.sub).mono fun ⟨hd, ρ1⟩ q v H1 S1 k1 r1 => ?_⟩
  obtain ⟨d, e1, q1⟩ := q.of_nox
  obtain ⟨ds0, e0, q2⟩ := q1.of_nox
  obtain ⟨l, vs0, h1, h2, _⟩ := S1.lst hi (lstAt_ok e0)
  refine ⟨.ref l, h1, ρ1, S1, ((q2.of_bind.down S1.sub).keep k1).mono fun ⟨hd2, ρ2⟩ q3 w H2 S2 k2 r2 => ?_⟩
  obtain ⟨dk, e2, q4⟩ := q3.of_nox
  have rk := r2.v e2
  cases dk <;> first | (exact q4.elim) | skip
  rename_i z
  unfold Rep at rk
  subst rk
  obtain ⟨ds, e3, q5⟩ := Res.of_nox (show Res E O σ H ((lstAt i ρ2).nox >>= _) _ from q4)
  obtain ⟨l', vs, h1', h3, h4⟩ := S2.lst hi (lstAt_ok e3)
  rw [h1] at h1'
  cases h1'
  cases ej : ixN ds.length z with
  | none => rw [ej] at q5; exact q5.elim
  | some j =>
    rw [ej] at q5
    refine ⟨l, vs, z, j, rfl, rfl, h3, by rw [h4.length]; exact ej, ?_⟩
    exact q5 σ _ (S2.lstW hi h1 h3 (Reps.set (S1.rep k2 (r1.v e1)) j h4)) (Tr.ownW S.sub (k1.trans k2) hi h1) rfl
/-! ### for -/
noncomputable def forL (tm : GM) (body : SM) (vs ws : List Nat) : List D → Env → R (Fl × Env)
  | [], ρ => .ok (.nx, ρ)
  | x :: xs, ρ => do
    let ρ1 ← (tm x ρ).nox
    let (f, ρ2) ← body ρ1
    match f with
    | .bk => pure (.nx, ρ2)
    | .rt h => pure (.rt h, ρ2)
    | _ => do
      let _ ← (chk ws ρ (wipeE ρ2 vs)).nox
      forL tm body vs ws xs (wipeE ρ2 vs)
noncomputable def sFor (U : List Nat) (im : IM) (tm : GM) (body : SM) (vs : List Nat) : SM := fun ρ => do
  let ((ds, ws), ρ1) ← im ρ
  if (ws.all fun w => U.contains w) = true then forL tm body vs ws ds ρ1 else .stk
theorem for_core {im : IM} {tm : GM} {is vs U' : List Nat} (ho : ∀ i ∈ is, i ∉ O) (hu : ∀ i ∈ U', i ∈ O) (hu' : ∀ i ∈ U, i ∈ U') (D : Ends) (σ : L2.St) (H : Hp) (h : tSt X.K P0 O W U E (sFor U' im tm m vs) D σ H) : tFor (tMi X.K P0 O W E im) (tG X.K P0 O W tm is) (tSt X.K P0 O W U' E m) D σ H := by
  obtain ⟨ρ, S, h⟩ := h
  refine ⟨ρ, S, (h.of_bind.down S.sub).mono fun ⟨⟨ds, ws⟩, ρ1⟩ q J H1 Ok S1 k1 src ok hz => ?_⟩
  have src : Src X.K O W ds ws J Ok := src
  have q : Res E O σ H (if (ws.all fun w => U'.contains w) = true then forL tm m vs ws ds ρ1 else .stk) _ := q
  by_cases hw : (ws.all fun w => U'.contains w) = true
  · rw [if_pos hw] at q
    have hw : ∀ w ∈ ws, w ∈ U' := fun w hw' => by simpa using List.all_eq_true.mp hw w hw'
    have t1 : Tr O U σ H σ H1 := Tr.of S.sub k1
    let Post : Fl × Env → Prop := fun a => ∀ σ' H', Sim X.K P0 O W a.2 σ' H' → Tr O U σ H σ' H' → σ'.length = σ.length → Fin X.K P0 O H D σ' H' a.1
    let I : Nat → L2.St → Hp → Prop := fun i σx Hx => i ≤ ds.length ∧ ∃ ρx, Sim X.K P0 O W ρx σx Hx ∧ Ok P0 ρx σx Hx ∧ Tr O U σ H σx Hx ∧ σx.length = σ.length ∧ Res E O σx Hx (forL tm m vs ws (ds.drop i) ρx) Post
    refine ⟨fun i k σx Hx => k = ds.length - i ∧ I i σx Hx, ⟨ds.length, by simp, Nat.zero_le _, ρ1, S1, ok, t1, rfl, Res.keepT (show Res E O σ H (forL tm m vs ws ds ρ1) Post from q) t1⟩, ?_⟩
    rintro i k σx Hx ⟨rfl, hil, ρx, Sx, okx, tx, lx, qx⟩
    by_cases hlt : i < ds.length
    · right
      refine ⟨src.go P0 i ρx σx Hx Sx okx hlt, I (i + 1), fun σ' H' p' => ⟨ds.length - (i + 1), by omega, rfl, p'⟩, fun x' H' y => ?_⟩
      obtain ⟨sm, rx⟩ := src.yld P0 i ρx σx Hx x' H' ds[i] Sx okx (List.getElem?_eq_getElem hlt) y
      rw [List.drop_eq_getElem_cons hlt] at qx
      unfold forL at qx
      obtain ⟨ρa, e1, qx⟩ := qx.of_nox
      refine ⟨ρx, ds[i], ρa, Sx.same sm, rx, e1, fun σ2 S2 l2 ag => ?_⟩
      have t2 : Tr O U' σx Hx σ2 H' := Tr.trans (σ1 := σx) (H1 := H') ⟨fun b o e _ => sm b o e, Same.some sm, fun _ z => .inl z, fun _ _ => rfl⟩ (Tr.slots ho hu ag)
      refine ⟨ρa, S2, (Res.keepT qx.of_bind t2).mono fun ⟨f, ρ2⟩ q3 σ3 H3 S3 t3 l3 => ?_⟩
      have t4 : Tr O U' σx Hx σ3 H3 := t2.trans t3
      have t5 : Tr O U σ H σ3 H3 := tx.trans (t4.less hu')
      have l5 : σ3.length = σ.length := l3.trans (l2.trans lx)
      have next : Res E O σx Hx (do let _ ← (chk ws ρx (wipeE ρ2 vs)).nox; forL tm m vs ws (ds.drop (i + 1)) (wipeE ρ2 vs)) Post → I (i + 1) σ3 H3 := fun q4 => by
        obtain ⟨_, e4, q5⟩ := Res.of_nox (show Res E O σx Hx ((chk ws ρx (wipeE ρ2 vs)).nox >>= fun _ => forL tm m vs ws (ds.drop (i + 1)) (wipeE ρ2 vs)) Post from q4)
        refine ⟨hlt, wipeE ρ2 vs, S3.wipe vs, ?_, t5, l5, Res.keepT q5 t4⟩
        refine src.keep P0 ρx σx Hx _ σ3 H3 Sx (fun b o e n => t4.keep b o e fun z => n (.inr z)) (fun b z => ?_) (fun w hw' => ⟨t4.unch w (hw w hw'), chk_ok e4 w hw'⟩) okx
        rcases z with z | z
        · exact .inl (.inl z)
        · exact (t4.own b z).imp .inr id
      cases f with
      | nx => exact next q3
      | ct => exact next q3
      | bk => exact q3 σ3 H3 S3 t5 l5
      | rt hd =>
        intro v r
        exact q3 σ3 H3 S3 t5 l5 v (r.back fun b e => Same.some sm b (tx.some b e))
    · left
      have ei : i = ds.length := by omega
      subst ei
      rw [List.drop_length] at qx
      exact ⟨src.stop P0 ρx σx Hx Sx okx, qx σx Hx Sx tx lx⟩
  · rw [if_neg hw] at q
    exact q.elim
theorem cs_for {im : IM} {tm : GM} {is vs U' : List Nat} {xs : List Stmt} (hp : PassesOwn (model X.prog X.w) X.A X.env X.xe) (hc : X.calm = true) (hi : CI X P0 O W E tg iter im) (hg : CG X P0 O W tg tm is) (hb : CSs X P0 O W U' E xs m) (ho : ∀ i ∈ is, i ∉ O := by decide) (hu : ∀ i ∈ U', i ∈ O := by decide) (hu' : ∀ i ∈ U, i ∈ U' := by decide)
    (hs : ∀ x, foldedSetIterable iter X.env x = pure x := by intro _; rfl) : CS X P0 O W U E (.For tg iter xs [] pos) (sFor U' im tm m vs) := PS.imp (ps_for hp hc hi hg hb hs) (for_core ho hu hu')
end
end Y

set_option Elab.async false
set_option linter.all false
set_option maxRecDepth 100000
namespace Y
open PySem PySem.Spec PyProof.Rows L2

/-! ### exceptions are made where none is handled -/
theorem passN {X : Cx} : Passes (L2N.CX X.prog X.w) X E0 := fun _ _ _ _ _ _ _ q => by
  rcases q with ⟨_, _, _, _, _, _, _, _, _, _, _, _, f⟩
  exact False.elim f
theorem okN {P : Program} {w : World} {K : PySem.W.Frag} {mg : Str → Option Value} {base : Heap} {x qual : Str} {st : Stmt} {f : Addr} {fd : FuncData} {N ps : List Str} {k : Nat} {sp : Sp} (F : Fun K x qual st f fd) (S : FnScope N ps (defScope st)) (hlen : ∀ vs H Q E, sp vs H Q E → vs.length = ps.length)
    (hb : ∀ (cdv : Value) (A : Around) (outer : List PySem.Env) (s : Shared) (H : Hp) (vs : List V) (Q : VK) (E : XK), Room k (A.deeper (envOfC qual (defScope st) s.heap.objs.size f cdv)) → sp vs H Q E →
      ∃ t, PSs (cxOf (L2N.CX P w) P w K mg base N qual (defScope st) f cdv A outer s H E) (defBody st) t ∧ t { nx := fun _ H' => Q .non H', rt := Q } (L2.start N vs) H) : FnOk P w K mg base (L2N.CX P w) (k + 1) f fd ps sp := by
  rcases F.ex with ⟨_, _, _, _, _, _, cd, _, _, rfl, look, code⟩
  exact fn_of look code S hlen fun A outer s H vs Q E => hb cd A outer s H vs Q E

/-! ### what a def promises -/
/-- an exception of the program's own, made with a text -/
def exE (mg : Str → Option Value) (E : XK) : EK := fun c ds H => ds = [] ∧ ∃ C, mg c = some (.ref C) ∧ E (.ref C) none H
abbrev Fn := List D → R (Hd × Env)
/-- O: the parameters whose lists it may change -/
def spD (K : PySem.W.Frag) (mg : Str → Option Value) (np : Nat) (O : List Nat) (g : Fn) : Sp := fun vs H Q E => vs.length = np ∧ ∃ ds P0, Sim K P0 O [] (ds.map some) (vs.map some) H ∧ ds.length = np ∧
  Res (exE mg E) O (vs.map some) H (g ds) fun a => ∀ v H', Keep O (vs.map some) H H' → Sim K P0 O [] a.2 (vs.map some) H' → HdR K P0 O H (vs.map some) H' a.1 v → Q v H'
structure Glo (P : Program) (w : World) (K : PySem.W.Frag) (mg : Str → Option Value) (base : Heap) (name : Str) (k np : Nat) (O : List Nat) (g : Fn) : Prop where
  ex : ∃ f fd ps, mg name = some (.ref f) ∧ PySem.W.keepIn K (.ref f) = true ∧ Binds K fd ps [] ∧ ps.length = np ∧ FnOk P w K mg base (L2N.CX P w) k f fd ps (spD K mg np O g)
/-- exceptions of callees reach what is wanted here -/
structure Out2 (X : Cx) (E : EK) (XE : XK) : Prop where
  pass : Passes (L2N.CX X.prog X.w) X XE
  ex : ∀ c ds H, E c ds H → exE X.mg XE c ds H
theorem Out2.blk {X : Cx} : Out2 X E00 E0 := ⟨passN, fun _ _ _ h => h.elim⟩
theorem R.nox_er {α : Type} {r : R α} {a : α} (h : r.nox = .ok a) : r = .ok a := R.nox_of h
def pureF (g : List D → R Hd) : Fn := fun ds => do
  let h ← g ds
  pure (h, [])
section
variable {K : PySem.W.Frag} {P0 : Pr} {O W : List Nat} {ρ : Env} {σ : St} {H H' : Hp}
theorem FA_nil {τ : St} (b : Addr) : FA P0 [] τ b ↔ P0 b := ⟨fun z => z.elim id (fun ⟨_, h, _⟩ => (nomatch h)), .inl⟩
theorem Keep.nil {τ : St} (k : Keep [] τ H H') : Same H H' := fun b o e => k.keep b o e fun ⟨_, h, _⟩ => nomatch h
/-- the callee's state where no parameter is its own -/
theorem sim_args {ds : List D} {vs : List V} (hm : ∀ b, P0 b → isMut (H b)) (r : Reps K H ds P0 vs) : Sim K P0 [] [] (ds.map some) (vs.map some) H where
  sub := fun _ h => nomatch h
  len := by rw [List.length_map, List.length_map, r.length]; exact Nat.le_refl _
  dom := fun b z => hm b ((FA_nil b).mp z)
  val := fun i d e _ => by
    rw [List.getElem?_map] at e
    cases q : ds[i]? with
    | none => rw [q] at e; cases e
    | some d' =>
      rw [q] at e; cases e
      obtain ⟨v, e1, r1⟩ := r.get q
      exact ⟨v, by rw [List.getElem?_map, e1]; rfl, r1.less hm fun b z => (FA_nil b).mp z⟩
  own := fun i d e h => nomatch h
  sep := fun _ _ _ h => nomatch h
  sep0 := fun a ⟨_, h, _⟩ => nomatch h
end
section
variable {X : Cx} {P0 : Pr} {O W U : List Nat} {E : EK} {XE : XK} {a b c e : Expr} {es : List Expr} {ma mb mc : EM} {ms : AM} {pos : Pos} {k np : Nat} {name : Str}
/-- f(..), no argument's list is changed -/
def cCallF (g : List D → R Hd) (m : AM) : EM := fun ρ => do
  let (hs, ρ1) ← m ρ
  let ds ← (vsOf hs).nox
  let h ← g ds
  match h with
  | .ow _ => .stk
  | h => pure (h, ρ1)
theorem tM_callF {g : List D → R Hd} (hE : ∀ c ds H, E c ds H → exE X.mg XE c ds H) (σ : St) (H : Hp) (Q : VK) (len : ∀ σ H Q, tMs X.K P0 O W E ms σ H Q → True) (h : tM X.K P0 O W E (cCallF g ms) σ H Q) (hl : ∀ ρ hs ρ1, ms ρ = .ok (hs, ρ1) → hs.length = np) :
    tCall (spD X.K X.mg np [] (pureF g)) [] XE (tMs X.K P0 O W E ms) σ H Q := by
  obtain ⟨ρ, S, h⟩ := h
  refine ⟨ρ, S, ?_⟩
  cases em : ms ρ with
  | stk => unfold cCallF at h; rw [em] at h; exact h.elim
  | er c ds => unfold cCallF at h; rw [em] at h; exact h
  | ok p =>
    obtain ⟨hs, ρ1⟩ := p
    unfold cCallF at h
    rw [em] at h
    intro vs H1 S1 k1 r1
    obtain ⟨ds, e1, q⟩ := Res.of_nox (show Res E W σ H ((vsOf hs).nox >>= _) _ from h)
    have rr := HdRs.vs r1 e1
    have lv : vs.length = np := by
      have : ∀ {hs : List Hd} {vs : List V}, HdRs X.K P0 O H σ H1 hs vs → vs.length = hs.length := fun {hs} => by
        induction hs with
        | nil => intro vs r; have r : vs = [] := r; rw [r]; rfl
        | cons h hs ih => intro vs ⟨v, ws, e, _, r2⟩; rw [e, List.length_cons, List.length_cons, ih r2]
      rw [this r1]
      exact hl ρ hs ρ1 em
    rw [List.append_nil]
    refine ⟨lv, ds, FA P0 O σ, sim_args S1.dom rr, by rw [← rr.length]; exact lv, ?_⟩
    have q := q.keep k1
    unfold pureF
    cases eg : g ds with
    | stk => rw [eg] at q; exact q.elim
    | er c xs =>
      rw [eg] at q
      exact fun H' kp => hE c xs H' (q H' (Keep.same kp.nil))
    | ok hd =>
      rw [eg] at q
      intro v H2 k2 _ r2
      have sm := Keep.nil k2
      cases hd with
      | ow j => exact q.elim
      | fr d => exact q v H2 (S1.same sm) (k1.trans (Keep.same sm)) ⟨r2.1.less (fun b z => (S1.same sm).dom b ((FA_nil b).mp z)) fun b z => .inl z, fun m a e => Classical.byContradiction fun z => k1.some a z (r2.2 m a e)⟩
      | vl d => exact q v H2 (S1.same sm) (k1.trans (Keep.same sm)) (Rep.less (fun b z => (S1.same sm).dom b ((FA_nil b).mp z)) r2 fun b z => .inl z)
/-- the number of arguments -/
def ALen (m : AM) (n : Nat) : Prop := ∀ ρ hs ρ1, m ρ = .ok (hs, ρ1) → hs.length = n
theorem alen_nil : ALen cNil 0 := fun ρ hs ρ1 h => by cases h; rfl
theorem alen_cons {n : Nat} (h : ALen ms n) : ALen (cCons ma ms) (n + 1) := fun ρ hs ρ1 e => by
  obtain ⟨⟨h1, ρa⟩, e1, e⟩ := R.ok_of e
  obtain ⟨⟨h2, ρb⟩, e2, e⟩ := R.ok_of e
  cases e
  rw [List.length_cons, h _ _ _ e2]
theorem ce_call {g : List D → R Hd} {p : Pos} (G : Glo X.prog X.w X.K X.mg X.base name k np [] (pureF g)) (o : Out2 X E XE) (hr : Room k X.A) (ha : CA X P0 O W E (e :: es) ms) (hl : ALen ms np) (hg : Gl X name := by rfl) (hdb : (name == ("__debug__" : Str)) = false := by decide)
    (he : starEach (e :: es) X.env = (false, eval e X.env) :: starEach es X.env := by rfl) (hpl : (backTo pos (starEach es X.env)).any (·.1) = false := by rfl) : CEx X P0 O W E (.Call (.Name name p) (e :: es) [] pos) (cCallF g ms) := by
  obtain ⟨f, fd, ps, hm, hk, hb, _, F⟩ := G.ex
  exact PE.imp (pe_call F hr hg hm hk hb .nil o.pass ha hdb he hpl) fun σ H Q h => tM_callF o.ex σ H Q (fun _ _ _ _ => trivial) h hl
end
end Y

set_option Elab.async false
set_option linter.all false
set_option maxRecDepth 100000
namespace Y
open PySem PySem.Spec PyProof.Rows L2

/-! ### a def's body -/
def retH (np : Nat) : Fl → Env → R Hd
  | .nx, _ => .ok (.fr .non)
  | .rt (.ow i), ρ => if np ≤ i then (do
      let d ← (look i ρ).nox
      pure (.fr d)) else .stk
  | .rt h, _ => .ok h
  | _, _ => .stk
def outs (O : List Nat) (np : Nat) (ρ : Env) : Env := (List.range np).map fun i => if O.contains i = true then ρ.getD i none else none
def fnD (np n : Nat) (O : List Nat) (m : SM) : Fn := fun ds => do
  let (f, ρ) ← m (ds.map some ++ List.replicate (n - np) none)
  let h ← (retH np f ρ).nox
  pure (h, outs O np ρ)
section
variable {K : PySem.W.Frag} {mg : Str → Option Value} {P0 : Pr} {O Oc W U : List Nat} {ρ : Env} {σ : St} {H H' : Hp} {d : D} {v : V} {np n : Nat}
theorem RepO.less {P P' : Pr} (hm : ∀ b, P b → isMut (H b)) (h : RepO K H d P v) (hp : ∀ b, P' b → P b) : RepO K H d P' v := h.mono hm (fun _ _ e _ => e) (fun b z => .inl (hp b z)) fun _ _ _ e => e
/-- an own slot's object, told on -/
theorem RepO.rep {P P' : Pr} (hm : ∀ b, P b → isMut (H b)) (h : RepO K H d P v) (hp : ∀ b, P' b → P b) (ha : ∀ a, v = .ref a → ¬ P' a ∧ P a) : Rep K H d P' v := by
  cases d with
  | lst ds =>
    obtain ⟨a, vs, rfl, h1, h2⟩ := h
    unfold Rep
    exact ⟨a, vs, rfl, (ha a rfl).1, h1, h2.less hm fun b z => z.elim (hp b) fun z => by rw [z]; exact (ha a rfl).2⟩
  | dik ks ds =>
    obtain ⟨a, vs, rfl, hl, h1, h2⟩ := h
    unfold Rep
    exact ⟨a, vs, rfl, (ha a rfl).1, hl, .inl h1, h2.less hm fun b z => z.elim (hp b) fun z => by rw [z]; exact (ha a rfl).2⟩
  | dit ks ds =>
    obtain ⟨a, vs, rfl, hl, h1, h2⟩ := h
    unfold Rep
    exact ⟨a, vs, rfl, (ha a rfl).1, hl, .inl h1, h2.less hm fun b z => z.elim (hp b) fun z => by rw [z]; exact (ha a rfl).2⟩
  | non => unfold Rep; exact h
  | bl _ => unfold Rep; exact h
  | int _ => unfold Rep; exact h
  | str _ => unfold Rep; exact h
  | tup _ => exact False.elim h
  | arg _ => exact False.elim h
theorem start_get {N : List Str} {vs : List V} {i : Nat} {v : V} (h : (L2.start N vs)[i]? = some (some v)) : vs[i]? = some v := by
  unfold L2.start at h
  by_cases hi : i < vs.length
  · rw [List.getElem?_append_left (by simpa using hi), List.getElem?_map] at h
    cases e : vs[i]? with
    | none => rw [e] at h; cases h
    | some a => rw [e] at h; cases h; rfl
  · rw [List.getElem?_append_right (by simpa using hi), List.getElem?_replicate] at h
    split at h <;> cases h
theorem start_of {N : List Str} {vs : List V} {i : Nat} {v : V} (h : vs[i]? = some v) : (L2.start N vs)[i]? = some (some v) := by
  unfold L2.start
  have hi : i < vs.length := (List.getElem?_eq_some_iff.mp h).1
  rw [List.getElem?_append_left (by simpa using hi), List.getElem?_map, h]
  rfl
theorem env_get {ds : List D} {k i : Nat} {d : D} (h : (ds.map some ++ List.replicate k none)[i]? = some (some d)) : ds[i]? = some d := by
  by_cases hi : i < ds.length
  · rw [List.getElem?_append_left (by simpa using hi), List.getElem?_map] at h
    cases e : ds[i]? with
    | none => rw [e] at h; cases h
    | some a => rw [e] at h; cases h; rfl
  · rw [List.getElem?_append_right (by simpa using hi), List.getElem?_replicate] at h
    split at h <;> cases h
theorem map_get {α : Type} {ds : List α} {i : Nat} {d : α} : (ds.map some)[i]? = some (some d) ↔ ds[i]? = some d := by
  rw [List.getElem?_map]
  cases ds[i]? <;> simp
theorem OA_start {N : List Str} {vs : List V} (hO : ∀ i, i ∈ O ↔ i ∈ Oc ∧ i < np) (hl : vs.length = np) (b : Addr) : OA Oc (L2.start N vs) b ↔ OA O (vs.map some) b := by
  constructor
  · rintro ⟨i, hi, e⟩
    have e := start_get e
    exact ⟨i, (hO i).mpr ⟨hi, by rw [← hl]; exact (List.getElem?_eq_some_iff.mp e).1⟩, map_get.mpr e⟩
  · rintro ⟨i, hi, e⟩
    exact ⟨i, ((hO i).mp hi).1, start_of (map_get.mp e)⟩
theorem sim_start {N : List Str} {ds : List D} {vs : List V} (S : Sim K P0 O [] (ds.map some) (vs.map some) H) (hO : ∀ i, i ∈ O ↔ i ∈ Oc ∧ i < np) (hW : ∀ i ∈ W, i ∈ Oc) (hl : vs.length = np) (hd : ds.length = np) (hn : N.length = n) : Sim K P0 Oc W (ds.map some ++ List.replicate (n - np) none) (L2.start N vs) H := by
  have fa : ∀ b, FA P0 Oc (L2.start N vs) b → FA P0 O (vs.map some) b := fun b z => z.imp id (OA_start hO hl b).mp
  refine ⟨hW, by unfold L2.start; simp; omega, fun b z => S.dom b (fa b z), fun i d e n => ?_, fun i d e n => ?_, fun i j a hi hj e1 e2 => ?_, fun a z => S.sep0 a ((OA_start hO hl a).mp z)⟩
  · obtain ⟨v, h1, h2⟩ := S.val i d (map_get.mpr (env_get e)) fun z => n ((hO i).mp z).1
    exact ⟨v, start_of (map_get.mp h1), h2.less S.dom fa⟩
  · have e := env_get e
    have hi : i < np := by rw [← hd]; exact (List.getElem?_eq_some_iff.mp e).1
    obtain ⟨v, h1, h2⟩ := S.own i d (map_get.mpr e) ((hO i).mpr ⟨n, hi⟩)
    exact ⟨v, start_of (map_get.mp h1), h2.less S.dom fa⟩
  · have e1 := start_get e1
    have e2 := start_get e2
    have l1 : i < np := by rw [← hl]; exact (List.getElem?_eq_some_iff.mp e1).1
    have l2 : j < np := by rw [← hl]; exact (List.getElem?_eq_some_iff.mp e2).1
    exact S.sep i j a ((hO i).mpr ⟨hi, l1⟩) ((hO j).mpr ⟨hj, l2⟩) (map_get.mpr e1) (map_get.mpr e2)
theorem outs_get {i : Nat} (h : (outs O np ρ)[i]? = some (some d)) : i ∈ O ∧ i < np ∧ ρ[i]? = some (some d) := by
  unfold outs at h
  rw [List.getElem?_map] at h
  cases e : (List.range np)[i]? with
  | none => rw [e] at h; cases h
  | some j =>
    rw [e] at h
    have hi := (List.getElem?_eq_some_iff.mp e).1
    have hj : j = i := by
      obtain ⟨h1, h2⟩ := List.getElem?_eq_some_iff.mp e
      simpa using h2.symm
    subst hj
    simp only [Option.map_some, Option.some.injEq] at h
    split at h
    · rename_i c
      refine ⟨by simpa using c, by simpa using hi, ?_⟩
      rw [List.getD_eq_getElem?_getD] at h
      cases q : ρ[j]? with
      | none => rw [q] at h; cases h
      | some o => rw [q] at h; simp at h; rw [h]
    · cases h
/-- THE RULE for a def -/
theorem fnD_ok {P : Program} {w : World} {base : Heap} {x qual : Str} {st : Stmt} {f : Addr} {fd : FuncData} {N ps : List Str} {k : Nat} {m : SM} (F : Fun K x qual st f fd) (S : FnScope N ps (defScope st)) (hp : ps.length = np) (hn : N.length = n) (hO : ∀ i, i ∈ O ↔ i ∈ Oc ∧ i < np) (hW : ∀ i ∈ W, i ∈ Oc) (hU : ∀ i ∈ O, i ∈ U)
    (hb : ∀ (cdv : Value) (A : Around) (outer : List PySem.Env) (s : Shared) (H : Hp) (E : XK) (P0 : Pr), Room k (A.deeper (envOfC qual (defScope st) s.heap.objs.size f cdv)) → CSs (cxOf (L2N.CX P w) P w K mg base N qual (defScope st) f cdv A outer s H E) P0 Oc W U (exE mg E) (defBody st) m) :
    FnOk P w K mg base (L2N.CX P w) (k + 1) f fd ps (spD K mg np O (fnD np n O m)) := by
  refine okN F S (fun vs H Q E h => by rw [h.1, hp]) fun cdv A outer s H vs Q E hr h => ?_
  obtain ⟨hl, ds, P0, S0, hd, h⟩ := h
  refine ⟨_, hb cdv A outer s H E P0 hr, _, sim_start S0 hO hW hl hd hn, ?_⟩
  have oa := fun b => OA_start (N := N) hO hl b
  have kO : ∀ {H'}, Keep Oc (L2.start N vs) H H' → Keep O (vs.map some) H H' := fun {H'} k => ⟨fun b o e nn => k.keep b o e fun z => nn ((oa b).mp z), k.some⟩
  unfold fnD at h
  cases em : m (ds.map some ++ List.replicate (n - np) none) with
  | stk => rw [em] at h; exact h.elim
  | er c xs => rw [em] at h; exact fun H' kp => h H' (kO kp)
  | ok p =>
    obtain ⟨fl, ρ1⟩ := p
    rw [em] at h
    obtain ⟨hh, e1, h⟩ := Res.of_nox (show Res (exE mg E) O (vs.map some) H ((retH np fl ρ1).nox >>= _) _ from h)
    intro σ' H' S' t' l'
    have h : ∀ v H', Keep O (vs.map some) H H' → Sim K P0 O [] (outs O np ρ1) (vs.map some) H' → HdR K P0 O H (vs.map some) H' hh v → Q v H' := h
    have un : ∀ i ∈ O, σ'[i]? = (L2.start N vs)[i]? := fun i hi => t'.unch i (hU i hi)
    have pre : ∀ {i : Nat} {v : V}, i ∈ O → (σ'[i]? = some (some v) ↔ (vs.map some)[i]? = some (some v)) := fun {i v} hi => by
      rw [un i hi]
      exact ⟨fun e => map_get.mpr (start_get e), fun e => start_of (map_get.mp e)⟩
    have oO : ∀ b, OA O (vs.map some) b → OA Oc σ' b := fun b ⟨i, hi, e⟩ => ⟨i, ((hO i).mp hi).1, (pre hi).mpr e⟩
    have fa : ∀ b, FA P0 O (vs.map some) b → FA P0 Oc σ' b := fun b z => z.imp id (oO b)
    have kk : Keep O (vs.map some) H H' := ⟨fun b o e nn => t'.keep b o e fun z => nn ((oa b).mp z), t'.some⟩
    have so : Sim K P0 O [] (outs O np ρ1) (vs.map some) H' := by
      refine ⟨fun _ z => (nomatch z), by unfold outs; simp [hl], fun b z => S'.dom b (fa b z), fun i d e nn => absurd (outs_get e).1 nn, fun i d e hi => ?_, S0.sep, S0.sep0⟩
      obtain ⟨_, _, e2⟩ := outs_get e
      obtain ⟨v, h1, h2⟩ := S'.own i d e2 ((hO i).mp hi).1
      exact ⟨v, (pre hi).mp h1, h2.less S'.dom fa⟩
    cases fl with
    | bk => cases e1
    | ct => cases e1
    | nx => cases e1; exact h .non H' kk so ⟨by unfold Rep; rfl, fun z => by cases z⟩
    | rt hd' =>
      intro v r
      cases hd' with
      | fr d => cases e1; exact h v H' kk so ⟨r.1.less S'.dom fa, r.2⟩
      | vl d => cases e1; exact h v H' kk so (Rep.less S'.dom r fa)
      | ow i =>
        have e1 : (if np ≤ i then (do
          let d ← (look i ρ1).nox
          pure (Hd.fr d)) else .stk) = R.ok hh := e1
        by_cases hi : np ≤ i
        · rw [if_pos hi] at e1
          obtain ⟨d, e2, e1⟩ := R.ok_of e1
          cases e1
          have e2 := look_some (R.nox_of e2)
          obtain ⟨v', h1, h2⟩ := S'.own i d e2 r.1
          have q : σ'[i]? = some (some v) := r.2
          rw [q] at h1
          cases h1
          have no : ∀ a, v = .ref a → ¬ OA O (vs.map some) a := fun a e z => by
            obtain ⟨j, hj, ej⟩ := z
            have := S'.sep i j a r.1 ((hO j).mp hj).1 (by rw [q, e]) ((pre hj).mpr ej)
            have := ((hO j).mp hj).2
            omega
          refine h v H' kk so ⟨h2.rep S'.dom fa fun a e => ⟨fun z => ?_, .inr ⟨i, r.1, by rw [q, e]⟩⟩, fun _ a e => ?_⟩
          · rcases z with z | z
            · exact S'.sep0 a ⟨i, r.1, by rw [q, e]⟩ z
            · exact no a e z
          · rcases t'.own a ⟨i, r.1, by rw [q, e]⟩ with z | z
            · exact absurd ((oa a).mp z) (no a e)
            · exact z
        · rw [if_neg hi] at e1
          cases e1
end
end Y

set_option Elab.async false
set_option linter.all false
set_option maxRecDepth 100000
namespace Y
open PySem PySem.Spec PyProof.Rows L2

/-! ### a call that changes arguments' lists: pr, the places of these arguments with the own slots that they name -/
def placed (pr : List (Nat × Nat)) : Nat → List Hd → Bool
  | _, [] => true
  | j, .ow i :: hs => pr.contains (j, i) && placed pr (j + 1) hs
  | j, _ :: hs => (!pr.any fun p => p.1 == j) && placed pr (j + 1) hs
def putOuts (os : Env) : List (Nat × Nat) → Env → Env
  | [], ρ => ρ
  | (j, i) :: pr, ρ => (putOuts os pr ρ).set i (os.getD j none)
def cCallIO (pr : List (Nat × Nat)) (g : Fn) (m : AM) : EM := fun ρ => do
  let (hs, ρ1) ← m ρ
  if placed pr 0 hs = true then do
    let ds ← (dsOf hs ρ1).nox
    let (h, os) ← g ds
    match h with
    | .ow _ => .stk
    | h => pure (h, putOuts os pr ρ1)
  else .stk
section
variable {K : PySem.W.Frag} {P0 : Pr} {O Oc W : List Nat} {ρ : Env} {σ : St} {Hs H H' : Hp} {pr : List (Nat × Nat)} {os : Env}
theorem putOuts_len : ∀ pr : List (Nat × Nat), (putOuts os pr ρ).length = ρ.length
  | [] => rfl
  | (j, i) :: pr => by unfold putOuts; rw [List.length_set, putOuts_len pr]
theorem putOuts_ne {x : Nat} : ∀ {pr : List (Nat × Nat)}, x ∉ pr.map (·.2) → (putOuts os pr ρ)[x]? = ρ[x]?
  | [], _ => rfl
  | (j, i) :: pr, h => by
    simp only [List.map_cons, List.mem_cons, not_or] at h
    unfold putOuts
    rw [List.getElem?_set_ne fun z => h.1 z.symm, putOuts_ne h.2]
theorem putOuts_at {j i : Nat} {d : D} : ∀ {pr : List (Nat × Nat)}, (pr.map (·.2)).Nodup → (j, i) ∈ pr → (putOuts os pr ρ)[i]? = some (some d) → os[j]? = some (some d)
  | [], _, h, _ => nomatch h
  | (j', i') :: pr, nd, h, e => by
    simp only [List.map_cons, List.nodup_cons] at nd
    unfold putOuts at e
    rcases List.mem_cons.mp h with z | z
    · cases z
      have hl : i < (putOuts os pr ρ).length := by
        have := (List.getElem?_eq_some_iff.mp e).1
        simpa using this
      rw [List.getElem?_set_self hl, List.getD_eq_getElem?_getD] at e
      cases q : os[j]? with
      | none => rw [q] at e; cases e
      | some o => rw [q] at e; simp at e; rw [e]
    · have hi : i' ≠ i := fun y => nd.1 (by rw [y]; exact List.mem_map.mpr ⟨_, z, rfl⟩)
      rw [List.getElem?_set_ne hi] at e
      exact putOuts_at nd.2 z e
theorem HdRs.at : ∀ {hs : List Hd} {vs : List V} {j : Nat} {v : V}, HdRs K P0 O Hs σ H hs vs → vs[j]? = some v → ∃ h, hs[j]? = some h ∧ HdR K P0 O Hs σ H h v
  | [], _, _, _, r, e => by have r : _ = [] := r; rw [r] at e; simp at e
  | h :: hs, _, 0, v, ⟨w, ws, e0, r1, _⟩, e => by subst e0; simp at e; subst e; exact ⟨h, rfl, r1⟩
  | h :: hs, _, j + 1, v, ⟨w, ws, e0, _, r2⟩, e => by subst e0; simpa using HdRs.at r2 (by simpa using e)
theorem HdRs.len : ∀ {hs : List Hd} {vs : List V}, HdRs K P0 O Hs σ H hs vs → vs.length = hs.length
  | [], _, r => by have r : _ = [] := r; rw [r]; rfl
  | h :: hs, _, ⟨w, ws, e0, _, r2⟩ => by subst e0; rw [List.length_cons, List.length_cons, HdRs.len r2]
theorem dsOf_at : ∀ {hs : List Hd} {ds : List D}, dsOf hs ρ = .ok ds → ds.length = hs.length ∧ ∀ (j : Nat) h d, hs[j]? = some h → ds[j]? = some d → h.d ρ = .ok d
  | [], _, e => by cases e; exact ⟨rfl, fun j h d e => by simp at e⟩
  | h :: hs, _, e => by
    obtain ⟨d, e1, e⟩ := R.ok_of e
    obtain ⟨ds, e2, e⟩ := R.ok_of e
    cases e
    obtain ⟨l, g⟩ := dsOf_at e2
    refine ⟨by rw [List.length_cons, List.length_cons, l], fun j h' d' a b => ?_⟩
    cases j with
    | zero => simp at a b; subst a b; exact R.nox_of e1
    | succ j => exact g j h' d' (by simpa using a) (by simpa using b)
theorem placed_at : ∀ {hs : List Hd} {k : Nat}, placed pr k hs = true → ∀ (j : Nat) h, hs[j]? = some h → (∃ i, h = .ow i ∧ (k + j, i) ∈ pr) ∨ ((∀ i, h ≠ .ow i) ∧ (k + j) ∉ pr.map (·.1))
  | [], _, _, j, h, e => by simp at e
  | h0 :: hs, k, p, j, h, e => by
    cases j with
    | zero =>
      simp at e; subst e
      cases h0 with
      | ow i =>
        unfold placed at p
        rw [Bool.and_eq_true] at p
        exact .inl ⟨i, rfl, by simpa using p.1⟩
      | fr d =>
        unfold placed at p
        rw [Bool.and_eq_true] at p
        refine .inr ⟨fun i z => (by cases z), fun z => ?_⟩
        obtain ⟨q, hq, e⟩ := List.mem_map.mp z
        have := p.1
        simp only [Bool.not_eq_true', List.any_eq_false] at this
        exact this q hq (by simpa using e)
      | vl d =>
        unfold placed at p
        rw [Bool.and_eq_true] at p
        refine .inr ⟨fun i z => (by cases z), fun z => ?_⟩
        obtain ⟨q, hq, e⟩ := List.mem_map.mp z
        have := p.1
        simp only [Bool.not_eq_true', List.any_eq_false] at this
        exact this q hq (by simpa using e)
    | succ j =>
      have p2 : placed pr (k + 1) hs = true := by
        cases h0 <;> (unfold placed at p; rw [Bool.and_eq_true] at p; exact p.2)
      have := placed_at p2 j h (by simpa using e)
      rwa [show k + 1 + j = k + (j + 1) by omega] at this
end
theorem nodup_inj {pr : List (Nat × Nat)} (hn : (pr.map (·.2)).Nodup) {j j' i : Nat} (a : (j, i) ∈ pr) (b : (j', i) ∈ pr) : j = j' := by
  induction pr with
  | nil => cases a
  | cons p pr ih =>
    simp only [List.map_cons, List.nodup_cons] at hn
    rcases List.mem_cons.mp a with a | a <;> rcases List.mem_cons.mp b with b | b
    · rw [← a] at b; cases b; rfl
    · exact absurd (List.mem_map.mpr ⟨_, b, by rw [← a]⟩) hn.1
    · exact absurd (List.mem_map.mpr ⟨_, a, by rw [← b]⟩) hn.1
    · exact ih hn.2 a b
theorem nodup_inj1 {pr : List (Nat × Nat)} (hn : (pr.map (·.1)).Nodup) {j i i' : Nat} (a : (j, i) ∈ pr) (b : (j, i') ∈ pr) : i = i' := by
  induction pr with
  | nil => cases a
  | cons p pr ih =>
    simp only [List.map_cons, List.nodup_cons] at hn
    rcases List.mem_cons.mp a with a | a <;> rcases List.mem_cons.mp b with b | b
    · rw [← a] at b; cases b; rfl
    · exact absurd (List.mem_map.mpr ⟨_, b, by rw [← a]⟩) hn.1
    · exact absurd (List.mem_map.mpr ⟨_, a, by rw [← b]⟩) hn.1
    · exact ih hn.2 a b
section
variable {X : Cx} {P0 : Pr} {O Oc W U : List Nat} {E : EK} {XE : XK} {a b c e : Expr} {es : List Expr} {ma mb mc : EM} {ms : AM} {pos : Pos} {k np : Nat} {name : Str} {pr : List (Nat × Nat)}
theorem tM_callIO {g : Fn} (hE : ∀ c ds H, E c ds H → exE X.mg XE c ds H) (hO : O = pr.map (·.1)) (hn : (pr.map (·.2)).Nodup) (hn1 : (pr.map (·.1)).Nodup) (hw : ∀ p ∈ pr, p.2 ∈ W) (hl : ALen ms np) (σ : St) (H : Hp) (Q : VK) (h : tM X.K P0 Oc W E (cCallIO pr g ms) σ H Q) :
    tCall (spD X.K X.mg np O g) [] XE (tMs X.K P0 Oc W E ms) σ H Q := by
  obtain ⟨ρ, S, h⟩ := h
  refine ⟨ρ, S, ?_⟩
  cases em : ms ρ with
  | stk => unfold cCallIO at h; rw [em] at h; exact h.elim
  | er c ds => unfold cCallIO at h; rw [em] at h; exact h
  | ok p =>
    obtain ⟨hs, ρ1⟩ := p
    unfold cCallIO at h
    rw [em] at h
    intro vs H1 S1 k1 r1
    have q : Res E W σ H (if placed pr 0 hs = true then (do
      let ds ← (dsOf hs ρ1).nox
      let (h, os) ← g ds
      match h with
      | .ow _ => .stk
      | h => pure (h, putOuts os pr ρ1)) else .stk) _ := h
    have hp : placed pr 0 hs = true := by
      cases hp : placed pr 0 hs with
      | true => rfl
      | false => rw [hp] at q; exact q.elim
    rw [if_pos hp] at q
    obtain ⟨ds, e1, q⟩ := q.of_nox
    have pl := placed_at hp
    simp only [Nat.zero_add] at pl
    obtain ⟨dl, dg⟩ := dsOf_at e1
    have lv : vs.length = np := by rw [HdRs.len r1]; exact hl ρ hs ρ1 em
    have ld : ds.length = np := by rw [dl]; exact hl ρ hs ρ1 em
    rw [List.append_nil]
    -- the callee's own objects are own here
    have own : ∀ {j : Nat} {v : V}, j ∈ O → (vs.map some)[j]? = some (some v) → ∃ i, (j, i) ∈ pr ∧ i ∈ Oc ∧ i ∈ W ∧ σ[i]? = some (some v) ∧ hs[j]? = some (.ow i) := fun {j v} hj e => by
      obtain ⟨h, e2, r⟩ := HdRs.at r1 (map_get.mp e)
      rcases pl j h e2 with ⟨i, rfl, hi⟩ | ⟨_, hn'⟩
      · exact ⟨i, hi, r.1, hw _ hi, r.2, e2⟩
      · rw [hO] at hj; exact absurd hj hn'
    have oa : ∀ b, OA O (vs.map some) b → OA W σ b := fun b ⟨j, hj, e⟩ => let ⟨i, _, _, h2, h3, _⟩ := own hj e; ⟨i, h2, h3⟩
    have oaO : ∀ b, OA O (vs.map some) b → OA Oc σ b := fun b z => S1.oaw (oa b z)
    generalize hP1 : (fun b => FA P0 Oc σ b ∧ ¬ OA O (vs.map some) b : Pr) = P1
    have fa1 : ∀ b, FA P1 O (vs.map some) b → FA P0 Oc σ b := fun b z => by
      subst hP1
      rcases z with z | z
      · exact z.1
      · exact .inr (oaO b z)
    have fa2 : ∀ b, FA P0 Oc σ b → FA P1 O (vs.map some) b := fun b z => by
      subst hP1
      by_cases y : OA O (vs.map some) b
      · exact .inr y
      · exact .inl ⟨z, y⟩
    have S2 : Sim X.K P1 O [] (ds.map some) (vs.map some) H1 := by
      refine ⟨fun _ z => (nomatch z), by simp [lv, ld], fun b z => S1.dom b (fa1 b z), fun j d e nj => ?_, fun j d e hj => ?_, fun x y a hx hy e1 e2 => ?_, fun a z y => by subst hP1; exact y.2 z⟩
      · have e := map_get.mp e
        have hj : j < vs.length := by rw [lv, ← ld]; exact (List.getElem?_eq_some_iff.mp e).1
        have ev : vs[j]? = some vs[j] := List.getElem?_eq_getElem hj
        obtain ⟨h, e2, r⟩ := HdRs.at r1 ev
        refine ⟨vs[j], map_get.mpr ev, ?_⟩
        have hd := dg j h d e2 e
        rcases pl j h e2 with ⟨i, rfl, hi⟩ | ⟨hne, _⟩
        · exact absurd (by rw [hO]; exact List.mem_map.mpr ⟨_, hi, rfl⟩) nj
        · cases h with
          | fr d' => cases hd; exact r.1.less S1.dom fa1
          | vl d' => cases hd; exact Rep.less S1.dom r fa1
          | ow i => exact absurd rfl (hne i)
      · have e := map_get.mp e
        have hj' : j < vs.length := by rw [lv, ← ld]; exact (List.getElem?_eq_some_iff.mp e).1
        have ev : (vs.map some)[j]? = some (some vs[j]) := map_get.mpr (List.getElem?_eq_getElem hj')
        obtain ⟨i, h1, h2, h3, h4, h5⟩ := own hj ev
        have hd := look_some (dg j _ d h5 e)
        obtain ⟨w, h6, h7⟩ := S1.own i d hd h2
        rw [h4] at h6; cases h6
        exact ⟨_, ev, h7.less S1.dom fa1⟩
      · obtain ⟨i1, a1, b1, c1, d1, f1⟩ := own hx e1
        obtain ⟨i2, a2, b2, c2, d2, f2⟩ := own hy e2
        have ei := S1.sep i1 i2 a b1 b2 d1 d2
        subst ei
        have := nodup_inj hn a1 a2
        exact this
    refine ⟨lv, ds, P1, S2, ld, ?_⟩
    have q := q.keep k1
    cases eg : g ds with
    | stk => rw [eg] at q; exact q.elim
    | er c xs =>
      rw [eg] at q
      exact fun H' kp => hE c xs H' (q H' ⟨fun b o e n => kp.keep b o e fun z => n (oa b z), kp.some⟩)
    | ok p =>
      obtain ⟨hd, os⟩ := p
      rw [eg] at q
      intro v H2 k2 S3 r2
      have S3 : Sim X.K P1 O [] os (vs.map some) H2 := S3
      have k3 : Keep W σ H1 H2 := ⟨fun b o e n => k2.keep b o e fun z => n (oa b z), k2.some⟩
      have slot : ∀ {j i : Nat}, (j, i) ∈ pr → i ∈ Oc := fun {j i} z => S1.sub i (hw _ z)
      have S4 : Sim X.K P0 Oc W (putOuts os pr ρ1) σ H2 := by
        refine ⟨S1.sub, by rw [putOuts_len]; exact S1.len, fun b z => S3.dom b (fa2 b z), fun i d e n => ?_, fun i d e n => ?_, S1.sep, S1.sep0⟩
        · have ni : i ∉ pr.map (·.2) := fun z => by
            obtain ⟨⟨j, i'⟩, hq, z⟩ := List.mem_map.mp z
            cases z
            exact n (slot hq)
          rw [putOuts_ne ni] at e
          obtain ⟨v, h1, h2⟩ := S1.val i d e n
          exact ⟨v, h1, h2.of_same S1.dom fun b o e n => k2.keep b o e fun z => n (.inr (oaO b z))⟩
        · by_cases ni : i ∈ pr.map (·.2)
          · obtain ⟨⟨j, i'⟩, hq, z⟩ := List.mem_map.mp ni
            cases z
            have eo := putOuts_at hn hq e
            have hj : j ∈ O := by rw [hO]; exact List.mem_map.mpr ⟨_, hq, rfl⟩
            obtain ⟨w, h1, h2⟩ := S3.own j d eo hj
            obtain ⟨i2, a2, b2, c2, d2, f2⟩ := own hj h1
            have : i2 = i' := by
              have := nodup_inj1 hn1 a2 hq
              exact this
            subst this
            exact ⟨w, d2, h2.less S3.dom fa2⟩
          · rw [putOuts_ne ni] at e
            obtain ⟨w, h1, h2⟩ := S1.own i d e n
            refine ⟨w, h1, h2.mono S1.dom (fun b o e n => k2.keep b o e fun z => n (.inr (oaO b z))) (fun _ z => .inl z) fun a o e1 e2 => k2.keep a o e2 fun ⟨j, hj, ej⟩ => ?_⟩
            subst e1
            obtain ⟨i2, a2, b2, c2, d2, f2⟩ := own hj ej
            have := S1.sep i i2 a n b2 h1 d2
            subst this
            exact ni (List.mem_map.mpr ⟨_, a2, rfl⟩)
      cases hd with
      | ow j => exact q.elim
      | fr d => exact q v H2 S4 (k1.trans k3) ⟨r2.1.less S3.dom fa2, fun m a e => Classical.byContradiction fun z => k1.some a z (r2.2 m a e)⟩
      | vl d => exact q v H2 S4 (k1.trans k3) (Rep.less S3.dom r2 fa2)
theorem ce_callIO {g : Fn} {p : Pos} (G : Glo X.prog X.w X.K X.mg X.base name k np O g) (pr : List (Nat × Nat)) (o : Out2 X E XE) (hr : Room k X.A) (ha : CA X P0 Oc W E (e :: es) ms) (hl : ALen ms np) (hO : O = pr.map (·.1) := by rfl) (hn : (pr.map (·.2)).Nodup := by decide) (hn1 : (pr.map (·.1)).Nodup := by decide) (hw : ∀ p ∈ pr, p.2 ∈ W := by decide) (hg : Gl X name := by rfl) (hdb : (name == ("__debug__" : Str)) = false := by decide)
    (he : starEach (e :: es) X.env = (false, eval e X.env) :: starEach es X.env := by rfl) (hpl : (backTo pos (starEach es X.env)).any (·.1) = false := by rfl) : CEx X P0 Oc W E (.Call (.Name name p) (e :: es) [] pos) (cCallIO pr g ms) := by
  obtain ⟨f, fd, ps, hm, hk, hb, _, F⟩ := G.ex
  exact PE.imp (pe_call F hr hg hm hk hb .nil o.pass ha hdb he hpl) fun σ H Q h => tM_callIO o.ex hO hn hn1 hw hl σ H Q h
end
end Y

set_option Elab.async false
set_option linter.all false
set_option maxRecDepth 100000
namespace Y
open PySem PySem.Spec PyProof.Rows L2

/-! ### a def that changes no argument's list -/
def fnP (np n : Nat) (m : SM) : List D → R Hd := fun ds => do
  let (f, ρ) ← m (ds.map some ++ List.replicate (n - np) none)
  (retH np f ρ).nox
section
variable {P : Program} {w : World} {K : PySem.W.Frag} {mg : Str → Option Value} {base : Heap} {name : Str} {k np n : Nat} {O : List Nat}
theorem Glo.imp {g g' : Fn} (G : Glo P w K mg base name k np O g) (h : ∀ vs H Q E, spD K mg np O g' vs H Q E → spD K mg np O g vs H Q E) : Glo P w K mg base name k np O g' :=
  let ⟨f, fd, ps, h1, h2, h3, h4, F⟩ := G.ex
  ⟨f, fd, ps, h1, h2, h3, h4, F.imp h⟩
theorem Glo.mono {g : Fn} {k' : Nat} (G : Glo P w K mg base name k np O g) (h : k ≤ k' := by decide) : Glo P w K mg base name k' np O g :=
  let ⟨f, fd, ps, h1, h2, h3, h4, F⟩ := G.ex
  ⟨f, fd, ps, h1, h2, h3, h4, F.mono h⟩
theorem spD_pure {m : SM} {vs : List V} {H : Hp} {Q : VK} {E : XK} : spD K mg np [] (pureF (fnP np n m)) vs H Q E → spD K mg np [] (fnD np n [] m) vs H Q E := fun ⟨hl, ds, P0, S, hd, h⟩ => ⟨hl, ds, P0, S, hd, by
  unfold pureF fnP at h
  unfold fnD
  cases em : m (ds.map some ++ List.replicate (n - np) none) with
  | stk => rw [em] at h; exact h
  | er c xs => rw [em] at h; exact h
  | ok p =>
    obtain ⟨fl, ρ⟩ := p
    rw [em] at h
    cases er : (retH np fl ρ).nox with
    | stk => exact (show Res (exE mg E) [] (vs.map some) H ((retH np fl ρ).nox >>= fun h => Y.R.ok (h, outs [] np ρ)) _ by
        rw [er]
        have h : Res (exE mg E) [] (vs.map some) H ((retH np fl ρ).nox >>= fun h => Y.R.ok (h, [])) _ := h
        rw [er] at h
        exact h)
    | er c xs => cases e2 : retH np fl ρ <;> rw [e2] at er <;> cases er
    | ok hd' =>
      refine (show Res (exE mg E) [] (vs.map some) H ((retH np fl ρ).nox >>= fun h => Y.R.ok (h, outs [] np ρ)) _ from ?_)
      have h : Res (exE mg E) [] (vs.map some) H ((retH np fl ρ).nox >>= fun h => Y.R.ok (h, [])) _ := h
      rw [er] at h ⊢
      exact fun v H' kp S' r => h v H' kp (S'.move (Nat.zero_le _) (fun _ _ => rfl) (fun _ z => nomatch z) fun i d e => by simp at e) r⟩
theorem Glo.pure {m : SM} (G : Glo P w K mg base name k np [] (fnD np n [] m)) : Glo P w K mg base name k np [] (pureF (fnP np n m)) := G.imp fun vs H Q E h => spD_pure h
/-- a def of the text -/
structure Def (K : PySem.W.Frag) (mg : Str → Option Value) (x : Str) (st : Stmt) : Prop where
  ex : ∃ f fd, mg x = some (.ref f) ∧ Fun K x x st f fd
theorem glo_mk {x : Str} {st : Stmt} {N ps : List Str} {Oc W U : List Nat} {m : SM} (F : Def K mg x st) (S : FnScope N ps (defScope st))
    (hb : ∀ (f : Addr) (cdv : Value) (A : Around) (outer : List PySem.Env) (s : Shared) (H : Hp) (E : XK) (P0 : Pr), Room k (A.deeper (envOfC x (defScope st) s.heap.objs.size f cdv)) → CSs (cxOf (L2N.CX P w) P w K mg base N x (defScope st) f cdv A outer s H E) P0 Oc W U (exE mg E) (defBody st) m)
    (bi : ∀ (kV doc pm : Value) (an : Option Addr) (cdv ct : Value) (us : List Value), us.length = ps.length → bindArgs (PySem.W.fnOf x x (defArgs st) (defBody st) (defScope st) .none kV doc pm an cdv ct) ⟨us, []⟩ = Pure.pure (ps.zip us))
    (hp : ps.length = np := by rfl) (hn : N.length = n := by rfl) (hO : O = Oc.filter (fun i => decide (i < np)) := by rfl) (hW : ∀ i ∈ W, i ∈ Oc := by decide) (hU : ∀ i ∈ O, i ∈ U := by decide) : Glo P w K mg base x (k + 1) np O (fnD np n O m) := by
  obtain ⟨f, fd, hm, F⟩ := F.ex
  exact ⟨f, fd, ps, hm, F.kp, F.binds bi, hp, fnD_ok F S hp hn (fun i => by rw [hO, List.mem_filter, decide_eq_true_eq]) hW hU fun cdv A outer s H E P0 hr => hb f cdv A outer s H E P0 hr⟩
theorem law_fn {st : Stmt} {f : Addr} {fd : FuncData} {N : List Str} {Oc W : List Nat} {m : SM} (F : Fun K "law" "law" st f fd) (S : FnScope N ["script"] (defScope st))
    (hb : ∀ (f : Addr) (cdv : Value) (A : Around) (outer : List PySem.Env) (s : Shared) (H : Hp) (E : XK) (P0 : Pr), Room k (A.deeper (envOfC "law" (defScope st) s.heap.objs.size f cdv)) → CSs (cxOf (L2N.CX P w) P w K mg base N "law" (defScope st) f cdv A outer s H E) P0 Oc W [] (exE mg E) (defBody st) m)
    (hn : N.length = n := by rfl) (hO : [] = Oc.filter (fun i => decide (i < 1)) := by rfl) (hW : ∀ i ∈ W, i ∈ Oc := by decide) : FnOk P w K mg base (L2N.CX P w) (k + 1) f fd ["script"] (spD K mg 1 [] (pureF (fnP 1 n m))) :=
  (fnD_ok (O := []) F S rfl hn (fun i => by rw [hO, List.mem_filter, decide_eq_true_eq]; exact Iff.rfl) hW (fun _ h => by simp at h) fun cdv A outer s H E P0 hr => hb f cdv A outer s H E P0 hr).imp fun vs H Q E h => spD_pure h
theorem out2_body {N : List Str} {x : Str} {sc : Scope} {f : Addr} {cdv : Value} {A : Around} {outer : List PySem.Env} {s : Shared} {H : Hp} {E : XK} : Out2 (cxOf (L2N.CX P w) P w K mg base N x sc f cdv A outer s H E) (exE mg E) E :=
  ⟨L2N.passes_call (L2N.takes_of rfl rfl rfl rfl) (fun _ _ _ _ h => h), fun c ds H h => h⟩
/-! ### the law -/
theorem law_sp {g : Fn} {a : Addr} {ns : List Int} {H : Hp} {os : Y.Env} {h : Hd} (hS : SqL K H a (ns.map V.int)) (e : g [.arg ns] = .ok (h, os)) (hh : h = .fr (.bl true) ∨ h = .vl (.bl true)) : spD K mg 1 [] g [.ref a] H (fun v _ => v = .bl true) fun _ _ _ => False := by
  refine ⟨rfl, [.arg ns], fun _ => False, sim_args (fun b z => z.elim) (Reps.cons ?_ Reps.nil), rfl, ?_⟩
  · unfold Rep
    refine ⟨a, rfl, ?_⟩
    rcases hS with hS | hS
    · exact .inl ⟨fun z => z, hS⟩
    · exact .inr (.inr hS)
  · rw [e]
    intro v H' _ _ r
    rcases hh with rfl | rfl
    · have r := r.1; unfold Rep at r; exact r
    · have r : Rep K H' (.bl true) (FA (fun _ => False) [] ([V.ref a].map some)) v := r; unfold Rep at r; exact r
theorem cx_none {H : Hp} {s : Shared} {e : Value} {s' : Shared} (h : L2N.CX P w [] H s (fun _ _ _ => False) e s') : False := by
  obtain ⟨_, _, _, _, _, _, _, _, _, _, _, _, z⟩ := h
  exact z.elim
end
end Y

set_option Elab.async false
set_option linter.all false
set_option maxRecDepth 100000
namespace Y
open PySem PySem.Spec PyProof.Rows L2
/-! ### isinstance -/
def tyN : D → String
  | .non => "NoneType" | .bl _ => "bool" | .int _ => "int" | .str _ => "str" | .tup _ => "tuple" | .lst _ => "list" | .arg _ => "list" | .dik _ _ => "dict" | .dit _ _ => "dict"
def isInt : D → Bool
  | .int _ => true | .bl _ => true | _ => false
def isBl : D → Bool
  | .bl _ => true | _ => false
def isStr : D → Bool
  | .str _ => true | _ => false
def isTup : D → Bool
  | .tup _ => true | _ => false
def isLst : D → Bool
  | .lst _ => true | .arg _ => true | _ => false
def isDic : D → Bool
  | .dik _ _ => true | .dit _ _ => true | _ => false
abbrev IsK (T : String) (f : D → Bool) : Prop := ∀ d, kitB (tyN d) T = some (f d)
theorem isk_int : IsK "int" isInt := fun d => by cases d <;> simp only [tyN, isInt] <;> decide +kernel
theorem isk_bool : IsK "bool" isBl := fun d => by cases d <;> simp only [tyN, isBl] <;> decide +kernel
theorem isk_str : IsK "str" isStr := fun d => by cases d <;> simp only [tyN, isStr] <;> decide +kernel
theorem isk_tuple : IsK "tuple" isTup := fun d => by cases d <;> simp only [tyN, isTup] <;> decide +kernel
theorem isk_list : IsK "list" isLst := fun d => by cases d <;> simp only [tyN, isLst] <;> decide +kernel
theorem isk_dict : IsK "dict" isDic := fun d => by cases d <;> simp only [tyN, isDic] <;> decide +kernel
def noDit : D → Bool
  | .dit _ _ => false | _ => true
theorem tyX_of {K : PySem.W.Frag} {H : Hp} {P : Pr} {d : D} {v : V} (hd : noDit d = true) (h : RepW K H d P v) : TyX K H v (.type (tyN d)) := by
  cases d with
  | non => have h : Rep K H .non P v := h; unfold Rep at h; subst h; exact .base .non
  | bl b => have h : Rep K H (.bl b) P v := h; unfold Rep at h; subst h; exact .base (.bl b)
  | int i => have h : Rep K H (.int i) P v := h; unfold Rep at h; subst h; exact .base (.int i)
  | str x => have h : Rep K H (.str x) P v := h; unfold Rep at h; subst h; exact .base (.str x)
  | tup ds =>
    have h : Rep K H (.tup ds) P v := h
    unfold Rep at h
    obtain ⟨a, vs, rfl, h1, _⟩ := h
    exact .base (.tup h1)
  | lst ds =>
    obtain ⟨a, vs, rfl, h1, _⟩ := h
    exact .base (.lst h1)
  | arg ns =>
    obtain ⟨a, rfl, h1⟩ := h
    rcases h1 with (h1 | ⟨o, h1⟩) | ⟨ob, its, n, h1, h2, _⟩
    · exact .base (.lst h1)
    · exact .base (.frz h1)
    · exact .kList h1 h2
  | dik ks ds =>
    obtain ⟨a, vs, rfl, _, h1, _⟩ := h
    rcases h1 with h1 | ⟨o, h1⟩
    · exact .base (.dK h1)
    · exact .fDict h1
  | dit ks ds => cases hd
def cIsi (f : D → Bool) (m : EM) : EM := fun ρ => do
  let (h, ρ1) ← m ρ
  let d ← (h.d ρ1).nox
  if noDit d = true then pure (.fr (.bl (f d)), ρ1) else .stk
section
variable {X : Cx} {P0 : Pr} {O W : List Nat} {E : EK} {a : Expr} {ma : EM} {pos : Pos}
theorem ce_isi {T : String} {x : Str} {f : D → Bool} {p q : Pos} (hk : IsK T f) (hm : X.mg "isinstance" = none) (hm2 : X.mg x = none) (h : CEx X P0 O W E a ma) (hv : bootBuiltins "isinstance" = some (.builtin "isinstance")) (hv2 : bootBuiltins x = some (.type T))
    (hg : Gl X "isinstance" := by rfl) (hg2 : Gl X x := by rfl) (hn : x ≠ "__name__" := by decide) (hdb : (x == ("__debug__" : Str)) = false := by decide)
    (he : starEach [a, .Name x q] X.env = (false, eval a X.env) :: starEach [.Name x q] X.env := by rfl) (hpl : (backTo pos (starEach [.Name x q] X.env)).any (·.1) = false := by rfl) (he2 : starEach [.Name x q] X.env = (false, eval (.Name x q) X.env) :: starEach [] X.env := by rfl) : CEx X P0 O W E (.Call (.Name "isinstance" p) [a, .Name x q] [] pos) (cIsi f ma) :=
  PE.imp (pe_callB call_isi hg hm hv (pa_cons h (pa_cons (pe_bltn hg2 hm2 hv2 (v := .ty T) rfl hn hdb) pa_nil he2) he) (by decide) (by decide) he hpl) fun σ H Q ⟨ρ, S, h⟩ => by
    refine ⟨ρ, S, h.of_bind.mono fun ⟨hd, ρ1⟩ q v H1 S1 k1 r1 => ?_⟩
    obtain ⟨d, e1, q⟩ := q.of_nox
    by_cases c : noDit d = true
    · rw [if_pos c] at q
      exact ⟨v, .ty T, _, _, f d, rfl, .ty T, tyX_of c (HdR.d S1 r1 e1), kit_ty (hk d), (out_of (K := X.K) S1 k1 q).bl⟩
    · rw [if_neg c] at q
      exact q.elim
end
end Y

set_option Elab.async false
set_option linter.all false
set_option maxRecDepth 100000
namespace Y
open PySem PySem.Spec PyProof.Rows L2
/-! ### an expression as a statement -/
def sExpr (m : EM) : SM := fun ρ => do
  let (_, ρ1) ← m ρ
  pure (.nx, ρ1)
section
variable {K : PySem.W.Frag} {X : Cx} {P0 : Pr} {O W U : List Nat} {E : EK} {e : Expr} {ma : EM} {pos : Pos}
theorem cs_expr (h : CEx X P0 O W E e ma) (hs : swapsWith e none pos.line X.env = pure false := by rfl) : CS X P0 O W U E (.Expr e pos) (sExpr ma) := PS.imp (ps_expr h hs) fun D σ H ⟨ρ, S, h⟩ =>
  ⟨ρ, S, (h.of_bind.down S.sub).mono fun ⟨hd, ρ1⟩ q v H1 S1 k1 r1 => q σ H1 S1 (Tr.of S.sub k1) rfl⟩
/-- what the top binds -/
theorem def_mk {h : Heap} {mg : Str → Option Value} {x : Str} {st : Stmt} {f : Addr} {od an : Option Addr} {sl : Array (Option Value)} {oc kV dc pm cd ct : Value} (Z : K.In h) (G : h.Ns mainGlobals mg)
    (a : PySem.W.nsIn K mainGlobals x = some (some (.ref f))) (l : K.lookup f = some ⟨oc, od, .func (PySem.W.fnOf x x (defArgs st) (defBody st) (defScope st) .none kV dc pm an cd ct), sl⟩) (c : PySem.W.codeIn K cd x = true) (k : PySem.W.keepIn K (.ref f) = true) : Def K mg x st :=
  ⟨⟨f, _, PySem.W.mg_of Z G a, fun_mk l c k⟩⟩
end
/-! ### built-ins' names -/
theorem bo_len : bootBuiltins "len" = some (.builtin "len") := by decide +kernel
theorem bo_max : bootBuiltins "max" = some (.builtin "max") := by decide +kernel
theorem bo_min : bootBuiltins "min" = some (.builtin "min") := by decide +kernel
theorem bo_divmod : bootBuiltins "divmod" = some (.builtin "divmod") := by decide +kernel
theorem bo_sum : bootBuiltins "sum" = some (.builtin "sum") := by decide +kernel
theorem bo_all : bootBuiltins "all" = some (.builtin "all") := by decide +kernel
theorem bo_any : bootBuiltins "any" = some (.builtin "any") := by decide +kernel
theorem bo_isinstance : bootBuiltins "isinstance" = some (.builtin "isinstance") := by decide +kernel
theorem bo_sorted : bootBuiltins "sorted" = some (.builtin "sorted") := by decide +kernel
theorem bo_tuple : bootBuiltins "tuple" = some (.type "tuple") := by decide +kernel
theorem bo_list : bootBuiltins "list" = some (.type "list") := by decide +kernel
theorem bo_bool : bootBuiltins "bool" = some (.type "bool") := by decide +kernel
theorem bo_str : bootBuiltins "str" = some (.type "str") := by decide +kernel
theorem bo_int : bootBuiltins "int" = some (.type "int") := by decide +kernel
theorem bo_dict : bootBuiltins "dict" = some (.type "dict") := by decide +kernel
theorem bo_set : bootBuiltins "set" = some (.type "set") := by decide +kernel
theorem _root_.L2.Room.units65 {k : Nat} {A : Around} (r : Room k A) : A.units + 65 < cLine := by have := r.un; omega
end Y

set_option Elab.async false
set_option linter.all false
set_option maxRecDepth 100000
namespace Y
open PySem PySem.Spec PyProof.Rows L2
/-! ### the law's own promise -/
abbrev Good (g : List D → R Hd) (n : Nat) : Prop := ∀ ns : List Int, ns.length ≤ n → (∀ z ∈ ns, Builtin.Int.intBits z ≤ 1048576) → ∃ b, g [.arg ns] = .ok b ∧ (b = .fr (.bl true) ∨ b = .vl (.bl true))
def spL (K : PySem.W.Frag) (n : Nat) : Sp := fun vs H Q E => ∃ (a : Addr) (ns : List Int), vs = [.ref a] ∧ SqL K H a (ns.map V.int) ∧ ns.length ≤ n ∧ (∀ z ∈ ns, Builtin.Int.intBits z ≤ 1048576) ∧ ∀ H', Q (.bl true) H'
theorem spL_to {K : PySem.W.Frag} {mg : Str → Option Value} {g : List D → R Hd} {n : Nat} (hg : Good g n) {vs : List V} {H : Hp} {Q : VK} {E : XK} : spL K n vs H Q E → spD K mg 1 [] (pureF g) vs H Q E := fun ⟨a, ns, e, hS, h1, h2, q⟩ => by
  subst e
  obtain ⟨b, e, hb⟩ := hg ns h1 h2
  refine ⟨rfl, [.arg ns], fun _ => False, sim_args (fun b z => z.elim) (Reps.cons ?_ Reps.nil), rfl, ?_⟩
  · unfold Rep
    refine ⟨a, rfl, ?_⟩
    rcases hS with hS | hS
    · exact .inl ⟨fun z => z, hS⟩
    · exact .inr (.inr hS)
  · unfold pureF
    rw [e]
    intro v H' _ _ r
    have : v = .bl true := by
      rcases hb with rfl | rfl
      · have r := r.1; unfold Rep at r; exact r
      · have r : Rep K H' (.bl true) (FA (fun _ => False) [] ([V.ref a].map some)) v := r; unfold Rep at r; exact r
    rw [this]
    exact q H'
/-- the law as the head wants it -/
theorem law_all {P : Program} {w : World} {K : PySem.W.Frag} {mg : Str → Option Value} {h : Heap} {fa f2 : Addr} {st : Stmt} {k n : Nat} {g : List D → R Hd} (Z : K.In h) (G : h.Ns mainGlobals mg) (hfa : mg "law" = some (.ref fa)) (hg : Good g n)
    {od an : Option Addr} {sl : Array (Option Value)} {oc kV dc pm cd ct : Value}
    (ok : ∀ (base : Heap) {f : Addr} {fd : FuncData}, Fun K "law" "law" st f fd → FnOk P w K mg base (L2N.CX P w) k f fd ["script"] (spD K mg 1 [] (pureF g)))
    (hb : ∀ (kV dc pm : Value) (an : Option Addr) (cd ct : Value) (s : Shared) (u : Value), BindsTo s (PySem.W.fnOf "law" "law" (defArgs st) (defBody st) (defScope st) .none kV dc pm an cd ct) ⟨[u], []⟩ [("script", u)])
    (a : PySem.W.nsIn K mainGlobals "law" = some (some (.ref f2))) (l : K.lookup f2 = some ⟨oc, od, .func (PySem.W.fnOf "law" "law" (defArgs st) (defBody st) (defScope st) .none kV dc pm an cd ct), sl⟩) (c : PySem.W.codeIn K cd "law" = true) (kp : PySem.W.keepIn K (.ref f2) = true) :
    ∃ fd : FuncData, (∀ (s : Shared) (u : Value), BindsTo s fd ⟨[u], []⟩ [("script", u)]) ∧ ∀ base : Heap, K.In base → base.Ns mainGlobals mg → FnOk P w K mg base (L2N.CX P w) k fa fd ["script"] (spL K n) := by
  have e := hfa.symm.trans (PySem.W.mg_of Z G a)
  cases e
  exact ⟨_, fun s u => hb kV dc pm an cd ct s u, fun base _ _ => (ok base (fun_mk l c kp)).imp fun vs H Q E h => spL_to hg h⟩
end Y

set_option Elab.async false
set_option linter.all false
set_option maxRecDepth 100000
namespace Y
open PySem PySem.Spec PyProof.Rows L2
/-! ### what a term yields: rules for simp -/
theorem R.bind_cg {α β : Type} {x x' : R α} {f : α → R β} (h : x = x') : (x >>= f) = (x' >>= f) := by rw [h]
variable {ρ : Env}
@[simp] theorem e_look {i : Nat} : look i ρ = (match ρ[i]? with | some (some d) => .ok d | _ => .stk) := id rfl
@[simp] theorem e_var {i : Nat} : cVar i ρ = ((look i ρ).nox >>= fun d => R.ok (.vl d, ρ)) := id rfl
@[simp] theorem e_own {i : Nat} : cOwn i ρ = ((look i ρ).nox >>= fun _ => R.ok (.ow i, ρ)) := id rfl
@[simp] theorem e_c {d : D} : cC d ρ = .ok (.fr d, ρ) := id rfl
@[simp] theorem e_hfr {d : D} : Hd.d (.fr d) ρ = .ok d := id rfl
@[simp] theorem e_hvl {d : D} : Hd.d (.vl d) ρ = .ok d := id rfl
@[simp] theorem e_how {i : Nat} : Hd.d (.ow i) ρ = look i ρ := id rfl
@[simp] theorem e_vfr {d : D} : Hd.v (.fr d) = .ok d := id rfl
@[simp] theorem e_vvl {d : D} : Hd.v (.vl d) = .ok d := id rfl
@[simp] theorem e_vow {i : Nat} : Hd.v (.ow i) = .stk := id rfl
def thenOp (f : D → D → R D) (h1 h2 : Hd) (ρ : Env) : R (Hd × Env) := (h1.d ρ).nox >>= fun x => (h2.d ρ).nox >>= fun y => (f x y).nox >>= fun z => R.ok (.fr z, ρ)
@[simp] theorem e_op {f : D → D → R D} {a b : EM} : cOp f a b ρ = (a ρ >>= fun p => b p.2 >>= fun q => (p.1.d q.2).nox >>= fun x => (q.1.d q.2).nox >>= fun y => (f x y).nox >>= fun z => R.ok (.fr z, q.2)) := id rfl
@[simp] theorem e_tru {m : EM} : cTru m ρ = (m ρ >>= fun p => (p.1.d p.2).nox >>= fun d => (truD d).nox >>= fun b => R.ok (b, p.2)) := id rfl
@[simp] theorem e_bl {m : EM} : cBl m ρ = (m ρ >>= fun p => p.1.v.nox >>= fun d => match d with | .bl b => R.ok (b, p.2) | _ => .stk) := id rfl
@[simp] theorem e_notT {m : BM} : cNotT m ρ = (m ρ >>= fun p => R.ok (!p.1, p.2)) := id rfl
@[simp] theorem e_andT {a b : BM} : cAndT a b ρ = (a ρ >>= fun p => if p.1 = true then b p.2 else R.ok (false, p.2)) := id rfl
@[simp] theorem e_orT {a b : BM} : cOrT a b ρ = (a ρ >>= fun p => if p.1 = true then R.ok (true, p.2) else b p.2) := id rfl
@[simp] theorem e_if {t : BM} {a b : EM} : cIf t a b ρ = (t ρ >>= fun p => if p.1 = true then a p.2 else b p.2) := id rfl
@[simp] theorem e_nil : cNil ρ = .ok ([], ρ) := id rfl
@[simp] theorem e_cons {a : EM} {as : AM} : cCons a as ρ = (a ρ >>= fun p => as p.2 >>= fun q => R.ok (p.1 :: q.1, q.2)) := id rfl
@[simp] theorem e_vs0 : vsOf [] = .ok [] := id rfl
@[simp] theorem e_vs1 {h : Hd} {hs : List Hd} : vsOf (h :: hs) = (h.v.nox >>= fun d => vsOf hs >>= fun ds => R.ok (d :: ds)) := id rfl
@[simp] theorem e_ds0 : dsOf [] ρ = .ok [] := id rfl
@[simp] theorem e_ds1 {h : Hd} {hs : List Hd} : dsOf (h :: hs) ρ = ((h.d ρ).nox >>= fun d => dsOf hs ρ >>= fun ds => R.ok (d :: ds)) := id rfl
@[simp] theorem e_and {a b : EM} : cAnd a b ρ = (a ρ >>= fun p => (p.1.d p.2).nox >>= fun d => (truD d).nox >>= fun k => if k = true then b p.2 else R.ok (p.1, p.2)) := id rfl
@[simp] theorem e_or {a b : EM} : cOr a b ρ = (a ρ >>= fun p => (p.1.d p.2).nox >>= fun d => (truD d).nox >>= fun k => if k = true then R.ok (p.1, p.2) else b p.2) := id rfl
@[simp] theorem e_not {m : EM} : cNot m ρ = (m ρ >>= fun p => (p.1.d p.2).nox >>= fun d => (truD d).nox >>= fun k => R.ok (.fr (.bl (!k)), p.2)) := id rfl
@[simp] theorem e_chain {f g : D → D → R D} {a b c : EM} : cChain f g a b c ρ = (a ρ >>= fun p => b p.2 >>= fun q => (p.1.d q.2).nox >>= fun x => (q.1.d q.2).nox >>= fun y => (f x y).nox >>= fun z => match z with | .bl k => if k = true then (c q.2 >>= fun r => (q.1.d r.2).nox >>= fun y => (r.1.d r.2).nox >>= fun w => (g y w).nox >>= fun z => R.ok (.fr z, r.2)) else .ok (.fr (.bl false), q.2) | _ => .stk) := id rfl
@[simp] theorem e_neg {m : EM} : cNeg m ρ = (m ρ >>= fun p => p.1.v.nox >>= fun d => match d with | .int i => R.ok (.fr (.int (-i)), p.2) | _ => .stk) := id rfl
@[simp] theorem e_tup {m : AM} : cTup m ρ = (m ρ >>= fun p => (vsOf p.1).nox >>= fun ds => if szOk ds.length = true then R.ok (.fr (.tup ds), p.2) else .stk) := id rfl
@[simp] theorem e_lst {m : AM} : cLst m ρ = (m ρ >>= fun p => (vsOf p.1).nox >>= fun ds => if szOk ds.length = true then R.ok (.fr (.lst ds), p.2) else .stk) := id rfl
@[simp] theorem e_call {f : List D → R D} {m : AM} : cCall f m ρ = (m ρ >>= fun p => (dsOf p.1 p.2).nox >>= fun ds => (f ds).nox >>= fun z => R.ok (.fr z, p.2)) := id rfl
@[simp] theorem e_ix {a b : EM} : cIx a b ρ = (a ρ >>= fun p => b p.2 >>= fun q => (p.1.d q.2).nox >>= fun x => (q.1.d q.2).nox >>= fun y => (ixD x y).nox >>= fun z => R.ok (.vl z, q.2)) := id rfl
@[simp] theorem e_nopart : cNoPart ρ = .ok (none, ρ) := id rfl
@[simp] theorem e_part {m : EM} : cPart m ρ = (m ρ >>= fun p => p.1.v.nox >>= fun d => match d with | .int i => R.ok (some i, p.2) | _ => .stk) := id rfl
@[simp] theorem e_slice {a : EM} {lo hi : OM} : cSlice a lo hi ρ = (a ρ >>= fun p => lo p.2 >>= fun q => hi q.2 >>= fun r => (p.1.d r.2).nox >>= fun d => (sliceD d q.1 r.1).nox >>= fun z => R.ok (.fr z, r.2)) := id rfl
@[simp] theorem e_iter {m : EM} : cIter m ρ = (m ρ >>= fun p => (p.1.d p.2).nox >>= fun d => (itD d).nox >>= fun ds => if szOk ds.length = true then R.ok ((ds, p.1.ws), p.2) else .stk) := id rfl
@[simp] theorem e_range {f : List D → R (List D)} {m : AM} : cRange f m ρ = (m ρ >>= fun p => (vsOf p.1).nox >>= fun ds => (f ds).nox >>= fun xs => if szOk xs.length = true then R.ok ((xs, []), p.2) else .stk) := id rfl
@[simp] theorem e_zip {m : AM} : cZip m ρ = (m ρ >>= fun p => match p.1 with | [h, h2] => ((h.d p.2).nox >>= fun x => (h2.d p.2).nox >>= fun y => (zipD x y).nox >>= fun ps => if szOk ps.length = true then R.ok ((ps, h.ws ++ h2.ws), p.2) else .stk) | _ => .stk) := by
  unfold cZip; congr
@[simp] theorem e_enum {m : AM} : cEnum m ρ = (m ρ >>= fun p => match p.1 with | [h] => ((h.d p.2).nox >>= fun x => (enumD x).nox >>= fun ps => if szOk ps.length = true then R.ok ((ps, h.ws), p.2) else .stk) | _ => .stk) := by
  unfold cEnum; congr
@[simp] theorem e_yes : cYes ρ = .ok (true, ρ) := id rfl
@[simp] theorem e_isi {f : D → Bool} {m : EM} : cIsi f m ρ = (m ρ >>= fun p => (p.1.d p.2).nox >>= fun d => if noDit d = true then R.ok (.fr (.bl (f d)), p.2) else .stk) := id rfl
@[simp] theorem e_callF {g : List D → R Hd} {m : AM} : cCallF g m ρ = (m ρ >>= fun p => (vsOf p.1).nox >>= fun ds => g ds >>= fun h => match h with | .ow _ => .stk | h => R.ok (h, p.2)) := id rfl
@[simp] theorem e_callIO {pr : List (Nat × Nat)} {g : Fn} {m : AM} : cCallIO pr g m ρ = (m ρ >>= fun p => if placed pr 0 p.1 = true then ((dsOf p.1 p.2).nox >>= fun ds => g ds >>= fun r => match r.1 with | .ow _ => .stk | h => R.ok (h, putOuts r.2 pr p.2)) else .stk) := id rfl
@[simp] theorem e_tmN {i : Nat} {d : D} : tmName i d ρ = .ok (ρ.set i (some d)) := id rfl
@[simp] theorem e_tmT {is : List Nat} {ds : List D} : tmTup is (.tup ds) ρ = if ds.length = is.length then .ok (setAll ρ is ds) else .stk := id rfl
@[simp] theorem e_sa0 {ds : List D} : setAll ρ [] ds = ρ := by unfold setAll; rfl
@[simp] theorem e_sa1 {i : Nat} {is : List Nat} {d : D} {ds : List D} : setAll ρ (i :: is) (d :: ds) = setAll (ρ.set i (some d)) is ds := id rfl
@[simp] theorem e_comp {im : IM} {tm : GM} {t : BM} {e : EM} {vs : List Nat} : cComp im tm t e vs ρ = (im ρ >>= fun p => (cCompL tm t e vs p.1.2 p.1.1 (wipeE p.2 vs)).nox >>= fun q => R.ok (.fr (.lst q.1), q.2)) := id rfl
@[simp] theorem e_skip : sSkip ρ = .ok (.nx, ρ) := id rfl
@[simp] theorem e_seq {m n : SM} : sSeq m n ρ = (m ρ >>= fun p => match p.1 with | .nx => n p.2 | f => R.ok (f, p.2)) := by
  unfold sSeq; congr
@[simp] theorem e_ret {m : EM} : sRet m ρ = (m ρ >>= fun p => R.ok (.rt p.1, p.2)) := id rfl
@[simp] theorem e_sif {t : BM} {m n : SM} : sIf t m n ρ = (t ρ >>= fun p => if p.1 = true then m p.2 else n p.2) := id rfl
@[simp] theorem e_brk : sBrk ρ = .ok (.bk, ρ) := id rfl
@[simp] theorem e_cnt : sCnt ρ = .ok (.ct, ρ) := id rfl
@[simp] theorem e_asg {m : EM} {tm : GM} : sAsg m tm ρ = (m ρ >>= fun p => p.1.v.nox >>= fun d => (tm d p.2).nox >>= fun r => R.ok (.nx, r)) := id rfl
@[simp] theorem e_sown {O W : List Nat} {m : EM} {i : Nat} : sOwn O W m i ρ = (m ρ >>= fun p => match p.1 with | .fr d => ((chkO O W ρ p.2).nox >>= fun _ => if d.ownable = true then R.ok (.nx, p.2.set i (some d)) else .stk) | _ => .stk) := by
  unfold sOwn; congr
@[simp] theorem e_app {i : Nat} {m : EM} : sAppend i m ρ = ((lstAt i ρ).nox >>= fun _ => m ρ >>= fun p => p.1.v.nox >>= fun d => (lstAt i p.2).nox >>= fun ds => if szOk (ds.length + 1) = true then R.ok (.nx, p.2.set i (some (.lst (ds ++ [d])))) else .stk) := id rfl
@[simp] theorem e_lat {i : Nat} : lstAt i ρ = (match ρ[i]? with | some (some (.lst ds)) => .ok ds | _ => .stk) := id rfl
@[simp] theorem e_six {i : Nat} {mk mv : EM} : sSetIx i mk mv ρ = (mv ρ >>= fun p => p.1.v.nox >>= fun d => (lstAt i p.2).nox >>= fun _ => mk p.2 >>= fun q => q.1.v.nox >>= fun k => match k with | .int z => ((lstAt i q.2).nox >>= fun ds => match ixN ds.length z with | some j => R.ok (.nx, q.2.set i (some (.lst (ds.set j d)))) | none => .stk) | _ => .stk) := by
  unfold sSetIx; congr
@[simp] theorem e_expr {m : EM} : sExpr m ρ = (m ρ >>= fun p => R.ok (.nx, p.2)) := id rfl
@[simp] theorem e_for {U : List Nat} {im : IM} {tm : GM} {body : SM} {vs : List Nat} : sFor U im tm body vs ρ = (im ρ >>= fun p => if (p.1.2.all fun w => U.contains w) = true then forL tm body vs p.1.2 p.1.1 p.2 else .stk) := id rfl
@[simp] theorem e_w0 : wipeE ρ [] = ρ := id rfl
@[simp] theorem e_w1 {i : Nat} {is : List Nat} : wipeE ρ (i :: is) = (wipeE ρ is).set i none := id rfl
@[simp] theorem e_po0 {os : Env} : putOuts os [] ρ = ρ := id rfl
@[simp] theorem e_po1 {os : Env} {j i : Nat} {pr : List (Nat × Nat)} : putOuts os ((j, i) :: pr) ρ = (putOuts os pr ρ).set i (os.getD j none) := id rfl
@[simp] theorem e_pl0 {pr : List (Nat × Nat)} {j : Nat} : placed pr j [] = true := id rfl
@[simp] theorem e_pl1 {pr : List (Nat × Nat)} {j i : Nat} {hs : List Hd} : placed pr j (.ow i :: hs) = (pr.contains (j, i) && placed pr (j + 1) hs) := id rfl
@[simp] theorem e_pl2 {pr : List (Nat × Nat)} {j : Nat} {d : D} {hs : List Hd} : placed pr j (.vl d :: hs) = ((!pr.any fun p => p.1 == j) && placed pr (j + 1) hs) := id rfl
@[simp] theorem e_pl3 {pr : List (Nat × Nat)} {j : Nat} {d : D} {hs : List Hd} : placed pr j (.fr d :: hs) = ((!pr.any fun p => p.1 == j) && placed pr (j + 1) hs) := id rfl
@[simp] theorem e_rt0 {np : Nat} : retH np .nx ρ = .ok (.fr .non) := id rfl
@[simp] theorem e_rt1 {np : Nat} {d : D} : retH np (.rt (.fr d)) ρ = .ok (.fr d) := id rfl
@[simp] theorem e_rt2 {np : Nat} {d : D} : retH np (.rt (.vl d)) ρ = .ok (.vl d) := id rfl
@[simp] theorem e_rt3 {np i : Nat} : retH np (.rt (.ow i)) ρ = if np ≤ i then ((look i ρ).nox >>= fun d => R.ok (.fr d)) else .stk := id rfl
theorem e_fnP {np n : Nat} {m : SM} {ds : List D} : fnP np n m ds = (m (ds.map some ++ List.replicate (n - np) none) >>= fun p => (retH np p.1 p.2).nox) := rfl
theorem e_fnD {np n : Nat} {O : List Nat} {m : SM} {ds : List D} : fnD np n O m ds = (m (ds.map some ++ List.replicate (n - np) none) >>= fun p => (retH np p.1 p.2).nox >>= fun h => R.ok (h, outs O np p.2)) := rfl
@[simp] theorem e_outs1 {O : List Nat} : outs O 1 ρ = [if O.contains 0 = true then ρ.getD 0 none else none] := id rfl
@[simp] theorem e_outs2 {O : List Nat} : outs O 2 ρ = [if O.contains 0 = true then ρ.getD 0 none else none, if O.contains 1 = true then ρ.getD 1 none else none] := id rfl
@[simp] theorem e_outs3 {O : List Nat} : outs O 3 ρ = [if O.contains 0 = true then ρ.getD 0 none else none, if O.contains 1 = true then ρ.getD 1 none else none, if O.contains 2 = true then ρ.getD 2 none else none] := id rfl
@[simp] theorem e_outs4 {O : List Nat} : outs O 4 ρ = [if O.contains 0 = true then ρ.getD 0 none else none, if O.contains 1 = true then ρ.getD 1 none else none, if O.contains 2 = true then ρ.getD 2 none else none, if O.contains 3 = true then ρ.getD 3 none else none] := id rfl
@[simp] theorem e_outs5 {O : List Nat} : outs O 5 ρ = [if O.contains 0 = true then ρ.getD 0 none else none, if O.contains 1 = true then ρ.getD 1 none else none, if O.contains 2 = true then ρ.getD 2 none else none, if O.contains 3 = true then ρ.getD 3 none else none, if O.contains 4 = true then ρ.getD 4 none else none] := id rfl
end Y

set_option Elab.async false
set_option linter.all false
set_option maxRecDepth 100000
namespace Y
open PySem PySem.Spec PyProof.Rows L2
/-! ### operations at data -/
@[simp] theorem d_add {i j : Int} : addD (.int i) (.int j) = .ok (.int (i + j)) := id rfl
@[simp] theorem d_addT {x y : List D} : addD (.tup x) (.tup y) = if szOk (x.length + y.length) = true then .ok (.tup (x ++ y)) else .stk := id rfl
@[simp] theorem d_addL {x y : List D} : addD (.lst x) (.lst y) = if szOk (x.length + y.length) = true then .ok (.lst (x ++ y)) else .stk := id rfl
@[simp] theorem d_addS {x y : Str} : addD (.str x) (.str y) = if szOk (x.length + y.length) = true then .ok (.str (x ++ y)) else .stk := id rfl
@[simp] theorem d_sub {i j : Int} : subD (.int i) (.int j) = .ok (.int (i - j)) := id rfl
@[simp] theorem d_mul {i j : Int} : mulD (.int i) (.int j) = if mulOk i j = true then .ok (.int (i * j)) else .stk := id rfl
@[simp] theorem d_fdiv {i j : Int} : fdivD (.int i) (.int j) = if smallPos j = true then .ok (.int (i / j)) else .stk := id rfl
@[simp] theorem d_mod {i j : Int} : modD (.int i) (.int j) = if 0 < j then .ok (.int (i % j)) else .stk := id rfl
@[simp] theorem d_shl {i j : Int} : shlD (.int i) (.int j) = if shOk i j = true then .ok (.int (i * 2 ^ j.toNat)) else .stk := id rfl
@[simp] theorem d_shr {i j : Int} : shrD (.int i) (.int j) = if 0 ≤ j then .ok (.int (i / 2 ^ j.toNat)) else .stk := id rfl
@[simp] theorem d_and {i j : Int} : andD (.int i) (.int j) = .ok (.int (Builtin.bitAnd i j)) := id rfl
@[simp] theorem d_or {i j : Int} : orD (.int i) (.int j) = .ok (.int (Builtin.bitOr i j)) := id rfl
@[simp] theorem d_xor {i j : Int} : xorD (.int i) (.int j) = .ok (.int (Builtin.bitXor i j)) := id rfl
@[simp] theorem d_lt {i j : Int} : ltD (.int i) (.int j) = .ok (.bl (decide (i < j))) := id rfl
@[simp] theorem d_le {i j : Int} : leD (.int i) (.int j) = .ok (.bl (decide (i ≤ j))) := id rfl
@[simp] theorem d_gt {i j : Int} : gtD (.int i) (.int j) = .ok (.bl (decide (j < i))) := id rfl
@[simp] theorem d_ge {i j : Int} : geD (.int i) (.int j) = .ok (.bl (decide (j ≤ i))) := id rfl
@[simp] theorem d_isN {x : D} : isD x .non = .ok (.bl (isNon x)) := by cases x <;> rfl
@[simp] theorem d_isB {a b : Bool} : isD (.bl a) (.bl b) = .ok (.bl (decide (a = b))) := id rfl
@[simp] theorem d_isnN {x : D} : isNotD x .non = .ok (.bl (!isNon x)) := by cases x <;> rfl
@[simp] theorem d_isnB {a b : Bool} : isNotD (.bl a) (.bl b) = .ok (.bl (!decide (a = b))) := id rfl
@[simp] theorem d_lenT {x : List D} : lenD [.tup x] = .ok (.int x.length) := id rfl
@[simp] theorem d_lenL {x : List D} : lenD [.lst x] = .ok (.int x.length) := id rfl
@[simp] theorem d_lenA {x : List Int} : lenD [.arg x] = .ok (.int x.length) := id rfl
@[simp] theorem d_lenS {x : Str} : lenD [.str x] = if szOk x.length = true then .ok (.int x.length) else .stk := id rfl
@[simp] theorem d_max {i j : Int} : max2D [.int i, .int j] = .ok (.int (max i j)) := id rfl
@[simp] theorem d_min {i j : Int} : min2D [.int i, .int j] = .ok (.int (min i j)) := id rfl
@[simp] theorem d_divmod {i j : Int} : divmodD [.int i, .int j] = if smallPos j = true then .ok (.tup [.int (i / j), .int (i % j)]) else .stk := id rfl
@[simp] theorem d_tupL {x : List D} : tupleD [.lst x] = .ok (.tup x) := id rfl
@[simp] theorem d_tupT {x : List D} : tupleD [.tup x] = .ok (.tup x) := id rfl
@[simp] theorem d_lstL {x : List D} : listD [.lst x] = .ok (.lst x) := id rfl
@[simp] theorem d_lstT {x : List D} : listD [.tup x] = .ok (.lst x) := id rfl
@[simp] theorem d_intI {i : Int} : intOfD [.int i] = .ok (.int i) := id rfl
@[simp] theorem d_intB {k : Bool} : intOfD [.bl k] = .ok (.int (if k then 1 else 0)) := id rfl
@[simp] theorem d_ixT {x : List D} {i : Int} : ixD (.tup x) (.int i) = match atI x i with | some d => .ok d | none => .stk := id rfl
@[simp] theorem d_ixL {x : List D} {i : Int} : ixD (.lst x) (.int i) = match atI x i with | some d => .ok d | none => .stk := id rfl
@[simp] theorem d_ixA {x : List Int} {i : Int} : ixD (.arg x) (.int i) = match atI x i with | some n => .ok (.int n) | none => .stk := id rfl
@[simp] theorem d_slT {x : List D} {a b : Option Int} : sliceD (.tup x) a b = .ok (.tup (cutD x a b)) := id rfl
@[simp] theorem d_slL {x : List D} {a b : Option Int} : sliceD (.lst x) a b = .ok (.lst (cutD x a b)) := id rfl
@[simp] theorem d_itL {x : List D} : itD (.lst x) = .ok x := id rfl
@[simp] theorem d_itT {x : List D} : itD (.tup x) = .ok x := id rfl
@[simp] theorem d_itA {x : List Int} : itD (.arg x) = .ok (x.map D.int) := id rfl
@[simp] theorem d_rng1 {j : Int} : rng1D [.int j] = if rngOk j = true then .ok ((List.range j.toNat).map fun i => D.int (i : Nat)) else .stk := by
  show (if rngOk j = true then R.ok ((List.range j.toNat).map fun i => D.int (0 + (i : Nat))) else .stk) = _
  simp
@[simp] theorem d_rng2 {i j : Int} : rng2D [.int i, .int j] = if (rngOk i && rngOk j) = true then .ok ((List.range (j - i).toNat).map fun k => D.int (i + (k : Nat))) else .stk := id rfl
@[simp] theorem d_truB {b : Bool} : truD (.bl b) = .ok b := id rfl
@[simp] theorem d_truN : truD .non = .ok false := id rfl
@[simp] theorem d_truI {i : Int} : truD (.int i) = .ok (i != 0) := id rfl
@[simp] theorem d_truL {x : List D} : truD (.lst x) = .ok (!x.isEmpty) := id rfl
@[simp] theorem d_truT {x : List D} : truD (.tup x) = .ok (!x.isEmpty) := id rfl
theorem ints_map : ∀ xs : List Int, intsOf (xs.map .int) = some xs
  | [] => rfl
  | x :: xs => by simp [intsOf, ints_map xs]
theorem bls_map : ∀ xs : List Bool, blsOf (xs.map .bl) = some xs
  | [] => rfl
  | x :: xs => by simp [blsOf, bls_map xs]
@[simp] theorem d_sum {xs : List Int} : sumD [.lst (xs.map .int)] = .ok (.int xs.sum) := by
  show (match intsOf (xs.map .int) with | some ns => R.ok (D.int ns.sum) | none => .stk) = _
  rw [ints_map]
@[simp] theorem d_all {xs : List Bool} : allD [.lst (xs.map .bl)] = .ok (.bl (xs.all id)) := by
  show (match blsOf (xs.map .bl) with | some ns => R.ok (D.bl (ns.all id)) | none => .stk) = _
  rw [bls_map]
@[simp] theorem d_any {xs : List Bool} : anyD [.lst (xs.map .bl)] = .ok (.bl (xs.any id)) := by
  show (match blsOf (xs.map .bl) with | some ns => R.ok (D.bl (ns.any id)) | none => .stk) = _
  rw [bls_map]
@[simp] theorem d_isNon {x : D} : isNon .non = true := id rfl
/-! ### sizes -/
theorem szOk_of {n : Nat} (h : n ≤ 16777216) : szOk n = true := decide_eq_true (show n ≤ sizeLine from by unfold sizeLine; omega)
theorem smallPos_of {j : Int} (h : 0 < j) (h2 : j < 1073741824) : smallPos j = true := decide_eq_true ⟨h, h2⟩
theorem rngOk_of {j : Int} (h : -4611686018427387904 ≤ j) (h2 : j < 4611686018427387904) : rngOk j = true := decide_eq_true ⟨by omega, by omega⟩
theorem mulOk_l {i j : Int} (h : i.natAbs < 2 ^ 64) : mulOk i j = true := by
  unfold mulOk
  rw [decide_eq_true h]
  rfl
theorem mulOk_r {i j : Int} (h : j.natAbs < 2 ^ 64) : mulOk i j = true := by
  unfold mulOk
  rw [decide_eq_true h]
  simp
theorem shOk_of {i j : Int} (h : 0 ≤ j) (h2 : j ≤ 1000000) (h3 : i.natAbs < 2 ^ 64) : shOk i j = true := decide_eq_true ⟨h, h2, h3⟩
@[simp] theorem sz0 : szOk 0 = true := by decide
@[simp] theorem sz1 : szOk 1 = true := by decide
@[simp] theorem sz2 : szOk 2 = true := by decide
@[simp] theorem sz3 : szOk 3 = true := by decide
/-! ### a place of a list -/
theorem atI_of {α : Type} {xs : List α} {i : Int} {j : Nat} {x : α} (hi : i = j) (h : xs[j]? = some x) : atI xs i = some x := by
  have hj : j < xs.length := (List.getElem?_eq_some_iff.mp h).1
  unfold atI ixN
  subst hi
  rw [if_pos (by omega), if_pos (by omega)]
  show xs[(j : Int).toNat]? = some x
  rw [Int.toNat_natCast, h]
theorem atI_lt {α : Type} {xs : List α} {i : Int} (h0 : 0 ≤ i) (h : i < xs.length) : atI xs i = some (xs[i.toNat]'(by omega)) :=
  atI_of (j := i.toNat) (by omega) (List.getElem?_eq_getElem (by omega))
/-! ### equality -/
def eqPs : List D → List D → Bool
  | [], [] => true
  | x :: xs, y :: ys => eqP x y && eqPs xs ys
  | _, _ => false
theorem eqPs_py : ∀ xs ys : List D, PyData.eqvAll (toPys xs) (toPys ys) = eqPs xs ys
  | [], [] => by simp [toPys, PyData.eqvAll, eqPs]
  | [], _ :: _ => by simp [toPys, PyData.eqvAll, eqPs]
  | _ :: _, [] => by simp [toPys, PyData.eqvAll, eqPs]
  | x :: xs, y :: ys => by simp [toPys, PyData.eqvAll, eqPs, eqP, eqPs_py xs ys]
@[simp] theorem eqP_int {i j : Int} : eqP (.int i) (.int j) = (i == j) := by simp [eqP, toPy, PyData.eqv]
@[simp] theorem eqP_bl {i j : Bool} : eqP (.bl i) (.bl j) = (i == j) := by simp [eqP, toPy, PyData.eqv]
@[simp] theorem eqP_str {i j : Str} : eqP (.str i) (.str j) = (i == j) := by simp [eqP, toPy, PyData.eqv]
@[simp] theorem eqP_tup {xs ys : List D} : eqP (.tup xs) (.tup ys) = eqPs xs ys := by simp [eqP, toPy, PyData.eqv, eqPs_py]
@[simp] theorem eqP_lst {xs ys : List D} : eqP (.lst xs) (.lst ys) = eqPs xs ys := by simp [eqP, toPy, PyData.eqv, eqPs_py]
@[simp] theorem eqPs_ints : ∀ {xs ys : List Int}, eqPs (xs.map .int) (ys.map .int) = decide (xs = ys)
  | [], [] => by simp [eqPs]
  | [], _ :: _ => by simp [eqPs]
  | _ :: _, [] => by simp [eqPs]
  | x :: xs, y :: ys => by
    have ih := eqPs_ints (xs := xs) (ys := ys)
    simp only [List.map_cons, eqPs, eqP_int, ih, List.cons.injEq]
    by_cases h : x = y <;> simp [h]
/-- a depth that the machine bears; no dict; texts that it bears -/
def Fit : Nat → D → Prop
  | _, .non => True
  | _, .bl _ => True
  | _, .int _ => True
  | _, .str x => PyData.strOk x = true
  | n + 1, .tup ds => ∀ d ∈ ds, Fit n d
  | n + 1, .lst ds => ∀ d ∈ ds, Fit n d
  | _, _ => False
theorem fits_py {n : Nat} : ∀ {ds : List D}, (∀ d ∈ ds, (toPy d).canLay0 = true ∧ (toPy d).depth ≤ n) → PyData.canLayAll0 (toPys ds) = true ∧ PyData.depthAll (toPys ds) ≤ n
  | [], _ => by simp [toPys, PyData.canLayAll0, PyData.depthAll]
  | d :: ds, h => by
    have h1 := h d (by simp)
    have h2 := fits_py (ds := ds) fun e he => h e (by simp [he])
    simp only [toPys, PyData.canLayAll0, PyData.depthAll, h1.1, h2.1, Bool.and_self, true_and]
    omega
theorem fit_py : ∀ {n : Nat} {d : D}, Fit n d → (toPy d).canLay0 = true ∧ (toPy d).depth ≤ n
  | n, .non, _ => by simp [toPy, PyData.canLay0, PyData.depth]
  | n, .bl _, _ => by simp [toPy, PyData.canLay0, PyData.depth]
  | n, .int _, _ => by simp [toPy, PyData.canLay0, PyData.depth]
  | n, .str x, h => by
    have h : PyData.strOk x = true := by cases n <;> exact h
    simp [toPy, PyData.canLay0, PyData.depth, h]
  | 0, .tup ds, h => h.elim
  | 0, .lst ds, h => h.elim
  | n + 1, .tup ds, h => by
    have h : ∀ d ∈ ds, Fit n d := h
    have := fits_py fun d hd => fit_py (h d hd)
    simp only [toPy, PyData.canLay0, PyData.depth, this.1, true_and]
    omega
  | n + 1, .lst ds, h => by
    have h : ∀ d ∈ ds, Fit n d := h
    have := fits_py fun d hd => fit_py (h d hd)
    simp only [toPy, PyData.canLay0, PyData.depth, this.1, true_and]
    omega
  | n, .arg _, h => by cases n <;> exact h.elim
  | n, .dik _ _, h => by cases n <;> exact h.elim
  | n, .dit _ _, h => by cases n <;> exact h.elim
theorem dOk_fit {n : Nat} {d : D} (h : Fit n d) (hn : n ≤ 64 := by decide) : dOk d = true := by
  have := fit_py h
  unfold dOk SeqAt.shaped
  rw [this.1, decide_eq_true (by omega)]
  rfl
theorem fit_ints {n : Nat} {xs : List Int} : ∀ d ∈ xs.map D.int, Fit n d := fun d h => by
  obtain ⟨x, _, rfl⟩ := List.mem_map.mp h
  cases n <;> trivial
theorem fit_int {n : Nat} {i : Int} : Fit n (.int i) := by cases n <;> trivial
theorem fit_bl {n : Nat} {i : Bool} : Fit n (.bl i) := by cases n <;> trivial
theorem fit_tupI {n : Nat} {xs : List Int} : Fit (n + 1) (.tup (xs.map D.int)) := fit_ints
theorem fit_lstI {n : Nat} {xs : List Int} : Fit (n + 1) (.lst (xs.map D.int)) := fit_ints
theorem eqD_of {n : Nat} {x y : D} (hx : Fit n x) (hy : Fit n y) (hn : n ≤ 64 := by decide) : eqD x y = .ok (.bl (eqP x y)) := by
  unfold eqD
  rw [dOk_fit hx hn, dOk_fit hy hn]
  rfl
theorem neD_of {n : Nat} {x y : D} (hx : Fit n x) (hy : Fit n y) (hn : n ≤ 64 := by decide) : neD x y = .ok (.bl (!eqP x y)) := by
  unfold neD
  rw [dOk_fit hx hn, dOk_fit hy hn]
  rfl
@[simp] theorem eqD_int {i j : Int} : eqD (.int i) (.int j) = .ok (.bl (decide (i = j))) := by
  rw [eqD_of (n := 0) (by unfold Fit; trivial) (by unfold Fit; trivial), eqP_int]
  by_cases h : i = j <;> simp [h]
@[simp] theorem neD_int {i j : Int} : neD (.int i) (.int j) = .ok (.bl (!decide (i = j))) := by
  rw [neD_of (n := 0) (by unfold Fit; trivial) (by unfold Fit; trivial), eqP_int]
  by_cases h : i = j <;> simp [h]
theorem eqPs_refl : ∀ {ds : List D}, (∀ d ∈ ds, eqP d d = true) → eqPs ds ds = true
  | [], _ => rfl
  | d :: ds, h => by simp [eqPs, h d (by simp), eqPs_refl (ds := ds) fun e he => h e (by simp [he])]
theorem eqP_refl : ∀ {n : Nat} {d : D}, Fit n d → eqP d d = true
  | n, .non, _ => by simp [eqP, toPy, PyData.eqv]
  | n, .bl _, _ => by simp
  | n, .int _, _ => by simp
  | n, .str x, h => by simp
  | 0, .tup ds, h => h.elim
  | 0, .lst ds, h => h.elim
  | n + 1, .tup ds, h => by
    have h : ∀ d ∈ ds, Fit n d := h
    rw [eqP_tup]
    exact eqPs_refl fun d hd => eqP_refl (h d hd)
  | n + 1, .lst ds, h => by
    have h : ∀ d ∈ ds, Fit n d := h
    rw [eqP_lst]
    exact eqPs_refl fun d hd => eqP_refl (h d hd)
  | n, .arg _, h => by cases n <;> exact h.elim
  | n, .dik _ _, h => by cases n <;> exact h.elim
  | n, .dit _ _, h => by cases n <;> exact h.elim
theorem eqD_refl {n : Nat} {x : D} (hx : Fit n x) (hn : n ≤ 64 := by decide) : eqD x x = .ok (.bl true) := by rw [eqD_of hx hx hn, eqP_refl hx]
theorem neD_refl {n : Nat} {x : D} (hx : Fit n x) (hn : n ≤ 64 := by decide) : neD x x = .ok (.bl false) := by rw [neD_of hx hx hn, eqP_refl hx]; rfl
/-! ### own slots -/
def ChkL (O W : List Nat) : Nat → Env → Env → Prop
  | _, _, [] => True
  | j, x :: xs, y :: ys => (y = none ∨ (y = x ∧ j ∉ W) ∨ (∃ d, y = some d ∧ ((j ∈ O ∧ d.shallow = true) ∨ d.nl = true))) ∧ ChkL O W (j + 1) xs ys
  | _, [], _ :: _ => False
theorem ChkL.at {O W : List Nat} : ∀ {ρ ρ' : Env} {k j : Nat} {d : D}, ChkL O W k ρ ρ' → ρ'[j]? = some (some d) → (ρ[j]? = some (some d) ∧ k + j ∉ W) ∨ (k + j ∈ O ∧ d.shallow = true) ∨ d.nl = true
  | _, [], _, _, _, _, e => by simp at e
  | [], _ :: _, _, _, _, h, _ => h.elim
  | x :: xs, y :: ys, k, 0, d, h, e => by
    simp at e
    subst e
    rcases h.1 with h | ⟨h, w⟩ | ⟨d', h, w⟩
    · cases h
    · exact .inl ⟨by simp [h], w⟩
    · cases h; exact .inr w
  | x :: xs, y :: ys, k, j + 1, d, h, e => by
    have := ChkL.at (j := j) h.2 (by simpa using e)
    rw [show k + (j + 1) = k + 1 + j by omega]
    simpa using this
theorem chkO_of {O W : List Nat} {ρ ρ' : Env} (h : ChkL O W 0 ρ ρ') : chkO O W ρ ρ' = .ok () := by
  unfold chkO
  rw [if_pos]
  intro j d e
  have := h.at e
  rwa [Nat.zero_add] at this
@[simp] theorem e_wsf {d : D} : Hd.ws (.fr d) = [] := id rfl
@[simp] theorem e_wsv {d : D} : Hd.ws (.vl d) = [] := id rfl
@[simp] theorem e_wso {i : Nat} : Hd.ws (.ow i) = [i] := id rfl
def shAt (i : Nat) (ρ : Y.Env) : Bool := match ρ[i]? with | some (some d) => d.shallow | _ => true
@[simp] theorem chkO_w1 {O : List Nat} {i : Nat} {ρ : Y.Env} (hi : i ∈ O) (h : shAt i ρ = true) : chkO O [i] ρ ρ = .ok () := by
  unfold chkO
  rw [if_pos]
  intro j d e
  by_cases c : j = i
  · subst c
    unfold shAt at h
    rw [e] at h
    exact .inr (.inl ⟨hi, h⟩)
  · exact .inl ⟨e, by simpa using c⟩
@[simp] theorem shL {ds : List D} : D.shallow (.lst ds) = nls ds := id rfl
@[simp] theorem nls0 : nls [] = true := by simp [nls]
@[simp] theorem nls1 {d : D} {ds : List D} : nls (d :: ds) = (d.nl && nls ds) := by simp [nls]
@[simp] theorem nlI {i : Int} : D.nl (.int i) = true := by simp [D.nl]
@[simp] theorem nlB {i : Bool} : D.nl (.bl i) = true := by simp [D.nl]
@[simp] theorem nlS {i : Str} : D.nl (.str i) = true := by simp [D.nl]
@[simp] theorem nlN : D.nl .non = true := by simp [D.nl]
@[simp] theorem nlT {ds : List D} : D.nl (.tup ds) = nls ds := by simp [D.nl]
@[simp] theorem owL {ds : List D} : D.ownable (.lst ds) = true := id rfl
theorem nls_all : ∀ {ds : List D}, (∀ d ∈ ds, d.nl = true) → nls ds = true
  | [], _ => by simp
  | d :: ds, h => by simp [h d (by simp), nls_all fun e he => h e (List.mem_cons_of_mem _ he)]
@[simp] theorem nls_ints {xs : List Int} : nls (xs.map D.int) = true := nls_all fun d h => by
  obtain ⟨x, _, rfl⟩ := List.mem_map.mp h
  simp
/-! ### loops -/
/-- one turn of a comprehension; of a for -/
def turnC (tm : GM) (t : BM) (e : EM) (vs : List Nat) (x : D) (ρ : Env) : R (Option D × Env) :=
  tm x ρ >>= fun ρ1 => t ρ1 >>= fun p => if p.1 = true then (e p.2 >>= fun q => q.1.v >>= fun d => R.ok (some d, wipeE q.2 vs)) else R.ok (none, wipeE p.2 vs)
def turnF (tm : GM) (body : SM) (vs : List Nat) (x : D) (ρ : Env) : R (Fl × Env) :=
  (tm x ρ).nox >>= fun ρ1 => body ρ1 >>= fun p => match p.1 with | .nx => R.ok (.nx, wipeE p.2 vs) | .ct => R.ok (.nx, wipeE p.2 vs) | f => R.ok (f, p.2)
theorem comp_cons {tm : GM} {t : BM} {e : EM} {vs ws : List Nat} {x : D} {xs ys : List D} {ρ ρ' ρf : Env} {o : Option D} (h : turnC tm t e vs x ρ = .ok (o, ρ')) (hw : ∀ w ∈ ws, ρ'[w]? = ρ[w]?) (h2 : cCompL tm t e vs ws xs ρ' = .ok (ys, ρf)) : cCompL tm t e vs ws (x :: xs) ρ = .ok (o.toList ++ ys, ρf) := by
  have ck : chk ws ρ ρ' = .ok () := by unfold chk; rw [if_pos hw]
  unfold turnC at h
  obtain ⟨ρ1, e1, h⟩ := R.ok_of h
  obtain ⟨⟨k, ρ2⟩, e3, h⟩ := R.ok_of h
  unfold cCompL
  rw [e1]
  simp only [R.bind_ok]
  rw [e3]
  cases k with
  | false =>
    have h : R.ok (none, wipeE ρ2 vs) = R.ok (o, ρ') := h
    cases h
    simp only [R.bind_ok, Bool.false_eq_true, if_false]
    rw [ck]
    exact h2
  | true =>
    have h : (e ρ2 >>= fun q => q.1.v >>= fun d => R.ok (some d, wipeE q.2 vs)) = R.ok (o, ρ') := h
    obtain ⟨⟨hd, ρ3⟩, e4, h⟩ := R.ok_of h
    obtain ⟨d, e5, h⟩ := R.ok_of h
    cases h
    simp only [R.bind_ok, if_true]
    rw [e4]
    simp only [R.bind_ok]
    rw [show hd.v = _ from e5]
    simp only [R.bind_ok]
    rw [ck]
    simp only [R.bind_ok]
    rw [h2]
    rfl
theorem for_cons {tm : GM} {body : SM} {vs ws : List Nat} {x : D} {xs : List D} {ρ ρ' : Env} {r : R (Fl × Env)} (h : turnF tm body vs x ρ = .ok (.nx, ρ')) (hw : ∀ w ∈ ws, ρ'[w]? = ρ[w]?) (h2 : forL tm body vs ws xs ρ' = r) : forL tm body vs ws (x :: xs) ρ = r := by
  have ck : chk ws ρ ρ' = .ok () := by unfold chk; rw [if_pos hw]
  unfold turnF at h
  obtain ⟨ρ1, e1, h⟩ := R.ok_of h
  obtain ⟨⟨f, ρ2⟩, e3, h⟩ := R.ok_of h
  unfold forL
  rw [e1]
  simp only [R.bind_ok]
  rw [e3]
  cases f with
  | nx =>
    have h : R.ok (Fl.nx, wipeE ρ2 vs) = R.ok (Fl.nx, ρ') := h
    cases h
    simp only [R.bind_ok]
    rw [ck]
    exact h2
  | ct =>
    have h : R.ok (Fl.nx, wipeE ρ2 vs) = R.ok (Fl.nx, ρ') := h
    cases h
    simp only [R.bind_ok]
    rw [ck]
    exact h2
  | bk => cases h
  | rt _ => cases h
/-- the loop ends in this turn -/
theorem for_rt {tm : GM} {body : SM} {vs ws : List Nat} {x : D} {xs : List D} {ρ ρ' : Env} {hd : Hd} (h : turnF tm body vs x ρ = .ok (.rt hd, ρ')) : forL tm body vs ws (x :: xs) ρ = .ok (.rt hd, ρ') := by
  unfold turnF at h
  obtain ⟨ρ1, e1, h⟩ := R.ok_of h
  obtain ⟨⟨f, ρ2⟩, e3, h⟩ := R.ok_of h
  unfold forL
  rw [e1]
  simp only [R.bind_ok]
  rw [e3]
  cases f with
  | nx => cases h
  | ct => cases h
  | bk => cases h
  | rt _ => cases h; rfl
theorem for_bk {tm : GM} {body : SM} {vs ws : List Nat} {x : D} {xs : List D} {ρ ρ' : Env} (h : turnF tm body vs x ρ = .ok (.bk, ρ')) : forL tm body vs ws (x :: xs) ρ = .ok (.nx, ρ') := by
  unfold turnF at h
  obtain ⟨ρ1, e1, h⟩ := R.ok_of h
  obtain ⟨⟨f, ρ2⟩, e3, h⟩ := R.ok_of h
  unfold forL
  rw [e1]
  simp only [R.bind_ok]
  rw [e3]
  cases f with
  | nx => cases h
  | ct => cases h
  | bk => cases h; rfl
  | rt _ => cases h
section
variable {α : Type}
/-- the yields of a comprehension and the state behind it -/
def yields {S : Type} (next : S → α → S) (out : S → α → Option D) : List α → S → List D × S
  | [], s => ([], s)
  | x :: xs, s => ((out s x).toList ++ (yields next out xs (next s x)).1, (yields next out xs (next s x)).2)
/-- a comprehension: what stands goes through states -/
theorem comp_run {S : Type} {tm : GM} {t : BM} {e : EM} {vs ws : List Nat} (F : α → D) (rho : S → Env) (next : S → α → S) (out : S → α → Option D) (I : S → Prop) : ∀ (xs : List α) (s : S), I s →
    (∀ s x, I s → x ∈ xs → I (next s x) ∧ (∀ w ∈ ws, (rho (next s x))[w]? = (rho s)[w]?) ∧ turnC tm t e vs (F x) (rho s) = .ok (out s x, rho (next s x))) →
    cCompL tm t e vs ws (xs.map F) (rho s) = .ok ((yields next out xs s).1, rho (yields next out xs s).2) ∧ I (yields next out xs s).2
  | [], s, hs, _ => ⟨rfl, hs⟩
  | x :: xs, s, hs, h => by
    obtain ⟨h1, hw, h2⟩ := h s x hs (by simp)
    obtain ⟨e2, hs'⟩ := comp_run F rho next out I xs (next s x) h1 fun s y hs hy => h s y hs (by simp [hy])
    exact ⟨comp_cons h2 hw e2, hs'⟩
/-- a comprehension that changes nothing: f is what it yields -/
theorem comp_map {tm : GM} {t : BM} {e : EM} {vs ws : List Nat} {ρ : Env} (F f : α → D) : ∀ (xs : List α),
    (∀ x ∈ xs, turnC tm t e vs (F x) ρ = .ok (some (f x), ρ)) → cCompL tm t e vs ws (xs.map F) ρ = .ok (xs.map f, ρ)
  | [], _ => rfl
  | x :: xs, h => comp_cons (h x (by simp)) (fun _ _ => rfl) (comp_map F f xs fun y hy => h y (by simp [hy]))
/-- .. with a test p, yields f -/
theorem comp_filter {tm : GM} {t : BM} {e : EM} {vs ws : List Nat} {ρ : Env} (F : α → D) (p : α → Bool) (f : α → D) : ∀ (xs : List α),
    (∀ x ∈ xs, turnC tm t e vs (F x) ρ = .ok (if p x = true then some (f x) else none, ρ)) → cCompL tm t e vs ws (xs.map F) ρ = .ok ((xs.filter p).map f, ρ)
  | [], _ => rfl
  | x :: xs, h => by
    have := comp_cons (ws := ws) (h x (by simp)) (fun _ _ => rfl) (comp_filter F p f xs fun y hy => h y (by simp [hy]))
    rw [List.map_cons, this]
    cases hp : p x with
    | false => rw [List.filter_cons_of_neg (by simp [hp])]; rfl
    | true => rw [List.filter_cons_of_pos hp]; rfl
/-- for: states -/
theorem for_run {S : Type} {tm : GM} {body : SM} {vs ws : List Nat} (F : α → D) (rho : S → Env) (next : S → α → S) (I : S → Prop) : ∀ (xs : List α) (s : S), I s →
    (∀ s x, I s → x ∈ xs → I (next s x) ∧ (∀ w ∈ ws, (rho (next s x))[w]? = (rho s)[w]?) ∧ turnF tm body vs (F x) (rho s) = .ok (.nx, rho (next s x))) →
    forL tm body vs ws (xs.map F) (rho s) = .ok (.nx, rho (xs.foldl next s)) ∧ I (xs.foldl next s)
  | [], s, hs, _ => ⟨rfl, hs⟩
  | x :: xs, s, hs, h => by
    obtain ⟨h1, hw, h2⟩ := h s x hs (by simp)
    have ih := for_run F rho next I xs (next s x) h1 fun s y hs hy => h s y hs (by simp [hy])
    exact ⟨for_cons h2 hw ih.1, ih.2⟩
/-- for: something that holds of what stands -/
theorem for_inv {tm : GM} {body : SM} {vs ws : List Nat} (F : α → D) (I : Env → Prop) : ∀ (xs : List α) (ρ : Env), I ρ →
    (∀ ρ x, I ρ → x ∈ xs → ∃ ρ', turnF tm body vs (F x) ρ = .ok (.nx, ρ') ∧ I ρ' ∧ (∀ w ∈ ws, ρ'[w]? = ρ[w]?)) →
    ∃ ρ', forL tm body vs ws (xs.map F) ρ = .ok (.nx, ρ') ∧ I ρ'
  | [], ρ, hs, _ => ⟨ρ, rfl, hs⟩
  | x :: xs, ρ, hs, h => by
    obtain ⟨ρ1, e1, e3, hw⟩ := h ρ x hs (by simp)
    obtain ⟨ρ', e4, h4⟩ := for_inv (body := body) (tm := tm) (ws := ws) F I xs ρ1 e3 fun s y hs hy => h s y hs (by simp [hy])
    exact ⟨ρ', for_cons e1 hw e4, h4⟩
/-- for: by the turn's number -/
theorem for_idx {tm : GM} {body : SM} {vs ws : List Nat} (F : α → D) : ∀ (xs : List α) (rho : Nat → Env),
    (∀ i (h : i < xs.length), (∀ w ∈ ws, (rho (i + 1))[w]? = (rho i)[w]?) ∧ turnF tm body vs (F xs[i]) (rho i) = .ok (.nx, rho (i + 1))) → forL tm body vs ws (xs.map F) (rho 0) = .ok (.nx, rho xs.length)
  | [], rho, _ => rfl
  | x :: xs, rho, h => by
    have h0 := h 0 (by simp)
    have ih := for_idx F xs (fun i => rho (i + 1)) fun i hi => h (i + 1) (by simp; omega)
    exact for_cons h0.2 h0.1 ih
theorem for_rng {tm : GM} {body : SM} {vs ws : List Nat} {n : Nat} (F : Nat → D) (rho : Nat → Env) (h : ∀ i, i < n → (∀ w ∈ ws, (rho (i + 1))[w]? = (rho i)[w]?) ∧ turnF tm body vs (F i) (rho i) = .ok (.nx, rho (i + 1))) : forL tm body vs ws ((List.range n).map F) (rho 0) = .ok (.nx, rho n) := by
  have := for_idx (tm := tm) (body := body) (vs := vs) (ws := ws) F (List.range n) rho fun i hi => by
    rw [List.getElem_range]
    exact h i (by simpa using hi)
  rwa [List.length_range] at this
/-- a comprehension whose turns change what stands: something of each yield -/
theorem comp_ex {S β : Type} {tm : GM} {t : BM} {e : EM} {vs ws : List Nat} (F : α → D) (G : β → D) (rho : S → Env) (P : β → Prop) : ∀ (xs : List α) (s : S),
    (∀ s x, x ∈ xs → ∃ y s', turnC tm t e vs (F x) (rho s) = .ok (some (G y), rho s') ∧ P y ∧ (∀ w ∈ ws, (rho s')[w]? = (rho s)[w]?)) →
    ∃ (ys : List β) (s' : S), cCompL tm t e vs ws (xs.map F) (rho s) = .ok (ys.map G, rho s') ∧ ys.length = xs.length ∧ ∀ y ∈ ys, P y
  | [], s, _ => ⟨[], s, rfl, rfl, by simp⟩
  | x :: xs, s, h => by
    obtain ⟨y, s1, e1, p1, w1⟩ := h s x (by simp)
    obtain ⟨ys, s2, e2, l2, p2⟩ := comp_ex F G rho P xs s1 fun s y hy => h s y (by simp [hy])
    exact ⟨y :: ys, s2, comp_cons e1 w1 e2, by simp [l2], by simpa using ⟨p1, p2⟩⟩
theorem comp_exF {S : Type} {tm : GM} {t : BM} {e : EM} {vs ws : List Nat} (F G : α → D) (rho : S → Env) : ∀ (xs : List α) (s : S),
    (∀ s x, x ∈ xs → ∃ b s', turnC tm t e vs (F x) (rho s) = .ok (if b = true then some (G x) else none, rho s') ∧ (∀ w ∈ ws, (rho s')[w]? = (rho s)[w]?)) →
    ∃ (ys : List α) (s' : S), cCompL tm t e vs ws (xs.map F) (rho s) = .ok (ys.map G, rho s') ∧ ys.Sublist xs
  | [], s, _ => ⟨[], s, rfl, List.Sublist.slnil⟩
  | x :: xs, s, h => by
    obtain ⟨b, s1, e1, w1⟩ := h s x (by simp)
    obtain ⟨ys, s2, e2, l2⟩ := comp_exF F G rho xs s1 fun s y hy => h s y (by simp [hy])
    have := comp_cons e1 w1 e2
    cases b with
    | true => exact ⟨x :: ys, s2, this, l2.cons₂ x⟩
    | false => exact ⟨ys, s2, this, l2.cons x⟩
end
end Y

set_option Elab.async false
set_option linter.all false
set_option maxRecDepth 100000
namespace Y
open PySem PySem.Spec PyProof.Rows L2
/-! ### list(range(n)), tuple(range(n)) -/
def rgD (a b : Int) : List D := (List.range (b - a).toNat).map fun i => D.int (a + (i : Nat))
def rgB (a b : Int) : Bool := rngOk a && rngOk b && decide ((b - a).toNat ≤ 16777216)
def cRg1 (l : Bool) (m : EM) : EM := fun ρ => do
  let (h, ρ1) ← m ρ
  let d ← h.v.nox
  match d with
  | .int n => if rgB 0 n = true then pure (.fr (if l then .lst (rgD 0 n) else .tup (rgD 0 n)), ρ1) else .stk
  | _ => .stk
def cRg2 (l : Bool) (m1 m2 : EM) : EM := fun ρ => do
  let (h, ρ1) ← m1 ρ
  let (h2, ρ2) ← m2 ρ1
  let d ← h.v.nox
  let d2 ← h2.v.nox
  match d, d2 with
  | .int a, .int b => if rgB a b = true then pure (.fr (if l then .lst (rgD a b) else .tup (rgD a b)), ρ2) else .stk
  | _, _ => .stk
section
variable {K : PySem.W.Frag} {X : Cx} {P0 : Pr} {O W U : List Nat} {E : EK} {a b e : Expr} {es : List Expr} {ma mb : EM} {ms : AM} {pos : Pos}
theorem rgB_ok {a b : Int} (h : rgB a b = true) : RgOk a b := by
  unfold rgB rngOk at h
  simp only [Bool.and_eq_true, decide_eq_true_eq] at h
  obtain ⟨⟨h1, h2⟩, h3⟩ := h
  exact ⟨by omega, by omega, by omega, by omega, by have e : (2 : Nat) ^ 24 = 16777216 := by decide
                                                    omega⟩
theorem reps_rg {H : Hp} {P : Pr} {a b : Int} : Reps K H (rgD a b) P (rgV a b) := by
  unfold rgD rgV
  induction (List.range (b - a).toNat) with
  | nil => exact Reps.nil
  | cons x xs ih => exact Reps.cons (by unfold Rep; rfl) ih
theorem out_lst {P : Pr} {H : Hp} {ds : List D} {vs : List V} {Q : VK} (hm : ∀ b, P b → isMut (H b)) (o : Out K P H (.lst ds) Q) (r : ∀ H' P', Reps K H' ds P' vs) : ∀ q, H q = none → Q (.ref q) (upd H q (.lst vs)) := fun q hq => o _ _ (fun b u eb => by rw [upd_ne (ne_of_none eb hq)]; exact eb) (by
    unfold Rep
    exact ⟨q, vs, rfl, fun z => (hm q z).some hq, upd_same, r _ _⟩) fun _ a e => by cases e; exact hq
theorem out_tup {P : Pr} {H : Hp} {ds : List D} {vs : List V} {Q : VK} (o : Out K P H (.tup ds) Q) (r : ∀ H' P', Reps K H' ds P' vs) : ∀ q, H q = none → Q (.ref q) (upd H q (.tup vs)) := fun q hq => o _ _ (fun b u eb => by rw [upd_ne (ne_of_none eb hq)]; exact eb) (by
    unfold Rep
    exact ⟨q, vs, rfl, upd_same, r _ _⟩) fun m => by cases m
theorem tM_rg1 {l : Bool} (σ : St) (H : Hp) (Q : VK) (h : tM X.K P0 O W E (cRg1 l ma) σ H Q) : tRg1 (tM X.K P0 O W E ma) σ H fun a b H1 => RgOk a b ∧ ∀ q, H1 q = none → Q (.ref q) (upd H1 q (if l then .lst (rgV a b) else .tup (rgV a b))) := by
  obtain ⟨ρ, S, h⟩ := h
  refine ⟨ρ, S, h.of_bind.mono fun ⟨hd, ρ1⟩ q v H1 S1 k1 r1 => ?_⟩
  obtain ⟨d, e1, q⟩ := q.of_nox
  have rd := r1.v e1
  cases d <;> first | (exact q.elim) | skip
  rename_i n
  unfold Rep at rd
  subst rd
  refine ⟨n, rfl, ?_⟩
  by_cases c : rgB 0 n = true
  · have q : Res E W σ H (if rgB 0 n = true then R.ok (Hd.fr (if l then .lst (rgD 0 n) else .tup (rgD 0 n)), ρ1) else .stk) _ := q
    rw [if_pos c] at q
    refine ⟨rgB_ok c, ?_⟩
    have o := out_of S1 k1 q
    cases l with
    | true => exact out_lst S1.dom o fun _ _ => reps_rg
    | false => exact out_tup o fun _ _ => reps_rg
  · have q : Res E W σ H (if rgB 0 n = true then R.ok (Hd.fr (if l then .lst (rgD 0 n) else .tup (rgD 0 n)), ρ1) else .stk) _ := q
    rw [if_neg c] at q
    exact q.elim
theorem ce_lrg1 {p p2 pos : Pos} (hc : X.calm = true) (hm : X.mg "list" = none) (hm2 : X.mg "range" = none) (ha : CEx X P0 O W E a ma) (hg : Gl X "list" := by rfl) (hg2 : Gl X "range" := by rfl) (na : starEach [a] X.env = (false, eval a X.env) :: starEach [] X.env := by rfl)
    (na2 : starEach [.Call (.Name "range" p) [a] [] p2] X.env = (false, eval (.Call (.Name "range" p) [a] [] p2) X.env) :: starEach [] X.env := by rfl) {q : Pos} : CEx X P0 O W E (.Call (.Name "list" q) [.Call (.Name "range" p) [a] [] p2] [] pos) (cRg1 true ma) :=
  PE.imp (pe_listRg hc hg hm (prg_1 hg2 hm2 ha na) na2) fun σ H Q h => tM_rg1 σ H Q h
theorem ce_trg1 {p p2 pos : Pos} (hc : X.calm = true) (hm : X.mg "tuple" = none) (hm2 : X.mg "range" = none) (ha : CEx X P0 O W E a ma) (hg : Gl X "tuple" := by rfl) (hg2 : Gl X "range" := by rfl) (na : starEach [a] X.env = (false, eval a X.env) :: starEach [] X.env := by rfl)
    (na2 : starEach [.Call (.Name "range" p) [a] [] p2] X.env = (false, eval (.Call (.Name "range" p) [a] [] p2) X.env) :: starEach [] X.env := by rfl) {q : Pos} : CEx X P0 O W E (.Call (.Name "tuple" q) [.Call (.Name "range" p) [a] [] p2] [] pos) (cRg1 false ma) :=
  PE.imp (pe_tupRg hc hg hm (prg_1 hg2 hm2 ha na) na2) fun σ H Q h => tM_rg1 σ H Q h
/-! ### sorted: whole numbers -/
def sortI (ns : List Int) : List Int := ns.mergeSort (fun a b => decide (a ≤ b))
theorem sortI_perm (ns : List Int) : (sortI ns).Perm ns := List.mergeSort_perm _ _
theorem sortI_pw (ns : List Int) : (sortI ns).Pairwise (· ≤ ·) := by
  have := List.pairwise_mergeSort (le := fun a b : Int => decide (a ≤ b)) (fun a b c h1 h2 => by simp at *; omega) (fun a b => by simp; omega) ns
  exact this.imp fun h => by simpa using h
theorem sortI_of {ns ms : List Int} (p : ms.Perm ns) (h : ms.Pairwise (· ≤ ·)) : ms = sortI ns :=
  List.Perm.eq_of_pairwise (le := fun a b : Int => a ≤ b) (fun a b _ _ h1 h2 => by omega) h (sortI_pw ns) (p.trans (sortI_perm ns).symm)
def sortedD : List D → R D
  | [.lst ds] => match intsOf ds with | some ns => .ok (.lst ((sortI ns).map D.int)) | none => .stk
  | _ => .stk
theorem cd_sortedI : CallR X (.builtin "sorted") (rDs X.K sortedD) := by
  intro pins s σ H xs us Q I r ⟨P, ds, dz, hm, rs, e, out⟩
  unfold sortedD at e
  split at e
  · split at e
    · rename_i ns ei
      cases e
      obtain ⟨v, rfl, r1⟩ := rs.get1
      obtain ⟨a, vs, rfl, h1, h2⟩ := r1.lst
      rw [ints_rep ei h2] at h1
      exact cr_sortedI pins s σ H _ us Q I r ⟨a, ns, rfl, SqL.of h1, fun ns' p pp pw hp => by
        rw [sortI_of pp pw]
        exact out_lst hm out (fun _ _ => reps_ints _) p hp⟩
    · cases e
  · cases e
@[simp] theorem d_sortI {xs : List Int} : sortedD [.lst (xs.map D.int)] = .ok (.lst ((sortI xs).map D.int)) := by
  show (match intsOf (xs.map .int) with | some ns => R.ok (D.lst ((sortI ns).map D.int)) | none => .stk) = _
  rw [ints_map]
/-! ### x.extend(e), e a list -/
def sExtend (i : Nat) (m : EM) : SM := fun ρ => do
  let _ ← (lstAt i ρ).nox
  let (h, ρ1) ← m ρ
  let d ← (h.d ρ1).nox
  let ds ← (lstAt i ρ1).nox
  match d with
  | .lst es => if szOk (ds.length + es.length) = true then pure (.nx, ρ1.set i (some (.lst (ds ++ es)))) else .stk
  | _ => .stk
theorem tM_extend {i : Nat} (hi : i ∈ O) (D : Ends) (σ : St) (H : Hp) (h : tSt K P0 O W U E (sExtend i ma) D σ H) : tDrop (tBM K "list" rExtend (tVar i) (tCons (tM K P0 O W E ma) tNil)) D σ H := by
  obtain ⟨ρ, S, h⟩ := h
  obtain ⟨ds0, e0, h⟩ := h.of_nox
  obtain ⟨l, vs0, h1, h2, _⟩ := S.lst hi (lstAt_ok e0)
  refine ⟨.ref l, h1, .inl ⟨rfl, _, SqL.of h2⟩, ρ, S, (h.of_bind.down S.sub).mono fun ⟨hd, ρ1⟩ q v H1 S1 k1 r1 => ?_⟩
  obtain ⟨d, e1, q⟩ := q.of_nox
  obtain ⟨ds, e2, q⟩ := q.of_nox
  obtain ⟨l', vs, h1', h3, h4⟩ := S1.lst hi (lstAt_ok e2)
  rw [h1] at h1'
  cases h1'
  have rd := HdR.d S1 r1 e1
  cases d <;> first | (exact q.elim) | skip
  rename_i es _
  obtain ⟨b, ws, rfl, h5, h6⟩ := rd
  have q : Res E O σ H (if szOk (ds.length + es.length) = true then R.ok (Fl.nx, ρ1.set i (some (.lst (ds ++ es)))) else .stk) _ := q
  by_cases c : szOk (ds.length + es.length) = true
  · rw [if_pos c] at q
    have c := of_decide_eq_true c
    refine ⟨l, b, vs, ws, rfl, rfl, h3, h5, by rw [h4.length, h6.length]; omega, ?_⟩
    exact q σ _ (S1.lstW hi h1 h3 (h4.append h6)) (Tr.ownW S.sub k1 hi h1) rfl
  · rw [if_neg c] at q
    exact q.elim
theorem cs_extend {i : Nat} {x : Str} {p ap cp : Pos} (h : CEx X P0 O W E e ma) (hi : i ∈ O := by decide) (hx : X.N[i]? = some x := by rfl) (hv : Vis X.env.scope x := by first | exact Or.inl rfl | exact Or.inr (Or.inl rfl) | exact Or.inr (Or.inr rfl)) (hd : (x == ("__debug__" : Str)) = false := by decide) (hcd : (x == ("__classdict__" : Str)) = false := by decide)
    (he : starEach [e] X.env = (false, eval e X.env) :: starEach [] X.env := by rfl) (hpl : (backTo cp (starEach [] X.env)).any (·.1) = false := by rfl) (hbase : attributeBase (.Name x p) "extend" X.env (eval (.Name x p) X.env) = eval (.Name x p) X.env := by rfl) (hline : (ap.endLine == cp.line) = true := by rfl)
    (hfew : Few X cp [e] := by rfl) (hsw : swapsWith (.Call (.Attribute (.Name x p) "extend" ap) [e] [] cp) none pos.line X.env = pure false := by rfl) :
    CS X P0 O W U E (.Expr (.Call (.Attribute (.Name x p) "extend" ap) [e] [] cp) pos) (sExtend i ma) :=
  PS.imp (ps_expr (pe_bm PySem.F.plainAttrs_list PySem.F.slot_list_extend PySem.F.type_list_extend mt_extend (pe_var (i := i) hx hv hd hcd) (pa_cons h pa_nil he) hbase hfew hline he hpl) hsw) (tM_extend hi)
/-! ### x.pop(), x.pop(k), x an own slot -/
def cPop (i : Nat) : EM := fun ρ => do
  let ds ← (lstAt i ρ).nox
  match ds[ds.length - 1]? with
  | some d => pure (.vl d, ρ.set i (some (.lst ds.dropLast)))
  | none => .stk
def popRes (i : Nat) (ds : List D) (z : Int) (ρ1 : Y.Env) : R (Hd × Y.Env) := if szOk ds.length = true then (match ixN ds.length z with
    | some k => (match ds[k]? with
      | some d => .ok (.vl d, ρ1.set i (some (.lst (ds.eraseIdx k))))
      | none => .stk)
    | none => .stk) else .stk
def cPopAt (i : Nat) (m : EM) : EM := fun ρ => do
  let _ ← (lstAt i ρ).nox
  let (h, ρ1) ← m ρ
  let d ← h.v.nox
  match d with
  | .int z => do
    let ds ← (lstAt i ρ1).nox
    popRes i ds z ρ1
  | _ => .stk
theorem Keep.ownW {i : Nat} {l : Addr} {o : HO} {σ : St} {H H1 : Hp} (k : Keep W σ H H1) (hi : i ∈ W) (ha : σ[i]? = Option.some (Option.some (V.ref l))) : Keep W σ H (upd H1 l o) where
  keep := fun b u e n => by
    rw [upd_ne fun (z : b = l) => n ⟨i, hi, by rw [z]; exact ha⟩]
    exact k.keep b u e n
  some := fun b e => by
    by_cases hb : b = l
    · rw [hb, upd_same]; intro z; cases z
    · rw [upd_ne hb]; exact k.some b e
theorem Reps.drop1 {H : Hp} {P : Pr} : ∀ {ds : List D} {vs : List V}, Reps K H ds P vs → Reps K H ds.dropLast P vs.dropLast
  | [], _, h => by rw [h.nil_iff]; exact Reps.nil
  | [d], _, h => by
    obtain ⟨v, ws, rfl, h1, h2⟩ := h.cons_iff
    rw [h2.nil_iff]
    exact Reps.nil
  | d :: e :: ds, _, h => by
    obtain ⟨v, ws, rfl, h1, h2⟩ := h.cons_iff
    obtain ⟨w, us, rfl, h3, h4⟩ := h2.cons_iff
    exact Reps.cons h1 (Reps.drop1 h2)
theorem Reps.erase {H : Hp} {P : Pr} : ∀ {ds : List D} {vs : List V} (k : Nat), Reps K H ds P vs → Reps K H (ds.eraseIdx k) P (vs.eraseIdx k)
  | [], _, k, h => by rw [h.nil_iff]; simp; exact Reps.nil
  | d :: ds, _, 0, h => by
    obtain ⟨v, ws, rfl, h1, h2⟩ := h.cons_iff
    exact h2
  | d :: ds, _, k + 1, h => by
    obtain ⟨v, ws, rfl, h1, h2⟩ := h.cons_iff
    exact Reps.cons h1 (Reps.erase k h2)
theorem tM_popAt {i : Nat} (hi : i ∈ O) (hw : i ∈ W) (σ : St) (H : Hp) (Q : VK) (h : tM K P0 O W E (cPopAt i ma) σ H Q) : tBM K "list" rPopAt (tVar i) (tCons (tM K P0 O W E ma) tNil) σ H Q := by
  obtain ⟨ρ, S, h⟩ := h
  obtain ⟨ds0, e0, h⟩ := h.of_nox
  obtain ⟨l, vs0, h1, h2, _⟩ := S.lst hi (lstAt_ok e0)
  refine ⟨.ref l, h1, .inl ⟨rfl, _, SqL.of h2⟩, ρ, S, h.of_bind.mono fun ⟨hd, ρ1⟩ q v H1 S1 k1 r1 => ?_⟩
  obtain ⟨d, e1, q⟩ := q.of_nox
  have rd := r1.v e1
  cases d <;> first | (exact q.elim) | skip
  rename_i z
  unfold Rep at rd
  subst rd
  obtain ⟨ds, e2, q⟩ := Res.of_nox (show Res E W σ H ((lstAt i ρ1).nox >>= _) _ from q)
  obtain ⟨l', vs, h1', h3, h4⟩ := S1.lst hi (lstAt_ok e2)
  rw [h1] at h1'
  cases h1'
  have q : Res E W σ H (popRes i ds z ρ1) _ := q
  unfold popRes at q
  by_cases c : szOk ds.length = true
  · rw [if_pos c] at q
    have c := of_decide_eq_true c
    cases ej : ixN ds.length z with
    | none => rw [ej] at q; exact q.elim
    | some k =>
      rw [ej] at q
      cases ed : ds[k]? with
      | none => simp only [ed] at q; exact q.elim
      | some d =>
        simp only [ed] at q
        obtain ⟨y, ey, ry⟩ := h4.get ed
        obtain ⟨a1, a2, a3, a4⟩ := ixN_seq ej
        have e24 : sizeLine = 16777216 := by decide
        have hv : FA P0 O σ = FA P0 O σ := rfl
        refine ⟨l, vs, z, k, y, rfl, rfl, h3, by omega, by omega, by rw [h4.length]; exact a1, ey, ?_⟩
        have S2 := S1.lstW hi h1 h3 (Reps.erase k h4)
        refine q y _ S2 (k1.ownW hw h1) ?_
        exact ry.mono d S1.dom (fun b o e n => by rw [upd_ne fun z => n (.inr ⟨i, hi, by rw [z]; exact h1⟩)]; exact e) fun b z => .inl z
  · rw [if_neg c] at q
    exact q.elim
theorem ce_popAt {i : Nat} {x : Str} {p ap cp : Pos} (h : CEx X P0 O W E e ma) (hi : i ∈ O := by decide) (hw : i ∈ W := by decide) (hx : X.N[i]? = some x := by rfl) (hv : Vis X.env.scope x := by first | exact Or.inl rfl | exact Or.inr (Or.inl rfl) | exact Or.inr (Or.inr rfl)) (hd : (x == ("__debug__" : Str)) = false := by decide) (hcd : (x == ("__classdict__" : Str)) = false := by decide)
    (he : starEach [e] X.env = (false, eval e X.env) :: starEach [] X.env := by rfl) (hpl : (backTo cp (starEach [] X.env)).any (·.1) = false := by rfl) (hbase : attributeBase (.Name x p) "pop" X.env (eval (.Name x p) X.env) = eval (.Name x p) X.env := by rfl) (hline : (ap.endLine == cp.line) = true := by rfl)
    (hfew : Few X cp [e] := by rfl) : CEx X P0 O W E (.Call (.Attribute (.Name x p) "pop" ap) [e] [] cp) (cPopAt i ma) :=
  PE.imp (pe_bm PySem.F.plainAttrs_list PySem.F.slot_list_pop PySem.F.type_list_pop mt_popAt (pe_var (i := i) hx hv hd hcd) (pa_cons h pa_nil he) hbase hfew hline he hpl) (tM_popAt hi hw)
theorem tM_pop {i : Nat} (hi : i ∈ O) (hw : i ∈ W) (σ : St) (H : Hp) (Q : VK) (h : tM K P0 O W E (cPop i) σ H Q) : tBM0 K "list" rPop (tVar i) σ H Q := by
  obtain ⟨ρ, S, h⟩ := h
  unfold cPop at h
  obtain ⟨ds, e0, h⟩ := h.of_nox
  obtain ⟨l, vs, h1, h2, h4⟩ := S.lst hi (lstAt_ok e0)
  refine ⟨.ref l, h1, .inl ⟨rfl, _, SqL.of h2⟩, ?_⟩
  cases ed : ds[ds.length - 1]? with
  | none => simp only [ed] at h; exact h.elim
  | some d =>
    simp only [ed] at h
    obtain ⟨y, ey, ry⟩ := h4.get ed
    refine ⟨l, vs, y, rfl, rfl, h2, by rw [h4.length]; exact ey, ?_⟩
    refine h y _ (S.lstW hi h1 h2 (Reps.drop1 h4)) ((Keep.refl (W := W) (σ := σ) (H := H)).ownW hw h1) ?_
    exact ry.mono d S.dom (fun b o e n => by rw [upd_ne fun z => n (.inr ⟨i, hi, by rw [z]; exact h1⟩)]; exact e) fun b z => .inl z
theorem ce_pop {i : Nat} {x : Str} {p ap cp : Pos} (hi : i ∈ O := by decide) (hw : i ∈ W := by decide) (hx : X.N[i]? = some x := by rfl) (hv : Vis X.env.scope x := by first | exact Or.inl rfl | exact Or.inr (Or.inl rfl) | exact Or.inr (Or.inr rfl)) (hd : (x == ("__debug__" : Str)) = false := by decide) (hcd : (x == ("__classdict__" : Str)) = false := by decide)
    (hbase : attributeBase (.Name x p) "pop" X.env (eval (.Name x p) X.env) = eval (.Name x p) X.env := by rfl) (hline : (ap.endLine == cp.line) = true := by rfl) : CEx X P0 O W E (.Call (.Attribute (.Name x p) "pop" ap) [] [] cp) (cPop i) :=
  PE.imp (pe_bm0 PySem.F.plainAttrs_list PySem.F.slot_list_pop PySem.F.type_list_pop mt_pop (pe_var (i := i) hx hv hd hcd) hbase hline) (tM_pop hi hw)
end
end Y

set_option Elab.async false
set_option linter.all false
set_option maxRecDepth 100000
set_option maxHeartbeats 4000000
namespace Y
open PySem PySem.Spec PyProof.Rows L2
/-! ### the order of lists of whole numbers -/
def ltL : List Int → List Int → Bool
  | [], [] => false
  | [], _ :: _ => true
  | _ :: _, [] => false
  | x :: xs, y :: ys => if x = y then ltL xs ys else decide (x < y)
theorem ltL_asym : ∀ {a b : List Int}, ltL a b = true → ltL b a = false
  | [], [], h => by simp [ltL] at h
  | [], _ :: _, _ => rfl
  | _ :: _, [], h => by simp [ltL] at h
  | x :: xs, y :: ys, h => by
    unfold ltL at h ⊢
    by_cases e : x = y
    · rw [if_pos e] at h
      rw [if_pos e.symm]
      exact ltL_asym h
    · rw [if_neg e, decide_eq_true_eq] at h
      rw [if_neg fun z => e z.symm, decide_eq_false_iff_not]
      omega
theorem ltL_tr : ∀ {a b c : List Int}, ltL b a = false → ltL c b = false → ltL c a = false
  | a, b, [], h1, h2 => by
    cases b with
    | nil => exact h1
    | cons => simp [ltL] at h2
  | [], b, z :: zs, _, _ => rfl
  | x :: xs, [], z :: zs, h1, _ => by simp [ltL] at h1
  | x :: xs, y :: ys, z :: zs, h1, h2 => by
    unfold ltL at h1 h2 ⊢
    by_cases e1 : y = x
    · rw [if_pos e1] at h1
      by_cases e2 : z = y
      · rw [if_pos e2] at h2
        rw [if_pos (e2.trans e1)]
        exact ltL_tr h1 h2
      · rw [if_neg e2, decide_eq_false_iff_not] at h2
        rw [if_neg (by omega), decide_eq_false_iff_not]
        omega
    · rw [if_neg e1, decide_eq_false_iff_not] at h1
      by_cases e2 : z = y
      · rw [if_neg (by omega), decide_eq_false_iff_not]
        omega
      · rw [if_neg e2, decide_eq_false_iff_not] at h2
        rw [if_neg (by omega), decide_eq_false_iff_not]
        omega
theorem ltL_eq : ∀ {a b : List Int}, ltL a b = false → ltL b a = false → a = b
  | [], [], _, _ => rfl
  | [], _ :: _, h, _ => by simp [ltL] at h
  | _ :: _, [], _, h => by simp [ltL] at h
  | x :: xs, y :: ys, h1, h2 => by
    unfold ltL at h1 h2
    by_cases e : x = y
    · rw [if_pos e] at h1
      rw [if_pos e.symm] at h2
      rw [e, ltL_eq h1 h2]
    · rw [if_neg e, decide_eq_false_iff_not] at h1
      rw [if_neg fun z => e z.symm, decide_eq_false_iff_not] at h2
      omega
theorem ltL_swo {β : Type} (k : β → List Int) : SrtO.Swo fun v u => ltL (k v) (k u) := ⟨fun _ _ h => ltL_asym h, fun _ _ _ h1 h2 => ltL_tr h1 h2⟩
def sortL (xs : List (List Int)) : List (List Int) := xs.mergeSort fun a b => !ltL b a
theorem sortL_perm (xs : List (List Int)) : (sortL xs).Perm xs := List.mergeSort_perm _ _
theorem sortL_pw (xs : List (List Int)) : (sortL xs).Pairwise fun a b => ltL b a = false := by
  have := List.pairwise_mergeSort (le := fun a b : List Int => !ltL b a) (fun a b c h1 h2 => by
    simp only [Bool.not_eq_true'] at *
    exact ltL_tr h1 h2) (fun a b => by
    cases e : ltL b a with
    | false => rfl
    | true => simp [ltL_asym e]) xs
  exact this.imp fun h => by simpa using h
theorem sortL_of {xs ys : List (List Int)} (p : ys.Perm xs) (h : ys.Pairwise fun a b => ltL b a = false) : ys = sortL xs :=
  List.Perm.eq_of_pairwise (le := fun a b : List Int => ltL b a = false) (fun a b _ _ h1 h2 => ltL_eq h2 h1) h (sortL_pw xs) (p.trans (sortL_perm xs).symm)
/-! ### the machine's side -/
def TupV (h : Heap) (v : Value) (ns : List Int) : Prop := ∃ a o its n, v = .ref a ∧ h.get? a = some o ∧ o.cls = .type "tuple" ∧ o.data = .seq its n ∧ IntsAre its.toList ns
theorem TupV.at {h g : Heap} {v : Value} {ns : List Int} (p : TupV h v ns) (k : ∀ b o, h.get? b = some o → o.cls = .type "tuple" → g.get? b = some o) : TupV g v ns :=
  let ⟨a, o, its, n, e, ho, c, d, i⟩ := p
  ⟨a, o, its, n, e, k _ _ ho c, c, d, i⟩
section
variable {prog : Program} {w : World} {A : Around} {E : Value → Shared → Prop} {s : Shared}
/-- two tuples' items in turn -/
theorem lexI {b fin : Bool} {Q : Bool → Shared → Prop} : ∀ {xs ys : List Value} {ns ms : List Int} (i : Nat), IntsAre xs ns → IntsAre ys ms → ((ns.length < ms.length ↔ fin = true) → True) →
    (∀ r, (∀ k, ns.take k = ms.take k → k = min ns.length ms.length → r = fin) → (¬ (ns.take (min ns.length ms.length) = ms.take (min ns.length ms.length)) → r = ltL ns ms) → Q r s) → PySem.W.KatLex prog w A b fin Q (xs.zip ys) i s
  | _, _, _, _, i, .nil, _, _, q => PySem.W.kat_nil (q fin (fun _ _ _ => rfl) fun z => by simp at z)
  | _, _, _, _, i, .cons n t r, .nil, _, q => PySem.W.kat_nil (q fin (fun _ _ _ => rfl) fun z => by simp at z)
  | _, _, _, _, i, .cons n t r1, .cons m u r2, _, q => by
    rw [List.zip_cons_cons]
    refine PySem.W.kat_cons (SeqAt.EqAt.int_int n t m u prog w _ _ ?_)
    refine PySem.W.kat_go (fun e1 => ?_) (fun e1 => ?_)
    · obtain rfl : n = m := by simpa using e1
      refine PySem.W.kat_yes (lexI (i + 1) r1 r2 (fun _ => trivial) fun r h1 h2 => q r (fun k hk hm => ?_) fun hn => ?_)
      · rw [List.length_cons, List.length_cons, Nat.succ_min_succ] at hm
        subst hm
        exact h1 _ (by simpa using hk) rfl
      · rw [h2 fun z => hn (by rw [List.length_cons, List.length_cons, Nat.succ_min_succ, List.take_succ_cons, List.take_succ_cons, z])]
        simp [ltL]
    · have ne : ¬ n = m := by simpa using e1
      have fin' : Q (decide (n < m)) s := q _ (fun k hk hm => by
        rw [List.length_cons, List.length_cons, Nat.succ_min_succ] at hm
        subst hm
        simp only [List.take_succ_cons, List.cons.injEq] at hk
        exact absurd hk.1 ne) fun _ => by simp [ltL, ne]
      refine PySem.W.kat_no ?_
      cases hb : (b && i == 0) with
      | true => exact oneLt_int fin'
      | false => exact PySem.W.kat_one _ _ (PyProof.Rows.lt_int fin')
theorem ltL_fin : ∀ {ns ms : List Int}, ns.take (min ns.length ms.length) = ms.take (min ns.length ms.length) → ltL ns ms = decide (ns.length < ms.length)
  | [], [], _ => rfl
  | [], _ :: _, _ => by simp [ltL]
  | _ :: _, [], _ => by simp [ltL]
  | x :: xs, y :: ys, h => by
    rw [List.length_cons, List.length_cons, Nat.succ_min_succ, List.take_succ_cons, List.take_succ_cons, List.cons.injEq] at h
    unfold ltL
    rw [if_pos h.1, ltL_fin h.2, List.length_cons, List.length_cons]
    simp
theorem tup_cmp {vs : List Value} {k : Value → List Int} {c : Bool} (hp : ∀ v ∈ vs, TupV s.heap v (k v)) : SrtO.Cmp prog w A s (tuples' c) (fun p => p.1 ∈ vs) (SrtO.lt2 fun v u => ltL (k v) (k u)) := by
  intro p q mp mq
  have g1 := hp _ mp
  have g2 := hp _ mq
  show wpAny (model prog w) A (keyLt' (tuples' c) p.1 q.1) (fun r s' => s' = s ∧ r = ltL (k p.1) (k q.1)) (fun _ _ => False) s
  generalize k p.1 = ns at g1 ⊢
  generalize k q.1 = ms at g2 ⊢
  obtain ⟨a, o, xs, n, e, ho, hc, hd, hi⟩ := g1
  obtain ⟨a', o', ys, n', e', ho', hc', hd', hi'⟩ := g2
  rw [e, e']
  refine PySem.W.kat_lt ho hd ho' hd' (lexI 0 hi hi' (fun _ => trivial) fun r h1 h2 => ⟨rfl, ?_⟩)
  by_cases z : ns.take (min ns.length ms.length) = ms.take (min ns.length ms.length)
  · rw [h1 _ z rfl, ltL_fin z, ← hi.length, ← hi'.length, Array.length_toList, Array.length_toList]
  · exact h2 z
theorem tup_firsts {h : Heap} {k : Value → List Int} : ∀ {vs : List Value}, (∀ v ∈ vs, TupV h v (k v) ∧ k v ≠ []) → ∃ fs : List Value, PySem.W.KatTups h vs fs ∧ fs.length = vs.length ∧ ∀ f ∈ fs, ∃ x t, f = Value.int x t
  | [], _ => ⟨[], trivial, rfl, fun _ z => nomatch z⟩
  | v :: vs, hp => by
    obtain ⟨fs, t1, t2, t3⟩ := tup_firsts (vs := vs) fun u hu => hp u (by simp [hu])
    obtain ⟨⟨a, o, xs, n, e, ho, hc, hd, hi⟩, ne⟩ := hp v (by simp)
    generalize k v = ns at hi ne
    obtain ⟨m, t, us, ms, e1⟩ : ∃ m t us ms, xs.toList = Value.int m t :: us ∧ ns = m :: ms := by
      generalize xs.toList = l at hi
      cases hi with
      | nil => exact absurd rfl ne
      | cons m t r => exact ⟨m, t, _, _, rfl, rfl⟩
    refine ⟨.int m t :: fs, ⟨⟨a, o, xs, n, e, ho, hc, hd, ?_⟩, t1⟩, by simp [t2], fun f hf => ?_⟩
    · rw [← Array.getElem?_toList, e1.1]
      rfl
    · rcases List.mem_cons.mp hf with rfl | hf
      · exact ⟨m, t, rfl⟩
      · exact t3 f hf
theorem tup_sortable {a : Addr} {vs : List Value} {k : Value → List Int} (h0 : 0 < vs.length) (hp : ∀ v ∈ vs, TupV s.heap v (k v) ∧ k v ≠ []) (ha : ∀ o, s.heap.get? a = some o → o.cls ≠ .type "tuple") : SrtO.SortableO prog w A s a vs fun v u => ltL (k v) (k u) := by
  intro g kp
  have hq : ∀ v ∈ vs, TupV g v (k v) ∧ k v ≠ [] := fun v hv => ⟨(hp v hv).1.at fun b o e c => kp b o (fun z => by subst z; exact ha o e c) e, (hp v hv).2⟩
  obtain ⟨fs, t1, t2, t3⟩ := tup_firsts hq
  refine ⟨tuples' true, fun Q E done => ?_, tup_cmp fun v hv => (hq v hv).1⟩
  refine PySem.W.kat_kind (T := .type "int") t1 (by omega) (fun f hf => ?_) (by rfl) ?_
  · obtain ⟨x, t, rfl⟩ := t3 f hf
    exact PySem.W.Looks.now
  · rw [show (Value.type "int" != Value.type "tuple") = true by decide +kernel]
    exact done
end
/-- sorted(xs), xs a list of tuples of whole numbers (none empty where there are two) -/
def rSortTs (K : PySem.W.Frag) : List V → Hp → VK → Prop := fun vs H Q => ∃ (a : Addr) (xs : List V) (k : V → List Int), vs = [V.ref a] ∧ SqL K H a xs ∧ (∀ x ∈ xs, ∃ t, x = V.ref t ∧ H t = some (.tup ((k x).map V.int)) ∧ (2 ≤ xs.length → k x ≠ [])) ∧
  ∀ ys p, ys.Pairwise (fun x y => ltL (k y) (k x) = false) → ys.Perm xs → H p = none → Q (.ref p) (upd H p (.lst ys))
theorem ints_vals : ∀ {ns : List Int} {us : List Value}, Vals (ns.map V.int) us → IntsAre us ns
  | [], _, .nil => .nil
  | n :: ns, _, .cons r t => by
    obtain ⟨u, rfl⟩ := r
    exact .cons n u (ints_vals t)
section
variable {X : Cx}
theorem cr_sortTs : CallR X (.builtin "sorted") (rSortTs X.K) := by
  intro pins s σ H vs us Q I r ⟨a, xs, k, e0, hs, hx, q⟩
  subst e0
  obtain ⟨its, rv, hl, hz⟩ := I.list hs
  obtain ⟨u, e3, ru⟩ := vals1 r
  subst e3
  obtain rfl : u = Value.ref a := ru
  obtain ⟨e1, e2⟩ := refs_back rv fun x m => (hx x m).imp fun t h => h.1
  have tv : ∀ v ∈ its, TupV s.heap v (k (backV v)) ∧ (2 ≤ xs.length → k (backV v) ≠ []) := fun v hv => by
    obtain ⟨t, rfl⟩ := e2 v hv
    have hm : V.ref t ∈ xs := by rw [e1]; exact List.mem_map.mpr ⟨_, hv, rfl⟩
    obtain ⟨t', e, ht, ne⟩ := hx _ hm
    cases e
    obtain ⟨_, its2, r2, o, ho, hc, n, hd⟩ := I.hok _ _ ht
    exact ⟨⟨t, o, _, n, rfl, ho, hc, hd, by rw [List.toList_toArray]; exact ints_vals r2⟩, ne⟩
  have zl : its.length = xs.length := by rw [rv.length]
  refine SrtO.sorted_ord (ltL_swo fun v => k (backV v)) hl.isList (by rw [zl]; exact hz) (fun h2 g b hb kk => ?_) fun out hs1 hs2 => ?_
  · refine tup_sortable (s := { s with heap := g }) (by omega) (fun v hv => ⟨(tv v hv).1.at fun c o e _ => (kk c o e).2, (tv v hv).2 (by omega)⟩) fun o e => ?_
    have e' : some o = some (seqObj "list" its.toArray 0) := e.symm.trans hb
    cases e'
    exact fun c => absurd (Value.type.inj c) (by decide)
  · obtain ⟨n, hn⟩ := PyProof.Rows.sortedAll_at s.heap its out.toArray
    have h3 : ∀ u ∈ out, ∃ b, u = Value.ref b := fun u hu => e2 u (hs2.perm.mem_iff.mp hu)
    have pm : (out.map backV).Perm xs := by rw [e1]; exact hs2.perm.map backV
    refine ⟨.ref (s.heap.objs.size + 1), upd H (s.heap.objs.size + 1) (.lst (out.map backV)), I.laid (t' := s.toks) (fun _ _ e => PyProof.Rows.sortedAll_old e) (Nat.le_succ _) ⟨by rw [pm.length_eq]; exact hz, out, n, vals_back h3, hn⟩, rfl, q _ _ ?_ pm (I.hok.fresh (Nat.le_succ _))⟩
    exact List.pairwise_map.mpr hs1
end
end Y

set_option Elab.async false
set_option linter.all false
set_option maxRecDepth 100000
namespace Y
open PySem PySem.Spec PyProof.Rows L2
/-! ### sorted: texts -/
theorem ltC_cons {x y : Nat} {xs ys : List Nat} : ltCps (x :: xs) (y :: ys) = true ↔ x < y ∨ (x = y ∧ ltCps xs ys = true) := by simp [ltCps]
theorem ltC_irr : ∀ {a : List Nat}, ltCps a a = false
  | [] => by simp [ltCps]
  | x :: xs => by
    have := ltC_irr (a := xs)
    simp [ltCps, this]
theorem ltC_asym : ∀ {a b : List Nat}, ltCps a b = true → ltCps b a = false
  | [], [], h => by simp [ltCps] at h
  | [], _ :: _, _ => by simp [ltCps]
  | _ :: _, [], h => by simp [ltCps] at h
  | x :: xs, y :: ys, h => by
    rw [← Bool.not_eq_true, ltC_cons]
    rcases ltC_cons.mp h with h2 | ⟨rfl, h2⟩
    · rintro (z | ⟨z, _⟩) <;> omega
    · have := ltC_asym h2
      rintro (z | ⟨_, z⟩)
      · omega
      · rw [this] at z; cases z
theorem ltC_tr : ∀ {a b c : List Nat}, ltCps a b = true → ltCps b c = true → ltCps a c = true
  | [], _ :: _, _ :: _, _, _ => by simp [ltCps]
  | [], [], _, h, _ => by simp [ltCps] at h
  | _ :: _, [], _, h, _ => by simp [ltCps] at h
  | _, _ :: _, [], _, h => by simp [ltCps] at h
  | x :: xs, y :: ys, z :: zs, h1, h2 => by
    rw [ltC_cons] at *
    rcases h1 with h1 | ⟨rfl, h1⟩
    · rcases h2 with h2 | ⟨rfl, h2⟩
      · exact .inl (by omega)
      · exact .inl h1
    · rcases h2 with h2 | ⟨rfl, h2⟩
      · exact .inl h2
      · exact .inr ⟨rfl, ltC_tr h1 h2⟩
theorem ltC_tot : ∀ {a b : List Nat}, ltCps a b = false → ltCps b a = false → a = b
  | [], [], _, _ => rfl
  | [], _ :: _, h, _ => by simp [ltCps] at h
  | _ :: _, [], _, h => by simp [ltCps] at h
  | x :: xs, y :: ys, h1, h2 => by
    rw [← Bool.not_eq_true, ltC_cons] at h1 h2
    have e : x = y := by omega
    subst e
    rw [ltC_tot (a := xs) (b := ys) (Bool.not_eq_true _ ▸ fun z => h1 (.inr ⟨rfl, z⟩)) (Bool.not_eq_true _ ▸ fun z => h2 (.inr ⟨rfl, z⟩))]
theorem ltC_ntr {a b c : List Nat} (h1 : ltCps b a = false) (h2 : ltCps c b = false) : ltCps c a = false := by
  cases e : ltCps c a with
  | false => rfl
  | true =>
    cases e2 : ltCps a b with
    | true => rw [ltC_tr e e2] at h2; cases h2
    | false => rw [ltC_tot e2 h1] at e; rw [e] at h2; cases h2
def ltStr (x y : Str) : Bool := ltCps x.cps.toList y.cps.toList
theorem ltStr_tot {x y : Str} (h1 : ltStr x y = false) (h2 : ltStr y x = false) : x = y := by
  have e := ltC_tot h1 h2
  cases x; cases y
  simp at e
  rw [e]
def sortS (xs : List Str) : List Str := xs.mergeSort fun a b => !ltStr b a
theorem sortS_perm (xs : List Str) : (sortS xs).Perm xs := List.mergeSort_perm _ _
theorem sortS_pw (xs : List Str) : (sortS xs).Pairwise fun a b => ltStr b a = false := by
  have := List.pairwise_mergeSort (le := fun a b : Str => !ltStr b a) (fun a b c h1 h2 => by
    simp only [Bool.not_eq_true'] at *
    exact ltC_ntr h1 h2) (fun a b => by
    cases e : ltStr b a with
    | false => rfl
    | true =>
      have := ltC_asym e
      simp [ltStr, this]) xs
  exact this.imp fun h => by simpa using h
theorem sortS_of {xs ys : List Str} (p : ys.Perm xs) (h : ys.Pairwise fun a b => ltStr b a = false) : ys = sortS xs :=
  List.Perm.eq_of_pairwise (le := fun a b : Str => ltStr b a = false) (fun a b _ _ h1 h2 => ltStr_tot h2 h1) h (sortS_pw xs) (p.trans (sortS_perm xs).symm)
theorem rising_pw : ∀ {ys : List Str}, sortedS ys = true → ys.Pairwise fun a b => ltStr b a = false
  | [], _ => List.Pairwise.nil
  | [x], _ => List.pairwise_singleton _ _
  | x :: y :: r, h => by
    simp only [sortedS, risingS, Bool.and_eq_true, Bool.not_eq_true'] at h
    have ih := rising_pw (ys := y :: r) h.2
    refine List.pairwise_cons.mpr ⟨fun z hz => ?_, ih⟩
    rcases List.mem_cons.mp hz with rfl | hz
    · exact h.1
    · exact ltC_ntr h.1 ((List.pairwise_cons.mp ih).1 z hz)
def rSortSt (K : PySem.W.Frag) : List V → Hp → VK → Prop := fun vs H Q => ∃ (a : Addr) (xs : List Str), vs = [V.ref a] ∧ SqL K H a (xs.map V.str) ∧ ∀ p, H p = none → Q (.ref p) (upd H p (.lst ((sortS xs).map V.str)))
theorem cr_sortSt {X : Cx} : CallR X (.builtin "sorted") (rSortSt X.K) := by
  intro pins s σ H vs us Q I r ⟨a, xs, e0, hs, q⟩
  subst e0
  obtain ⟨its, rv, hl, hz⟩ := I.list hs
  rw [Vals.ref1 r]
  refine sorted_strsAny hl.isList rv.strs (by rw [← rv.length]; exact hz) fun out ys h1 h2 h3 => ?_
  obtain ⟨n, hn⟩ := PyProof.Rows.sortedAll_at s.heap its out
  have ey := sortS_of h2 (rising_pw h3)
  subst ey
  have zl : ((sortS xs).map V.str).length ≤ sizeLine := by rw [List.length_map, h2.length_eq]; rw [List.length_map] at hz; exact hz
  exact ⟨.ref _, upd H (s.heap.objs.size + 1) (.lst ((sortS xs).map V.str)), I.laid (t' := s.toks) (fun _ _ => PyProof.Rows.sortedAll_old) (Nat.le_succ _) ⟨zl, out.toList, n, vals_of_strs h1, hn⟩, rfl, q _ (I.hok.fresh (Nat.le_succ _))⟩
/-! ### sorted: whole numbers, or tuples of such -/
def intTup : D → Option (List Int)
  | .tup ds => intsOf ds
  | _ => none
def tupsOf : List D → Option (List (List Int))
  | [] => some []
  | d :: ds => match intTup d, tupsOf ds with
    | some n, some ns => some (n :: ns)
    | _, _ => none
def sortOk (xs : List (List Int)) : Bool := decide (xs.length < 2) || xs.all fun x => !x.isEmpty
def sortD : List D → R D
  | [.lst ds] => match intsOf ds with
    | some ns => .ok (.lst ((sortI ns).map D.int))
    | none => match strsOf ds with
    | some ss => .ok (.lst ((sortS ss).map D.str))
    | none => match tupsOf ds with
      | some xs => if sortOk xs = true then .ok (.lst ((sortL xs).map fun x => D.tup (x.map D.int))) else .stk
      | none => .stk
  | _ => .stk
def intV : V → Int
  | .int i => i
  | _ => 0
def keyV (H : Hp) : V → List Int
  | .ref t => match H t with
    | some (.tup ws) => ws.map intV
    | _ => []
  | _ => []
theorem ints_back (ns : List Int) : (ns.map V.int).map intV = ns := by
  rw [List.map_map]
  induction ns with
  | nil => rfl
  | cons x xs ih => simp [intV] at ih ⊢; exact ih
theorem reps_strs {K : PySem.W.Frag} {H : Hp} {P : Pr} : ∀ ns : List Str, Reps K H (ns.map D.str) P (ns.map V.str)
  | [] => Reps.nil
  | n :: ns => Reps.cons (by unfold Rep; rfl) (reps_strs ns)
section
variable {K : PySem.W.Frag} {X : Cx}
theorem tups_rep {H : Hp} {P : Pr} : ∀ {ds : List D} {xs : List (List Int)} {vs : List V}, tupsOf ds = some xs → Reps K H ds P vs → vs.map (keyV H) = xs ∧ ∀ v ∈ vs, ∃ t, v = V.ref t ∧ H t = some (.tup ((keyV H v).map V.int))
  | [], xs, vs, e, h => by simp [tupsOf] at e; subst e; rw [h.nil_iff]; simp
  | d :: ds, xs, vs, e, h => by
    obtain ⟨v, ws, rfl, h1, h2⟩ := h.cons_iff
    unfold tupsOf at e
    cases e1 : intTup d with
    | none => rw [e1] at e; simp at e
    | some n =>
      cases e2 : tupsOf ds with
      | none => rw [e1, e2] at e; simp at e
      | some ns =>
        rw [e1, e2] at e
        simp at e
        subst e
        obtain ⟨i1, i2⟩ := tups_rep e2 h2
        cases d <;> simp [intTup] at e1
        rename_i ds'
        unfold Rep at h1
        obtain ⟨t, us, rfl, ht, hr⟩ := h1
        rw [ints_rep e1 hr] at ht
        have kt : keyV H (.ref t) = n := by
          show (match H t with | some (.tup ws) => ws.map intV | _ => []) = n
          rw [ht]
          exact ints_back n
        refine ⟨by rw [List.map_cons, kt, i1], fun v hv => ?_⟩
        rcases List.mem_cons.mp hv with rfl | hv
        · exact ⟨t, rfl, by rw [kt]; exact ht⟩
        · exact i2 v hv
theorem cd_sort : CallR X (.builtin "sorted") (rDs X.K sortD) := by
  intro pins s σ H xs us Q I r ⟨P, ds, dz, hm, rs, e, out⟩
  unfold sortD at e
  split at e
  · split at e
    · rename_i ds0 _ ns ei
      refine cd_sortedI pins s σ H xs us Q I r ⟨P, _, dz, hm, rs, ?_, out⟩
      show (match intsOf ds0 with | some ns => R.ok (D.lst ((sortI ns).map D.int)) | none => .stk) = _
      rw [ei]
      exact e
    · split at e
      · rename_i ss es
        cases e
        obtain ⟨v, rfl, r1⟩ := rs.get1
        obtain ⟨a, vs, rfl, h1, h2⟩ := r1.lst
        rw [strs_rep es h2] at h1
        exact cr_sortSt pins s σ H _ us Q I r ⟨a, ss, rfl, SqL.of h1, fun p hp => out_lst hm out (fun _ _ => reps_strs _) p hp⟩
      split at e
      · rename_i nss et
        split at e
        · rename_i ok
          cases e
          obtain ⟨v, rfl, r1⟩ := rs.get1
          obtain ⟨a, vs, rfl, h1, h2⟩ := r1.lst
          obtain ⟨k1, k2⟩ := tups_rep et h2
          have lv : vs.length = nss.length := by rw [← k1, List.length_map]
          refine cr_sortTs pins s σ H _ us Q I r ⟨a, vs, keyV H, rfl, SqL.of h1, fun x hx => ?_, fun ys p pw pm hp => ?_⟩
          · obtain ⟨t, e1, e2⟩ := k2 x hx
            refine ⟨t, e1, e2, fun h2' => ?_⟩
            unfold sortOk at ok
            rw [decide_eq_false (by omega), Bool.false_or, List.all_eq_true] at ok
            have := ok (keyV H x) (by rw [← k1]; exact List.mem_map.mpr ⟨x, hx, rfl⟩)
            intro z
            rw [z] at this
            simp at this
          · have sm : Same H (upd H p (.lst ys)) := fun b o eb => by rw [upd_ne (ne_of_none eb hp)]; exact eb
            have es : ys.map (keyV H) = sortL nss := sortL_of (by rw [← k1]; exact pm.map _) (List.pairwise_map.mpr pw)
            refine out _ _ sm ?_ fun _ b eb => by cases eb; exact hp
            unfold Rep
            refine ⟨p, ys, rfl, fun z => (hm p z).some hp, upd_same, ?_⟩
            rw [← es, List.map_map]
            have : ∀ (zs : List V) (P' : Pr), (∀ z ∈ zs, z ∈ vs) → Reps X.K (upd H p (.lst ys)) (zs.map ((fun x => D.tup (x.map D.int)) ∘ keyV H)) P' zs := fun zs P' => by
              induction zs with
              | nil => intro _; exact Reps.nil
              | cons z zs ih =>
                intro hz
                obtain ⟨t, e1, e2⟩ := k2 z (hz z (by simp))
                refine Reps.cons ?_ (ih fun y hy => hz y (by simp [hy]))
                show Rep X.K _ (D.tup ((keyV H z).map D.int)) P' z
                unfold Rep
                exact ⟨t, _, e1, sm _ _ e2, reps_ints _⟩
            exact this ys _ fun z hz => pm.mem_iff.mp hz
        · cases e
      · cases e
  · cases e
end
theorem tups_map : ∀ xs : List (List Int), tupsOf (xs.map fun x => D.tup (x.map D.int)) = some xs
  | [] => rfl
  | x :: xs => by
    simp only [List.map_cons, tupsOf, intTup, ints_map, tups_map xs]
@[simp] theorem d_sortN {xs : List Int} : sortD [.lst (xs.map D.int)] = .ok (.lst ((sortI xs).map D.int)) := by
  show (match intsOf (xs.map .int) with | some ns => R.ok (D.lst ((sortI ns).map D.int)) | none => _) = _
  rw [ints_map]
theorem sortD_tups {x : List Int} {xs : List (List Int)} (h : sortOk (x :: xs) = true) : sortD [.lst ((x :: xs).map fun x => D.tup (x.map D.int))] = .ok (.lst ((sortL (x :: xs)).map fun x => D.tup (x.map D.int))) := by
  have e : intsOf ((x :: xs).map fun x => D.tup (x.map D.int)) = none := rfl
  have e2 : strsOf ((x :: xs).map fun x => D.tup (x.map D.int)) = none := rfl
  unfold sortD
  simp only [e, e2, tups_map, h, if_true]
theorem strs_map : ∀ xs : List Str, strsOf (xs.map .str) = some xs
  | [] => rfl
  | x :: xs => by simp [strsOf, strs_map xs]
theorem d_sortSt {xs : List Str} : sortD [.lst (xs.map D.str)] = .ok (.lst ((sortS xs).map D.str)) := by
  cases xs with
  | nil =>
    have e1 : sortI [] = [] := by simp [sortI]
    have e2 : sortS [] = [] := by simp [sortS]
    show R.ok (D.lst ((sortI []).map D.int)) = _
    rw [e1, e2]; rfl
  | cons x xs =>
    have e : intsOf ((x :: xs).map D.str) = none := rfl
    have e2 : strsOf ((x :: xs).map D.str) = some (x :: xs) := strs_map _
    unfold sortD
    simp only [e, e2]
end Y

set_option Elab.async false
set_option linter.all false
set_option maxRecDepth 100000
namespace Y
open PySem PySem.Spec PyProof.Rows L2
/-! ### while -/
def whileN (t : BM) (body : SM) (vs : List Nat) : Nat → Y.Env → R (Fl × Y.Env)
  | 0, _ => .stk
  | n + 1, ρ => do
    let (k, ρ1) ← t ρ
    if k = true then do
      let (f, ρ2) ← body ρ1
      match f with
      | .bk => pure (.nx, ρ2)
      | .rt h => pure (.rt h, ρ2)
      | _ => whileN t body vs n (wipeE ρ2 vs)
    else pure (.nx, ρ1)
open Classical in
noncomputable def sWhile (t : BM) (body : SM) (vs : List Nat) : SM := fun ρ => if h : ∃ n, whileN t body vs n ρ ≠ .stk then whileN t body vs h.choose ρ else .stk
theorem whileN_up {t : BM} {body : SM} {vs : List Nat} : ∀ {n : Nat} {ρ : Y.Env}, whileN t body vs n ρ ≠ .stk → whileN t body vs (n + 1) ρ = whileN t body vs n ρ
  | 0, ρ, h => absurd rfl h
  | n + 1, ρ, h => by
    unfold whileN at h
    conv => lhs; unfold whileN
    conv => rhs; unfold whileN
    cases e : t ρ with
    | stk => rfl
    | er c ds => rfl
    | ok p =>
      obtain ⟨k, ρ1⟩ := p
      rw [e] at h
      simp only [R.bind_ok] at h ⊢
      cases k with
      | false => rfl
      | true =>
        simp only [if_true] at h ⊢
        cases e2 : body ρ1 with
        | stk => rfl
        | er c ds => rfl
        | ok q =>
          obtain ⟨f, ρ2⟩ := q
          rw [e2] at h
          simp only [R.bind_ok] at h ⊢
          cases f with
          | bk => rfl
          | rt _ => rfl
          | nx => exact whileN_up h
          | ct => exact whileN_up h
theorem whileN_le {t : BM} {body : SM} {vs : List Nat} {n : Nat} {ρ : Y.Env} (h : whileN t body vs n ρ ≠ .stk) : ∀ m, whileN t body vs (n + m) ρ = whileN t body vs n ρ
  | 0 => rfl
  | m + 1 => by
    have ih := whileN_le h m
    rw [← Nat.add_assoc, whileN_up (by rw [ih]; exact h), ih]
/-- a run of so many turns tells what the loop yields -/
theorem sWhile_of {t : BM} {body : SM} {vs : List Nat} {n : Nat} {ρ : Y.Env} {a : Fl × Y.Env} (h : whileN t body vs n ρ = .ok a) : sWhile t body vs ρ = .ok a := by
  have hx : ∃ n, whileN t body vs n ρ ≠ .stk := ⟨n, by rw [h]; intro z; cases z⟩
  unfold sWhile
  rw [dif_pos hx]
  have h2 := hx.choose_spec
  rcases Nat.le_total n hx.choose with l | l
  · obtain ⟨m, e⟩ := Nat.exists_eq_add_of_le l
    rw [e, whileN_le (by rw [h]; intro z; cases z), h]
  · obtain ⟨m, e⟩ := Nat.exists_eq_add_of_le l
    rw [← whileN_le h2 m, ← e, h]
section
variable {X : Cx} {P0 : Pr} {O W U : List Nat} {E : EK} {c : Expr} {pos : Pos} {m : SM}
theorem cs_while {t : BM} {vs : List Nat} {xs : List Stmt} (hp : PassesOwn (model X.prog X.w) X.A X.env X.xe) (hc : CT X P0 O W E c t) (hb : CSs X P0 O W U E xs m) : CS X P0 O W U E (.While c xs [] pos) (sWhile t m vs) := PS.imp (ps_while hp hc hb) fun D σ H ⟨ρ, S, h⟩ => by
  let Post : Fl × Y.Env → Prop := fun a => ∀ σ' H', Sim X.K P0 O W a.2 σ' H' → Tr O U σ H σ' H' → σ'.length = σ.length → Fin X.K P0 O H D σ' H' a.1
  have h : Res E O σ H (sWhile t m vs ρ) Post := h
  unfold sWhile at h
  by_cases hx : ∃ n, whileN t m vs n ρ ≠ .stk
  · rw [dif_pos hx] at h
    refine ⟨fun k σx Hx => ∃ ρx, Sim X.K P0 O W ρx σx Hx ∧ Tr O U σ H σx Hx ∧ σx.length = σ.length ∧ Res E O σx Hx (whileN t m vs k ρx) Post, ⟨_, ρ, S, .refl, rfl, h⟩, ?_⟩
    rintro k σx Hx ⟨ρx, Sx, tx, lx, qx⟩
    cases k with
    | zero => exact qx.elim
    | succ k =>
      unfold whileN at qx
      refine ⟨ρx, Sx, (qx.of_bind.down Sx.sub).mono fun ⟨b, ρ1⟩ q1 H1 S1 k1 => ?_⟩
      have t1 : Tr O U σx Hx σx H1 := Tr.of Sx.sub k1
      cases b with
      | false =>
        refine (if_neg Bool.false_ne_true).mpr ?_
        exact q1 σx H1 S1 (tx.trans t1) lx
      | true =>
        refine (if_pos rfl).mpr ⟨fun σ' H' => ∃ ρ', Sim X.K P0 O W ρ' σ' H' ∧ Tr O U σ H σ' H' ∧ σ'.length = σ.length ∧ Res E O σ' H' (whileN t m vs k ρ') Post, fun σ' H' n => ⟨k, Nat.lt_succ_self k, n⟩, ρ1, S1, ?_⟩
        have q1 : Res E O σx Hx (m ρ1 >>= fun p => match p.1 with | .bk => pure (.nx, p.2) | .rt h => pure (.rt h, p.2) | _ => whileN t m vs k (wipeE p.2 vs)) Post := q1
        refine (Res.keepT q1.of_bind t1).mono fun ⟨f, ρ2⟩ q2 σ3 H3 S3 t3 l3 => ?_
        have t4 : Tr O U σx Hx σ3 H3 := t1.trans t3
        have t5 : Tr O U σ H σ3 H3 := tx.trans t4
        have l5 : σ3.length = σ.length := l3.trans lx
        cases f with
        | nx => exact ⟨wipeE ρ2 vs, S3.wipe vs, t5, l5, Res.keepT q2 t4⟩
        | ct => exact ⟨wipeE ρ2 vs, S3.wipe vs, t5, l5, Res.keepT q2 t4⟩
        | bk => exact q2 σ3 H3 S3 t5 l5
        | rt hd =>
          intro v r
          exact q2 σ3 H3 S3 t5 l5 v (r.back fun b e => (tx.trans t1).some b e)
  · rw [dif_neg hx] at h
    exact h.elim
end
end Y

set_option Elab.async false
set_option linter.all false
set_option maxRecDepth 100000
namespace Y
open PySem PySem.Spec PyProof.Rows L2
section
variable {X : Cx} {P0 : Pr} {O W U : List Nat} {E : EK} {a e : Expr} {ma mb : EM} {pos : Pos}
/-! ### a module's numbers, texts -/
theorem ce_globI {x : Str} {i : Int} (h : ∃ t, X.mg x = some (.int i t)) (hg : Gl X x := by rfl) (hd : (x == ("__debug__" : Str)) = false := by decide) : CEx X P0 O W E (.Name x pos) (cC (.int i)) :=
  h.elim fun t ht => ce_glob (v := .int i) (fun _ _ => by unfold Rep; rfl) rfl ⟨t, rfl⟩ ht hg hd
theorem ce_globS {x : Str} {i : Str} (h : ∃ t, X.mg x = some (.str i t)) (hg : Gl X x := by rfl) (hd : (x == ("__debug__" : Str)) = false := by decide) : CEx X P0 O W E (.Name x pos) (cC (.str i)) :=
  h.elim fun t ht => ce_glob (v := .str i) (fun _ _ => by unfold Rep; rfl) rfl ⟨t, rfl⟩ ht hg hd
/-! ### s.join(xs) -/
def joinD : D → D → R D
  | .str a, .lst ds => match strsOf ds with
    | some ys => if (ys.map (·.length)).sum + ys.length * a.length ≤ 16777216 then .ok (.str (Txt.join a ys)) else .stk
    | none => .stk
  | .str a, .tup ds => match strsOf ds with
    | some ys => if (ys.map (·.length)).sum + ys.length * a.length ≤ 16777216 then .ok (.str (Txt.join a ys)) else .stk
    | none => .stk
  | _, _ => .stk
def cJoin (a b : EM) : EM := fun ρ => do
  let (h1, ρ1) ← a ρ
  let x ← h1.v.nox
  match x with
  | .str s => do
    let (h2, ρ2) ← b ρ1
    let y ← (h2.d ρ2).nox
    let z ← (joinD (.str s) y).nox
    pure (.fr z, ρ2)
  | _ => .stk
theorem ce_join {apos : Pos} (ha : CEx X P0 O W E a ma) (hb : CEx X P0 O W E e mb) (hs : starEach [e] X.env = [(false, eval e X.env)] := by rfl) (hbase : attributeBase a "join" X.env (eval a X.env) = eval a X.env := by rfl) (hline : (apos.endLine == pos.line) = true := by rfl) :
    CEx X P0 O W E (.Call (.Attribute a "join" apos) [e] [] pos) (cJoin ma mb) := PE.imp (pe_join ha hb hs hbase hline) fun σ H Q ⟨ρ, S, h⟩ => by
  refine ⟨ρ, S, h.of_bind.mono fun ⟨h1, ρ1⟩ q v H1 S1 k1 r1 => ?_⟩
  obtain ⟨d, e1, q⟩ := q.of_nox
  have rd := r1.v e1
  cases d <;> first | (exact q.elim) | skip
  rename_i s
  unfold Rep at rd
  subst rd
  have q : Res E W σ H (mb ρ1 >>= fun p => (p.1.d p.2).nox >>= fun y => (joinD (.str s) y).nox >>= fun z => R.ok (Hd.fr z, p.2)) _ := q
  refine ⟨⟨s, rfl⟩, ρ1, S1, (q.of_bind.keep k1).mono fun ⟨h2, ρ2⟩ q2 w H2 S2 k2 r2 => ?_⟩
  obtain ⟨y, e2, q2⟩ := q2.of_nox
  obtain ⟨z, e3, q2⟩ := q2.of_nox
  have rw2 := HdR.d S2 r2 e2
  have o := out_of (K := X.K) S2 (k1.trans k2) q2
  unfold joinD at e3
  cases y <;> first | (cases e3; done) | skip
  · rename_i ds
    have rt : Rep X.K H2 (.tup ds) _ w := rw2
    unfold Rep at rt
    obtain ⟨b, ws, rfl, t1, t2⟩ := rt
    simp only at e3
    cases es : strsOf ds with
    | none => rw [es] at e3; cases e3
    | some ys =>
      rw [es] at e3
      simp only at e3
      by_cases c : (ys.map (·.length)).sum + ys.length * s.length ≤ 16777216
      · rw [if_pos c] at e3
        cases e3
        rw [strs_rep es t2] at t1
        exact ⟨s, b, ys, rfl, rfl, .inr (SqT.of t1), c, o.flat (by unfold Rep; rfl) rfl⟩
      · rw [if_neg c] at e3; cases e3
  · rename_i ds
    obtain ⟨b, ws, rfl, t1, t2⟩ := rw2
    simp only at e3
    cases es : strsOf ds with
    | none => rw [es] at e3; cases e3
    | some ys =>
      rw [es] at e3
      simp only at e3
      by_cases c : (ys.map (·.length)).sum + ys.length * s.length ≤ 16777216
      · rw [if_pos c] at e3
        cases e3
        rw [strs_rep es t2] at t1
        exact ⟨s, b, ys, rfl, rfl, .inl (SqL.of t1), c, o.flat (by unfold Rep; rfl) rfl⟩
      · rw [if_neg c] at e3; cases e3
end
end Y

set_option Elab.async false
set_option linter.all false
set_option maxRecDepth 100000
namespace Y
open PySem PySem.Spec PyProof.Rows L2
/-! ### x += e, whole numbers, x no own slot -/
def intAt (i : Nat) (ρ : Y.Env) : R Int := match ρ[i]? with
  | some (some (.int n)) => .ok n
  | _ => .stk
theorem intAt_ok {i : Nat} {ρ : Y.Env} {n : Int} (h : intAt i ρ = .ok n) : ρ[i]? = some (some (.int n)) := by
  unfold intAt at h
  split at h
  · rename_i e; cases h; exact e
  · cases h
def sAug (f : Int → Int → Int) (i : Nat) (m : EM) : SM := fun ρ => do
  let n ← (intAt i ρ).nox
  let (h, ρ1) ← m ρ
  let d ← h.v.nox
  match d with
  | .int k => pure (.nx, ρ1.set i (some (.int (f n k))))
  | _ => .stk
section
variable {X : Cx} {P0 : Pr} {O W U : List Nat} {E : EK} {e : Expr} {ma : EM} {pos : Pos}
theorem cs_aug {op : Operator} {f : Int → Int → Int} {i : Nat} {x : Str} {p : Pos} (hN : X.N.Nodup) (hp : PIp X op (ipI f)) (h : CEx X P0 O W E e ma) (ho : i ∉ O := by decide) (hu : ∀ i ∈ U, i ∈ O := by decide) (hi : X.N[i]? = some x := by rfl) (hx : Loc X.env.scope x := by first | exact Or.inl rfl | exact Or.inr rfl)
    (hf : X.fn x = true ∨ X.env.scope.names.lookup x = some .local := by first | exact .inl rfl | exact .inr rfl) : CS X P0 O W U E (.AugAssign (.Name x p) op e pos) (sAug f i ma) := PS.imp (ps_aug hN hi hx h hp hf) fun D σ H ⟨ρ, S, h⟩ => by
  obtain ⟨n, e0, h⟩ := h.of_nox
  obtain ⟨v0, g1, g2⟩ := S.val i _ (intAt_ok e0) ho
  unfold Rep at g2
  subst g2
  refine ⟨_, g1, ρ, S, (h.of_bind.down S.sub).mono fun ⟨hd, ρ1⟩ q v H1 S1 k1 r1 => ?_⟩
  obtain ⟨d, e1, q⟩ := q.of_nox
  have rd := r1.v e1
  cases d <;> first | (exact q.elim) | skip
  rename_i k
  unfold Rep at rd
  subst rd
  refine ⟨n, k, rfl, rfl, ?_⟩
  exact q _ H1 (S1.set ho (by unfold Rep; rfl)) ((Tr.of S.sub k1).trans (Tr.slots (is := [i]) (by simpa using ho) hu fun j hj => List.getElem?_set_ne fun z => hj (by simp [z]))) (by simp)
end
variable {ρ : Y.Env}
@[simp] theorem e_aug {f : Int → Int → Int} {i : Nat} {m : EM} : sAug f i m ρ = ((intAt i ρ).nox >>= fun n => m ρ >>= fun p => p.1.v.nox >>= fun d => match d with | .int k => R.ok (.nx, p.2.set i (some (.int (f n k)))) | _ => .stk) := by
  unfold sAug; congr
@[simp] theorem e_iat {i : Nat} : intAt i ρ = (match ρ[i]? with | some (some (.int n)) => .ok n | _ => .stk) := id rfl
end Y

set_option Elab.async false
set_option linter.all false
set_option maxRecDepth 100000
namespace Y
open PySem PySem.Spec PyProof.Rows L2
/-! ### max, min of a list of whole numbers -/
def maxI : Int → List Int → Int
  | n, [] => n
  | n, m :: ms => maxI (max n m) ms
def minI : Int → List Int → Int
  | n, [] => n
  | n, m :: ms => minI (min n m) ms
theorem maxI_mem : ∀ {ms : List Int} {n : Int}, maxI n ms ∈ n :: ms
  | [], n => by simp [maxI]
  | m :: ms, n => by
    have := maxI_mem (ms := ms) (n := max n m)
    rcases List.mem_cons.mp this with e | h
    · rw [maxI, e]
      rcases Int.le_total n m with l | l
      · rw [Int.max_eq_right l]; simp
      · rw [Int.max_eq_left l]; simp
    · rw [maxI]; simp [h]
theorem maxI_le : ∀ {ms : List Int} {n y : Int}, y ∈ n :: ms → y ≤ maxI n ms
  | [], n, y, h => by simp at h; simp [maxI, h]
  | m :: ms, n, y, h => by
    rw [maxI]
    rcases List.mem_cons.mp h with e | h
    · exact Int.le_trans (by rw [e]; exact Int.le_max_left n m) (maxI_le (ms := ms) (n := max n m) (y := max n m) (by simp))
    · rcases List.mem_cons.mp h with e | h
      · exact Int.le_trans (by rw [e]; exact Int.le_max_right n m) (maxI_le (ms := ms) (n := max n m) (y := max n m) (by simp))
      · exact maxI_le (by simp [h])
theorem minI_mem : ∀ {ms : List Int} {n : Int}, minI n ms ∈ n :: ms
  | [], n => by simp [minI]
  | m :: ms, n => by
    have := minI_mem (ms := ms) (n := min n m)
    rcases List.mem_cons.mp this with e | h
    · rw [minI, e]
      rcases Int.le_total n m with l | l
      · rw [Int.min_eq_left l]; simp
      · rw [Int.min_eq_right l]; simp
    · rw [minI]; simp [h]
theorem minI_le : ∀ {ms : List Int} {n y : Int}, y ∈ n :: ms → minI n ms ≤ y
  | [], n, y, h => by simp at h; simp [minI, h]
  | m :: ms, n, y, h => by
    rw [minI]
    rcases List.mem_cons.mp h with e | h
    · exact Int.le_trans (minI_le (ms := ms) (n := min n m) (y := min n m) (by simp)) (by rw [e]; exact Int.min_le_left n m)
    · rcases List.mem_cons.mp h with e | h
      · exact Int.le_trans (minI_le (ms := ms) (n := min n m) (y := min n m) (by simp)) (by rw [e]; exact Int.min_le_right n m)
      · exact minI_le (by simp [h])
def maxLD : List D → R D
  | [.lst ds] => match intsOf ds with
    | some (n :: ms) => .ok (.int (maxI n ms))
    | _ => .stk
  | _ => .stk
def minLD : List D → R D
  | [.lst ds] => match intsOf ds with
    | some (n :: ms) => .ok (.int (minI n ms))
    | _ => .stk
  | _ => .stk
section
variable {X : Cx}
theorem cd_maxL (hc : X.calm = true) : CallR X (.builtin "max") (rDs X.K maxLD) := by
  intro pins s σ H xs us Q I r ⟨P, ds, dz, hm, rs, e, out⟩
  unfold maxLD at e
  split at e
  · split at e
    · rename_i n ms ei
      cases e
      obtain ⟨v, rfl, r1⟩ := rs.get1
      obtain ⟨a, vs, rfl, h1, h2⟩ := r1.lst
      rw [ints_rep ei h2] at h1
      refine cr_max hc pins s σ H _ us Q I r ⟨a, n :: ms, rfl, SqL.of h1, by simp, fun m hm' hb => ?_⟩
      rw [show m = maxI n ms from Int.le_antisymm (maxI_le hm') (hb _ maxI_mem)]
      exact out.int
    · cases e
  · cases e
theorem cd_minL (hc : X.calm = true) : CallR X (.builtin "min") (rDs X.K minLD) := by
  intro pins s σ H xs us Q I r ⟨P, ds, dz, hm, rs, e, out⟩
  unfold minLD at e
  split at e
  · split at e
    · rename_i n ms ei
      cases e
      obtain ⟨v, rfl, r1⟩ := rs.get1
      obtain ⟨a, vs, rfl, h1, h2⟩ := r1.lst
      rw [ints_rep ei h2] at h1
      refine cr_min hc pins s σ H _ us Q I r ⟨a, n :: ms, rfl, SqL.of h1, by simp, fun m hm' hb => ?_⟩
      rw [show m = minI n ms from Int.le_antisymm (hb _ minI_mem) (minI_le hm')]
      exact out.int
    · cases e
  · cases e
end
theorem d_maxL {n : Int} {ms : List Int} : maxLD [.lst ((n :: ms).map D.int)] = .ok (.int (maxI n ms)) := by
  show (match intsOf ((n :: ms).map .int) with | some (n :: ms) => R.ok (D.int (maxI n ms)) | _ => .stk) = _
  rw [ints_map]
theorem d_minL {n : Int} {ms : List Int} : minLD [.lst ((n :: ms).map D.int)] = .ok (.int (minI n ms)) := by
  show (match intsOf ((n :: ms).map .int) with | some (n :: ms) => R.ok (D.int (minI n ms)) | _ => .stk) = _
  rw [ints_map]
end Y

set_option Elab.async false
set_option linter.all false
set_option maxRecDepth 100000
namespace Y
open PySem PySem.Spec PyProof.Rows L2
/-! ### x.extend(t), t a tuple -/
theorem extT_meets (l b : Addr) (xs ys : Array Value) (n k : Nat) (dd : Option Addr) (sl : Array (Option Value)) (c0 : ¬ (!xs.isEmpty && Builtin.List.listTooLong (xs.size + ys.size)) = true) (c1 : xs.size ≤ sizeLine) (c2 : xs.size + ys.size ≤ sizeLine + 1) :
    Meets (Builtin.«list.extend» ⟨[.ref l, .ref b], []⟩) (fun _ R s => s.heap.get? l = some { cls := .type "list", dict := none, data := .seq xs n, slots := #[] } ∧ s.heap.get? b = some { cls := .type "tuple", dict := dd, data := .seq ys k, slots := sl } ∧
      R (.ok (.ret Value.none)) { s with heap := s.heap.update l (Obj.mapSeq fun x => x ++ ys), toks := s.toks }) :=
  .of_wp fun prog w A R s ⟨hl, hb, done⟩ => by
    obtain ⟨hp, g, d, tk, os⟩ := s
    have g1 := AutoSeq1.idx_int
    have g2 := AutoSeq1.sub_tuple_tuple
    have g3 := AutoSeq1.sub_list_list
    have g4 := AutoSeq1.sub_tuple_list
    have g5 := AutoSeq1.sub_list_tuple
    have z : (xs ++ ys).size ≤ sizeLine + 1 := by
      rw [Array.size_append]
      exact c2
    wp_walk using (wpAny_updateSeq hl rfl (hz := c1) (_hz' := z)), wpAny_loadPart' hl, wpAny_loadPart' hb
    exact ⟨_, rfl, done⟩
def rExtendT (K : PySem.W.Frag) : V → List V → Hp → VK → Prop := fun x vs H Q => ∃ l b xs zs, x = .ref l ∧ vs = [.ref b] ∧ H l = some (.lst xs) ∧ SqT K H b zs ∧ xs.length + zs.length ≤ sizeLine ∧ Q .non (upd H l (.lst (xs ++ zs)))
theorem mt_extendT {X : Cx} : MtR X "list.extend" (rExtendT X.K) := by
  intro pins s σ H x vs v us Q I rx rv ⟨l, b, xs, zs, ex, ev, hH, hB, hz, q⟩
  subst ex ev
  cases rx
  obtain ⟨u, rfl, ru⟩ := rv.one
  cases ru
  obtain ⟨z, its, n, r, hl, e⟩ := I.lstM hH
  obtain ⟨its2, r2, ⟨o, e2, ec, k, ed⟩, _⟩ := I.tuple hB
  obtain ⟨cls, dd, data, sl⟩ := o
  simp only at ec ed
  subst ec ed
  have l2 := r2.length
  have sz : its.toArray.size + its2.toArray.size ≤ sizeLine := by simp; omega
  refine call_meets F.slot_list_extend ⟨_, e, rfl⟩ F.entry_list_extend (F.args_list_extend_2 _ _) (extT_meets l b its.toArray its2.toArray n k dd sl (by rw [notLongL sz]; simp) (by simp; omega) (by omega)) ⟨e, e2, ?_⟩
  exact ⟨.non, _, I.lset (its' := its ++ its2) hH e (by simp) (r.append r2) (by rw [List.length_append]; omega), rfl, q⟩
def sExt (i : Nat) (m : EM) : SM := fun ρ => do
  let _ ← (lstAt i ρ).nox
  let (h, ρ1) ← m ρ
  let d ← (h.d ρ1).nox
  let ds ← (lstAt i ρ1).nox
  match d with
  | .lst es => if szOk (ds.length + es.length) = true then pure (.nx, ρ1.set i (some (.lst (ds ++ es)))) else .stk
  | .tup es => if szOk (ds.length + es.length) = true then pure (.nx, ρ1.set i (some (.lst (ds ++ es)))) else .stk
  | _ => .stk
section
variable {K : PySem.W.Frag} {X : Cx} {P0 : Pr} {O W U : List Nat} {E : EK} {e : Expr} {ma : EM} {pos : Pos}
def rExtA (K : PySem.W.Frag) : V → List V → Hp → VK → Prop := fun x vs H Q => rExtend x vs H Q ∨ rExtendT K x vs H Q
theorem mt_extA : MtR X "list.extend" (rExtA X.K) := fun pins s σ H x vs v us Q I rx rv h => h.elim (mt_extend pins s σ H x vs v us Q I rx rv) (mt_extendT pins s σ H x vs v us Q I rx rv)
theorem tM_ext {i : Nat} (hi : i ∈ O) (D : Ends) (σ : St) (H : Hp) (h : tSt K P0 O W U E (sExt i ma) D σ H) : tDrop (tBM K "list" (rExtA K) (tVar i) (tCons (tM K P0 O W E ma) tNil)) D σ H := by
  obtain ⟨ρ, S, h⟩ := h
  obtain ⟨ds0, e0, h⟩ := h.of_nox
  obtain ⟨l, vs0, h1, h2, _⟩ := S.lst hi (lstAt_ok e0)
  refine ⟨.ref l, h1, .inl ⟨rfl, _, SqL.of h2⟩, ρ, S, (h.of_bind.down S.sub).mono fun ⟨hd, ρ1⟩ q v H1 S1 k1 r1 => ?_⟩
  obtain ⟨d, e1, q⟩ := q.of_nox
  obtain ⟨ds, e2, q⟩ := q.of_nox
  obtain ⟨l', vs, h1', h3, h4⟩ := S1.lst hi (lstAt_ok e2)
  rw [h1] at h1'
  cases h1'
  have rd := HdR.d S1 r1 e1
  cases d <;> first | (exact q.elim) | skip
  · rename_i es _
    have rd : Rep K H1 (.tup es) (FA P0 O σ) v := rd
    unfold Rep at rd
    obtain ⟨b, ws, rfl, h5, h6⟩ := rd
    have q : Res E O σ H (if szOk (ds.length + es.length) = true then R.ok (Fl.nx, ρ1.set i (some (.lst (ds ++ es)))) else .stk) _ := q
    by_cases c : szOk (ds.length + es.length) = true
    · rw [if_pos c] at q
      have c := of_decide_eq_true c
      exact .inr ⟨l, b, vs, ws, rfl, rfl, h3, SqT.of h5, by rw [h4.length, h6.length]; omega, q σ _ (S1.lstW hi h1 h3 (h4.append h6)) (Tr.ownW S.sub k1 hi h1) rfl⟩
    · rw [if_neg c] at q
      exact q.elim
  · rename_i es _
    obtain ⟨b, ws, rfl, h5, h6⟩ := rd
    have q : Res E O σ H (if szOk (ds.length + es.length) = true then R.ok (Fl.nx, ρ1.set i (some (.lst (ds ++ es)))) else .stk) _ := q
    by_cases c : szOk (ds.length + es.length) = true
    · rw [if_pos c] at q
      have c := of_decide_eq_true c
      exact .inl ⟨l, b, vs, ws, rfl, rfl, h3, h5, by rw [h4.length, h6.length]; omega, q σ _ (S1.lstW hi h1 h3 (h4.append h6)) (Tr.ownW S.sub k1 hi h1) rfl⟩
    · rw [if_neg c] at q
      exact q.elim
theorem cs_ext {i : Nat} {x : Str} {p ap cp : Pos} (h : CEx X P0 O W E e ma) (hi : i ∈ O := by decide) (hx : X.N[i]? = some x := by rfl) (hv : Vis X.env.scope x := by first | exact Or.inl rfl | exact Or.inr (Or.inl rfl) | exact Or.inr (Or.inr rfl)) (hd : (x == ("__debug__" : Str)) = false := by decide) (hcd : (x == ("__classdict__" : Str)) = false := by decide)
    (he : starEach [e] X.env = (false, eval e X.env) :: starEach [] X.env := by rfl) (hpl : (backTo cp (starEach [] X.env)).any (·.1) = false := by rfl) (hbase : attributeBase (.Name x p) "extend" X.env (eval (.Name x p) X.env) = eval (.Name x p) X.env := by rfl) (hline : (ap.endLine == cp.line) = true := by rfl)
    (hfew : Few X cp [e] := by rfl) (hsw : swapsWith (.Call (.Attribute (.Name x p) "extend" ap) [e] [] cp) none pos.line X.env = pure false := by rfl) :
    CS X P0 O W U E (.Expr (.Call (.Attribute (.Name x p) "extend" ap) [e] [] cp) pos) (sExt i ma) :=
  PS.imp (ps_expr (pe_bm PySem.F.plainAttrs_list PySem.F.slot_list_extend PySem.F.type_list_extend mt_extA (pe_var (i := i) hx hv hd hcd) (pa_cons h pa_nil he) hbase hfew hline he hpl) hsw) (tM_ext hi)
end
variable {ρ : Y.Env}
@[simp] theorem e_ext {i : Nat} {m : EM} : sExt i m ρ = ((lstAt i ρ).nox >>= fun _ => m ρ >>= fun p => (p.1.d p.2).nox >>= fun d => (lstAt i p.2).nox >>= fun ds => match d with | .lst es => (if szOk (ds.length + es.length) = true then R.ok (.nx, p.2.set i (some (.lst (ds ++ es)))) else .stk) | .tup es => (if szOk (ds.length + es.length) = true then R.ok (.nx, p.2.set i (some (.lst (ds ++ es)))) else .stk) | _ => .stk) := by
  unfold sExt; congr
end Y

set_option Elab.async false
set_option linter.all false
set_option maxRecDepth 100000
namespace Y
open PySem PySem.Spec PyProof.Rows L2
variable {ρ : Y.Env}
@[simp] theorem e_rg1 {l : Bool} {m : EM} : cRg1 l m ρ = (m ρ >>= fun p => p.1.v.nox >>= fun d => match d with | .int n => (if rgB 0 n = true then R.ok (.fr (if l = true then .lst (rgD 0 n) else .tup (rgD 0 n)), p.2) else .stk) | _ => .stk) := by
  unfold cRg1; congr
@[simp] theorem e_pop {i : Nat} : cPop i ρ = ((lstAt i ρ).nox >>= fun ds => match ds[ds.length - 1]? with | some d => R.ok (.vl d, ρ.set i (some (.lst ds.dropLast))) | none => .stk) := by
  unfold cPop; congr
@[simp] theorem e_popAt {i : Nat} {m : EM} : cPopAt i m ρ = ((lstAt i ρ).nox >>= fun _ => m ρ >>= fun p => p.1.v.nox >>= fun d => match d with | .int z => ((lstAt i p.2).nox >>= fun ds => popRes i ds z p.2) | _ => .stk) := by
  unfold cPopAt; congr
@[simp] theorem e_join {a b : EM} : cJoin a b ρ = (a ρ >>= fun p => p.1.v.nox >>= fun x => match x with | .str s => (b p.2 >>= fun q => (q.1.d q.2).nox >>= fun y => (joinD (.str s) y).nox >>= fun z => R.ok (.fr z, q.2)) | _ => .stk) := by
  unfold cJoin; congr
theorem rgB_of {n : Nat} (h : n ≤ 16777216) : rgB 0 n = true := by
  unfold rgB
  rw [rngOk_of (by omega) (by omega), rngOk_of (by omega) (by omega)]
  simp; omega
theorem rgD_nat {n : Nat} : rgD 0 n = (List.range n).map fun k : Nat => D.int (k : Nat) := by unfold rgD; simp
end Y

set_option Elab.async false
set_option linter.all false
set_option maxRecDepth 100000
namespace Y
open PySem PySem.Spec PyProof.Rows L2
/-! ### zip, enumerate over lists, tuples, texts -/
inductive Kd where
  | l (a : Addr) | t (a : Addr) | s (z : Str)
def strV (z : Str) : List V := z.cps.toList.map fun c => V.str ⟨#[c]⟩
def Kd.has (K : PySem.W.Frag) (H : Hp) : Kd → List V → Prop
  | .l a, xs => SqL K H a xs
  | .t a, xs => SqT K H a xs
  | .s z, xs => xs = strV z
def Kd.val : Kd → V
  | .l a => .ref a
  | .t a => .ref a
  | .s z => .str z
def Kd.lo : Kd → Nat → Prop
  | .l a, n => a < n
  | .t a, n => a < n
  | .s _, _ => True
/-- the iterator it over it, i items told -/
def Kd.at (it : Addr) (tk : Tok) : Kd → Nat → Heap → Prop
  | .l a, i, h => h.IsListIter it a i
  | .t a, i, h => h.IsTupleIter it a i
  | .s z, i, h => h.IsStrIter it (strIterType z) z tk i
theorem Kd.at_ob {k : Kd} {it : Addr} {tk : Tok} {i : Nat} {h : Heap} (x : k.at it tk i h) : ∃ o, h.get? it = some o ∧ ∀ v, o.data ≠ .cell v := by
  cases k with
  | l a => obtain ⟨o, e, _, d⟩ := x; exact ⟨o, e, fun v q => by rw [d] at q; cases q⟩
  | t a => obtain ⟨o, e, _, d⟩ := x; exact ⟨o, e, fun v q => by rw [d] at q; cases q⟩
  | s z => obtain ⟨o, e, _, d⟩ := x; exact ⟨o, e, fun v q => by rw [d] at q; cases q⟩
theorem Kd.at_k {k : Kd} {it : Addr} {tk : Tok} {i : Nat} {h h' : Heap} (x : k.at it tk i h) (q : ∀ o, h.get? it = some o → h'.get? it = some o) : k.at it tk i h' := by
  cases k with
  | l a => obtain ⟨o, e, r⟩ := x; exact ⟨o, q o e, r⟩
  | t a => obtain ⟨o, e, r⟩ := x; exact ⟨o, q o e, r⟩
  | s z => obtain ⟨o, e, r⟩ := x; exact ⟨o, q o e, r⟩
theorem vals_at : ∀ {xs : List V} {us : List Value} {j : Nat} {u : Value}, Vals xs us → us[j]? = some u → ∃ x, xs[j]? = some x ∧ RelV x u
  | _, _, _, _, .nil, e => by simp at e
  | x :: xs, _, 0, _, .cons r _, e => by simp at e; subst e; exact ⟨x, rfl, r⟩
  | x :: xs, _, j + 1, _, .cons _ t, e => by simpa using vals_at (j := j) t (by simpa using e)
section
variable {X : Cx} {pins : List (Addr × Obj)} {σ : St} {H : Hp} {s : Shared}
theorem Kd.inj {k : Kd} {xs ys : List V} (I : Inv X pins σ H s) (h : k.has X.K H xs) (h2 : k.has X.K H ys) : xs = ys := by
  cases k with
  | l a => exact I.list_inj h h2
  | t a => exact I.tuple_inj h h2
  | s z => exact Eq.trans h (Eq.symm h2)
/-- what an iterator over it draws -/
structure Kd.Drw (X : Cx) (A : Around) (k : Kd) (it : Addr) (tk : Tok) (xs : List V) (fp : List Addr) (P : Nat → Value → Prop) (S : Nat → Heap → Prop) : Prop where
  dr : Draws X.prog X.w A it fp xs.length P S
  mem : it ∈ fp
  lo : ∀ b ∈ fp, b = it ∨ ∃ a, b = a ∧ (k = .l a ∨ k = .t a)
  back : ∀ j h, S j h → k.at it tk j h
  item : ∀ j v, P j v → ∃ x, xs[j]? = some x ∧ RelV x v
theorem Kd.draw {A : Around} {k : Kd} {it : Addr} {tk : Tok} {i : Nat} {xs : List V} (hh : A.handled = none) (I : Inv X pins σ H s) (h : k.has X.K H xs) (lo : ∀ a, k = .l a ∨ k = .t a → a ≠ it) (st : k.at it tk i s.heap) : ∃ fp P S, Kd.Drw X A k it tk xs fp P S ∧ S i s.heap := by
  cases k with
  | l a =>
    obtain ⟨its, rv, p, _⟩ := I.list h
    have hl : its.toArray.size = xs.length := by simp [rv.length]
    have D := Draws.list (prog := X.prog) (w := X.w) hh it a (lo a (.inl rfl)) its.toArray
    rw [hl] at D
    exact ⟨_, _, _, ⟨D, by simp, fun b hb => by simpa [eq_comm] using hb, fun j h z => z.1, fun j v z => by
      rw [List.getElem?_toArray] at z
      exact vals_at rv z⟩, st, p.isList⟩
  | t a =>
    obtain ⟨its, rv, p, _⟩ := I.tuple h
    have hl : its.toArray.size = xs.length := by simp [rv.length]
    have D := Draws.tuple (prog := X.prog) (w := X.w) hh it a (lo a (.inr rfl)) its.toArray
    rw [hl] at D
    exact ⟨_, _, _, ⟨D, by simp, fun b hb => by simpa [eq_comm] using hb, fun j h z => z.1, fun j v z => by
      rw [List.getElem?_toArray] at z
      exact vals_at rv z⟩, st, p⟩
  | s z =>
    have h : xs = strV z := h
    have hl : z.cps.size = xs.length := by rw [h]; simp [strV]
    have D := Draws.text (prog := X.prog) (w := X.w) hh it z tk
    rw [hl] at D
    exact ⟨_, _, _, ⟨D, by simp, fun b hb => .inl (by simpa using hb), fun j h z => z, fun j v ⟨c, u, e1, e2⟩ => by
      refine ⟨.str ⟨#[c]⟩, ?_, u, e2⟩
      rw [h, strV, List.getElem?_map, Array.getElem?_toList, e1]
      rfl⟩, st⟩
end
theorem ad {a b : Nat} (h : ¬ a = b) : @Ne Addr a b := h
def ItzG (K : PySem.W.Frag) (k1 k2 : Kd) : It :=
  ⟨fun i H => ∃ xs ys x y, k1.has K H xs ∧ k2.has K H ys ∧ xs[i]? = some x ∧ ys[i]? = some y,
    fun i H v H' => ∃ T x y, v = .ref T ∧ H T = none ∧ H' = upd H T (.tup [x, y]) ∧ (∀ xs, k1.has K H xs → xs[i]? = some x) ∧ ∀ ys, k2.has K H ys → ys[i]? = some y,
    fun i H => ∃ xs ys, k1.has K H xs ∧ k2.has K H ys ∧ i = min xs.length ys.length⟩
/-- five cells that lie apart, from n on -/
structure Cells5 (n : Nat) (k1 k2 : Kd) : Prop where
  lo1 : k1.lo n
  lo2 : k2.lo n
theorem Kd.lo_ne {k : Kd} {n : Nat} (h : k.lo n) (a : Nat) (e : k = .l a ∨ k = .t a) : a < n := by
  rcases e with rfl | rfl <;> exact h
abbrev fp5 (n : Nat) : List Addr := [n + 4, n + 2, n + 3, n, n + 1]
theorem fp5_cases {n b : Nat} (h : b ∈ fp5 n) : b = n + 4 ∨ b = n + 2 ∨ b = n + 3 ∨ b = n ∨ b = n + 1 := by simpa using h
def tnZ (n : Nat) (t1 t2 : Tok) (k1 k2 : Kd) (i : Nat) (h : Heap) : Prop :=
  IsZip h (n + 4) (n + 2) (n + 3) .none ∧ IsTupOf2 h (n + 2) (.ref n) (.ref (n + 1)) ∧ (∃ x y, IsTupOf2 h (n + 3) x y) ∧ k1.at n t1 i h ∧ k2.at (n + 1) t2 i h
theorem sep5 {X : Cx} {A : Around} {k1 k2 : Kd} {n : Nat} {t1 t2 : Tok} {xs ys : List V} {fp1 fp2 : List Addr} {P1 P2 : Nat → Value → Prop} {S1 S2 : Nat → Heap → Prop} (c : Cells5 n k1 k2)
    (d1 : Kd.Drw X A k1 n t1 xs fp1 P1 S1) (d2 : Kd.Drw X A k2 (n + 1) t2 ys fp2 P2 S2) : ZipSep2 (n + 4) (n + 2) (n + 3) n (n + 1) fp1 fp2 := by
  have o1 : ∀ b : Nat, b ∈ fp1 → b ≤ n := fun b hb => by
    rcases d1.lo b hb with rfl | ⟨a, rfl, e⟩
    · exact Nat.le_refl _
    · exact Nat.le_of_lt (Kd.lo_ne c.lo1 _ e)
  have o2 : ∀ b : Nat, b ∈ fp2 → b = n + 1 ∨ b < n := fun b hb => by
    rcases d2.lo b hb with rfl | ⟨a, rfl, e⟩
    · exact .inl rfl
    · exact .inr (Kd.lo_ne c.lo2 _ e)
  exact ⟨ad (by omega), ad (by omega), ad (by omega), ad (by omega), d1.mem, fun z => by have := o1 (n + 4) z; omega, fun z => by have := o1 (n + 3) z; omega, ad (by omega), d2.mem,
    fun z => by have := o2 (n + 4) z; omega, fun z => by have := o2 (n + 3) z; omega, fun z => by have := o2 n z; omega, fun z => by have := o1 (n + 1) z; omega⟩
theorem turn_zipG {P : Program} {w : World} {K : PySem.W.Frag} {elts : List Expr} {kk : Nat} {tpos : Pos} {k1 k2 : Kd} {n : Nat} {t1 t2 : Tok} (c : Cells5 n k1 k2) :
    Turn P w K (.Tuple elts kk tpos) (ItzG K k1 k2) (fp5 n) (n + 4) (tnZ n t1 t2 k1 k2) where
  mem := by simp
  obj := fun i h ⟨hz, hI, ⟨x, y, hO⟩, q1, q2⟩ b hb => by
    rcases fp5_cases hb with rfl | rfl | rfl | rfl | rfl
    · exact ⟨_, hz, fun v q => nomatch q⟩
    · exact ⟨_, hI, fun v q => nomatch q⟩
    · exact ⟨_, hO, fun v q => nomatch q⟩
    · exact Kd.at_ob q1
    · exact Kd.at_ob q2
  keep := fun i h h' ⟨hz, hI, ⟨x, y, hO⟩, q1, q2⟩ k => ⟨k _ (by simp) _ hz, k _ (by simp) _ hI, ⟨x, y, k _ (by simp) _ hO⟩, Kd.at_k q1 (k _ (by simp)), Kd.at_k q2 (k _ (by simp))⟩
  item := by
    intro X hP hw hK hc i pins s σ H E I hf ⟨hz, hI, ⟨x0, y0, hO⟩, q1, q2⟩ ⟨xs, ys, x, y, g1, g2, ex, ey⟩
    subst hP hw hK
    have hh : X.A.in1.handled = none := by simp [I.ok.hd hc]
    obtain ⟨fp1, P1, S1, d1, s1⟩ := Kd.draw (A := X.A.in1) hh I g1 (fun a e => ad (by have := Kd.lo_ne c.lo1 a e; omega)) q1
    obtain ⟨fp2, P2, S2, d2, s2⟩ := Kd.draw (A := X.A.in1) hh I g2 (fun a e => ad (by have := Kd.lo_ne c.lo2 a e; omega)) q2
    have hzl : n + 4 < s.heap.objs.size := Heap.lt_size hz
    refine wpAny_pyNext_zipD2_item (sep5 c d1 d2) d1.dr d2.dr hz hI hO s1 s2 (List.getElem?_eq_some_iff.mp ex).1 (List.getElem?_eq_some_iff.mp ey).1 fun u1 u2 h' tk p1 p2 z' O' s1' s2' hT hsz hk => ?_
    obtain ⟨x', ex', r1⟩ := d1.item _ _ p1
    obtain ⟨y', ey', r2⟩ := d2.item _ _ p2
    rw [ex] at ex'; cases ex'
    rw [ey] at ey'; cases ey'
    refine ⟨_, rfl, wpAny_letOwnedTupleGo_zip (s := { s with heap := h', toks := tk }) z' fun h2 z2 sb => ?_⟩
    have hT2 : h2.get? s.heap.objs.size = some { cls := .type "tuple", data := .seq #[u1, u2] } := (sb.2 _ (ad (by omega))).trans hT
    have new : ObjOk X.prog X.w (upd H s.heap.objs.size (.tup [x, y])) h2 s.heap.objs.size (.tup [x, y]) := ⟨by show 2 ≤ sizeLine; decide, [u1, u2], .cons r1 (.cons r2 .nil), ⟨_, hT2, rfl, _, rfl⟩⟩
    have I1 : Inv X pins σ (upd H s.heap.objs.size (.tup [x, y])) { s with heap := h2, toks := tk } :=
      I.turnedNew (t' := tk) (ch := fp5 n) (fun b o hb q => (sb.2 b fun e => hb (by simp [e])).trans (hk b o (fun e => hb (by simp [e])) (fun e => hb (by simp [e])) (fun e => hb (by simp [e])) (fun e => hb (by simp [e])) q)) hf (Nat.le_refl _) new
    refine ⟨.ref s.heap.objs.size, _, I1, rfl, ⟨_, x, y, rfl, I.hok.fresh (Nat.le_refl _), rfl, fun l hl => by rw [Kd.inj I hl g1]; exact ex, fun l hl => by rw [Kd.inj I hl g2]; exact ey⟩, ⟨z2, ?_, ⟨u1, u2, ?_⟩, ?_, ?_⟩, fun b hb => ?_⟩
    · exact (sb.2 _ (ad (by omega))).trans (hk _ _ (ad (by omega)) (ad (by omega)) (ad (by omega)) (ad (by omega)) hI)
    · exact (sb.2 _ (ad (by omega))).trans O'
    · exact Kd.at_k (d1.back _ _ s1') fun o q => (sb.2 _ (ad (by omega))).trans q
    · exact Kd.at_k (d2.back _ _ s2') fun o q => (sb.2 _ (ad (by omega))).trans q
    · rw [upd_ne (by rcases fp5_cases hb with e | e | e | e | e <;> (rw [e]; exact ad (by omega)))]
      exact (hf b hb).1
  done := by
    intro X hP hw hK hc i pins s σ H E I hf ⟨hz, hI, ⟨x0, y0, hO⟩, q1, q2⟩ ⟨xs, ys, g1, g2, ei⟩
    subst hP hw hK
    have hh : X.A.in1.handled = none := by simp [I.ok.hd hc]
    obtain ⟨fp1, P1, S1, d1, s1⟩ := Kd.draw (A := X.A.in1) hh I g1 (fun a e => ad (by have := Kd.lo_ne c.lo1 a e; omega)) q1
    obtain ⟨fp2, P2, S2, d2, s2⟩ := Kd.draw (A := X.A.in1) hh I g2 (fun a e => ad (by have := Kd.lo_ne c.lo2 a e; omega)) q2
    exact wpAny_pyNext_zipD2_end (sep5 c d1 d2) d1.dr d2.dr hz hI hO s1 s2 (by omega) (by omega) (by omega) fun h' tk hk => ⟨rfl, I.turnedL (t' := tk) (ch := fp5 n) (fun b o hb q =>
      hk b o (fun e => hb (by simp [e])) (fun e => hb (by simp [e])) (fun e => hb (by simp [e])) (fun e => hb (by simp [e])) q) hf⟩
  self := fun A i s Q E st h => wpAny_pyIter_zip st.1 h
section
variable {X : Cx} {pins : List (Addr × Obj)} {σ : St} {H : Hp} {s : Shared}
theorem Kd.begins {k : Kd} {xs : List V} {u : Value} (I : Inv X pins σ H s) (h : k.has X.K H xs) (r : RelV k.val u) : ∃ (o : Obj) (G : Heap → Prop) (tk : Tok), Begins u o G ∧ G s.heap ∧ k.lo s.heap.objs.size ∧ ∀ n h', h'.get? n = some o → k.at n tk 0 h' := by
  cases k with
  | l a =>
    obtain ⟨its, rv, p, _⟩ := I.list h
    cases r
    exact ⟨_, _, 0, begins_list a its.toArray, p.isList, p.lt, fun n h' e => ⟨_, e, rfl, rfl⟩⟩
  | t a =>
    obtain ⟨its, rv, p, _⟩ := I.tuple h
    cases r
    have p : s.heap.IsTuple a its.toArray := p
    obtain ⟨o, e, _⟩ := id p
    exact ⟨_, _, 0, begins_tuple a its.toArray, p, Heap.lt_size e, fun n h' e => ⟨_, e, rfl, rfl⟩⟩
  | s z =>
    obtain ⟨tk, rfl⟩ := r
    exact ⟨_, _, tk, begins_text z tk, trivial, trivial, fun n h' e => ⟨_, e, rfl, rfl⟩⟩
def iZipG (K : PySem.W.Frag) (ta : TA) : TI := fun σ H R => ta σ H fun vs H1 => ∃ k1 k2 xs ys, vs = [Kd.val k1, Kd.val k2] ∧ k1.has K H1 xs ∧ k2.has K H1 ys ∧ R (ItzG K k1 k2) H1
theorem pi_zipG {e e2 : Expr} {ta : TA} {p pos tpos : Pos} {elts : List Expr} {kk : Nat} (hg : Gl X "zip") (hm : X.mg "zip" = none) (ha : PA X [e, e2] ta)
    (hs : starEach [e, e2] X.env = (false, eval e X.env) :: starEach [e2] X.env := by rfl) (hpl : (backTo pos (starEach [e2] X.env)).any (·.1) = false := by rfl) :
    PI X (.Tuple elts kk tpos) (.Call (.Name "zip" p) [e, e2] [] pos) (iZipG X.K ta) := ⟨fun pins s σ H R I h =>
  Call_ (ld_blt I hg hm PyProof.Rows.boot_zip (PyProof.Rows.callWith_type1 (thn (ha.run pos pins s σ H _ I h) fun us s1 ⟨vs, H1, I1, r1, q1⟩ => by
    obtain ⟨k1, k2, xs, ys, ex, h1, h2, q⟩ := q1
    subst ex
    obtain ⟨u1, us1, rfl, r2, r3⟩ : ∃ u us', us = u :: us' ∧ RelV k1.val u ∧ Vals [k2.val] us' := by cases r1 with | cons a b => exact ⟨_, _, rfl, a, b⟩
    obtain ⟨u2, rfl, r4⟩ := vals1 r3
    obtain ⟨o1, G1, tk1, b1, g1, l1, m1⟩ := Kd.begins I1 h1 r2
    obtain ⟨o2, G2, tk2, b2, g2, l2, m2⟩ := Kd.begins I1 h2 r4
    refine zip_begins2 b1 b2 g1 g2 fun h' hz hI hO e1 e2 hsz hk => wpAny_pyIter_zip hz ?_
    have I2 : Inv X pins σ H1 { s1 with heap := h' } := I1.kept (t' := s1.toks) hk
    refine ⟨s1.heap.objs.size + 4, fp5 s1.heap.objs.size, tnZ s1.heap.objs.size tk1 tk2 k1 k2, _, H1, rfl, I2, turn_zipG ⟨l1, l2⟩, ⟨hz, hI, ⟨_, _, hO⟩, m1 _ _ e1, m2 _ _ e2⟩, fun b hb => ?_, q⟩
    have le : s1.heap.objs.size ≤ b := by rcases fp5_cases hb with e | e | e | e | e <;> (rw [e]; first | exact Nat.le_refl _ | exact Nat.le_add_right _ _)
    exact I1.fpOk le (I1.hok.fresh le)) hs hpl))⟩
end
/-! ### the datum's kind -/
def kdOf : D → V → Option Kd
  | .lst _, .ref a => some (.l a)
  | .arg _, .ref a => some (.l a)
  | .tup _, .ref a => some (.t a)
  | .str z, _ => some (.s z)
  | _, _ => none
section
variable {K : PySem.W.Frag} {P0 : Pr} {O W : List Nat} {ρ ρ' : Env} {σ σ' : St} {H H' Hs : Hp} {h h2 : Hd} {d d2 : D} {v : V}
/-- a datum that is walked: its kind and the items' values -/
theorem RepW.kd {ds : List D} {P : Pr} (r : RepW K H d P v) (e : itD d = .ok ds) : ∃ k vs, v = Kd.val k ∧ k.has K H vs ∧ Reps K H ds P vs ∧ kdOf d v = some k := by
  cases d <;> simp only [itD, R.ok.injEq, reduceCtorEq] at e
  · subst e
    rename_i z
    obtain rfl := r.str
    refine ⟨.s z, strV z, rfl, rfl, ?_, rfl⟩
    unfold strV
    generalize z.cps.toList = l
    induction l with
    | nil => exact Reps.nil
    | cons c l ih => exact Reps.cons (by unfold Rep; rfl) ih
  · subst e
    obtain ⟨a, vs, rfl, t1, t2⟩ := r.tup
    exact ⟨.t a, vs, rfl, SqT.of t1, t2, rfl⟩
  · subst e
    obtain ⟨a, vs, rfl, t1, t2⟩ := r.lst
    exact ⟨.l a, vs, rfl, SqL.of t1, t2, rfl⟩
  · subst e
    obtain ⟨a, rfl, t1⟩ := r.arg
    exact ⟨.l a, _, rfl, t1, reps_ints _, rfl⟩
/-- .. from what holds of it -/
theorem Hold.kd {ds : List D} {k : Kd} (S : Sim K P0 O W ρ σ H) (o : Hold K O h d v P0 ρ σ H) (e : itD d = .ok ds) (ek : kdOf d v = some k) : ∃ vs, k.has K H vs ∧ Reps K H ds (FA P0 O σ) vs := by
  obtain ⟨k', vs, _, h1, h2, h3⟩ := (o.rep S).kd e
  rw [ek] at h3; cases h3
  exact ⟨vs, h1, h2⟩
theorem src_zipG {k1 k2 : Kd} {ds es : List D} {w : V} (hd : itD d = .ok ds) (he : itD d2 = .ok es) (e1 : kdOf d v = some k1) (e2 : kdOf d2 w = some k2) :
    Src K O W (pairsD ds es) (h.ws ++ h2.ws) (ItzG K k1 k2) (fun P0 ρ σ H => Hold K O h d v P0 ρ σ H ∧ Hold K O h2 d2 w P0 ρ σ H) where
  go := fun P0 i ρ σ H S ok hi => by
    obtain ⟨vs, a1, a2⟩ := ok.1.kd S hd e1
    obtain ⟨vs2, b1, b2⟩ := ok.2.kd S he e2
    rw [pairsD_len, ← a2.length, ← b2.length] at hi
    exact ⟨vs, vs2, vs[i]'(by omega), vs2[i]'(by omega), a1, b1, List.getElem?_eq_getElem _, List.getElem?_eq_getElem _⟩
  stop := fun P0 ρ σ H S ok => by
    obtain ⟨vs, a1, a2⟩ := ok.1.kd S hd e1
    obtain ⟨vs2, b1, b2⟩ := ok.2.kd S he e2
    exact ⟨vs, vs2, a1, b1, by rw [pairsD_len, ← a2.length, ← b2.length]⟩
  yld := fun P0 i ρ σ H x H' d S ok hq y => by
    obtain ⟨vs, a1, a2⟩ := ok.1.kd S hd e1
    obtain ⟨vs2, b1, b2⟩ := ok.2.kd S he e2
    obtain ⟨x1, y1, q1, q2, rfl⟩ := pairsD_get hq
    obtain ⟨v1, q3, r1⟩ := a2.get q1
    obtain ⟨v2, q4, r2⟩ := b2.get q2
    obtain ⟨T, u1, u2, rfl, hT, rfl, e3, e4⟩ := y
    have e3 := e3 _ a1
    have e4 := e4 _ b1
    rw [q3] at e3; cases e3
    rw [q4] at e4; cases e4
    exact pair_rep S.dom hT r1 r2
  keep := fun P0 ρ σ H ρ' σ' H' S k w hw ok => ⟨ok.1.keep S k w fun i hi => hw i (List.mem_append_left _ hi), ok.2.keep S k w fun i hi => hw i (List.mem_append_right _ hi)⟩
  mem := fun P0 ρ σ H ok w z => (List.mem_append.mp z).elim (ok.1.mem w) (ok.2.mem w)
  grow := fun P0 P1 ρ σ H H' S w k ok => ⟨ok.1.grow S w k, ok.2.grow S w k⟩
end
def zipGD (x y : D) : R (List D) := do
  let xs ← itD x
  let ys ← itD y
  pure (pairsD xs ys)
def cZipG (m : AM) : IM := fun ρ => do
  let (hs, ρ1) ← m ρ
  match hs with
  | [h, h2] => do
    let x ← (h.d ρ1).nox
    let y ← (h2.d ρ1).nox
    let ps ← (zipGD x y).nox
    if szOk ps.length = true then pure ((ps, h.ws ++ h2.ws), ρ1) else .stk
  | _ => .stk
theorem zipGD_ok {x y : D} {ps : List D} (h : zipGD x y = .ok ps) : ∃ xs ys, itD x = .ok xs ∧ itD y = .ok ys ∧ ps = pairsD xs ys := by
  obtain ⟨xs, e1, h⟩ := R.ok_of h
  obtain ⟨ys, e2, h⟩ := R.ok_of h
  cases h
  exact ⟨xs, ys, e1, e2, rfl⟩
section
variable {X : Cx} {P0 : Pr} {O W : List Nat} {E : EK} {a b c e tg : Expr} {es : List Expr} {ma mb mc : EM} {ms : AM} {pos : Pos}
theorem ci_zipG {p tpos : Pos} {elts : List Expr} {kk : Nat} (hm : X.mg "zip" = none) (ha : CA X P0 O W E [a, b] ms) (hg : Gl X "zip" := by rfl) (hs : starEach [a, b] X.env = (false, eval a X.env) :: starEach [b] X.env := by rfl) (hpl : (backTo pos (starEach [b] X.env)).any (·.1) = false := by rfl) :
    CI X P0 O W E (.Tuple elts kk tpos) (.Call (.Name "zip" p) [a, b] [] pos) (cZipG ms) := PI.imp (pi_zipG hg hm ha hs hpl) fun σ H _ ⟨ρ, S, h⟩ => by
  refine ⟨ρ, S, h.of_bind.mono fun ⟨hs, ρ1⟩ q vs H1 S1 k1 r1 => ?_⟩
  match hs, r1, q with
  | [h, h2], r1, q =>
    obtain ⟨v, ws, rfl, t1, t2⟩ := r1
    obtain ⟨w, us, rfl, t3, t4⟩ := t2
    have t4 : us = [] := t4
    subst t4
    obtain ⟨x, ex, q1⟩ := Res.of_nox (show Res E W σ H ((h.d ρ1).nox >>= _) _ from q)
    obtain ⟨y, ey, q2⟩ := q1.of_nox
    obtain ⟨ps, ep, q3⟩ := q2.of_nox
    clear q q1 q2
    obtain ⟨xs, ys, e1, e2, rfl⟩ := zipGD_ok ep
    by_cases c : szOk (pairsD xs ys).length = true
    · rw [if_pos c] at q3
      obtain ⟨c1, vs1, rfl, f1, _, g1⟩ := (t1.d S1 ex).kd e1
      obtain ⟨c2, vs2, rfl, f2, _, g2⟩ := (t3.d S1 ey).kd e2
      exact ⟨c1, c2, vs1, vs2, rfl, f1, f2, q3 _ H1 _ S1 k1 (src_zipG e1 e2 g1 g2) ⟨t1.hold ex, t3.hold ey⟩ (of_decide_eq_true c)⟩
    · rw [if_neg c] at q3
      exact q3.elim
  | [], _, q => exact q.elim
  | [_], _, q => exact q.elim
  | _ :: _ :: _ :: _, _, q => exact q.elim
end
section
variable {ρ : Y.Env}
@[simp] theorem e_zipG {m : AM} : cZipG m ρ = (m ρ >>= fun p => match p.1 with | [h, h2] => ((h.d p.2).nox >>= fun x => (h2.d p.2).nox >>= fun y => (zipGD x y).nox >>= fun ps => if szOk ps.length = true then R.ok ((ps, h.ws ++ h2.ws), p.2) else .stk) | _ => .stk) := by
  unfold cZipG; congr
@[simp] theorem d_zipG {x y : D} : zipGD x y = (itD x >>= fun xs => itD y >>= fun ys => R.ok (pairsD xs ys)) := id rfl
end
/-! ### enumerate -/
def IteG (K : PySem.W.Frag) (k : Kd) : It :=
  ⟨fun i H => ∃ xs x, k.has K H xs ∧ xs[i]? = some x, fun i H v H' => ∃ T x, v = .ref T ∧ H T = none ∧ H' = upd H T (.tup [.int (i : Nat), x]) ∧ ∀ xs, k.has K H xs → xs[i]? = some x, fun i H => ∃ xs, k.has K H xs ∧ i = xs.length⟩
abbrev fp2 (n : Nat) : List Addr := [n + 1, n]
def tnE (n : Nat) (t : Tok) (k : Kd) (i : Nat) (h : Heap) : Prop := (∃ old, IsEnum h (n + 1) n ((i : Nat) : Int) old) ∧ k.at n t i h
theorem turn_enumG {P : Program} {w : World} {K : PySem.W.Frag} {elts : List Expr} {kk : Nat} {tpos : Pos} {k : Kd} {n : Nat} {t : Tok} (c : k.lo n) :
    Turn P w K (.Tuple elts kk tpos) (IteG K k) (fp2 n) (n + 1) (tnE n t k) where
  mem := by simp
  obj := fun i h ⟨⟨old, he⟩, q1⟩ b hb => by
    have hb : b = n + 1 ∨ b = n := by simpa using hb
    rcases hb with rfl | rfl
    · exact ⟨_, he, fun v q => nomatch q⟩
    · exact Kd.at_ob q1
  keep := fun i h h' ⟨⟨old, he⟩, q1⟩ k => ⟨⟨old, k _ (by simp) _ he⟩, Kd.at_k q1 (k _ (by simp))⟩
  item := by
    intro X hP hw hK hc i pins s σ H E I hf ⟨⟨old, he⟩, q1⟩ ⟨xs, x, g1, ex⟩
    subst hP hw hK
    have hh : X.A.in1.handled = none := by simp [I.ok.hd hc]
    obtain ⟨fp1, P1, S1, d1, s1⟩ := Kd.draw (A := X.A.in1) hh I g1 (fun a e => ad (by have := Kd.lo_ne c a e; omega)) q1
    have hel : n + 1 < s.heap.objs.size := Heap.lt_size he
    have hef : n + 1 ∉ fp1 := fun z => by
      rcases d1.lo _ z with e | ⟨a, e, e2⟩
      · have e : n + 1 = n := e
        omega
      · have := Kd.lo_ne c a e2
        have e : n + 1 = a := e
        omega
    refine wpAny_pyNext_enum_itemD d1.dr he s1 (List.getElem?_eq_some_iff.mp ex).1 (ad (by omega)) hef fun u h' tk p1 ho s1' hT hsz hk => ?_
    obtain ⟨x', ex', r1⟩ := d1.item _ _ p1
    rw [ex] at ex'; cases ex'
    refine ⟨_, rfl, wpAny_letOwnedTupleGo_enum (s := { s with heap := h', toks := tk + 1 }) ho fun h2 he2 sb => ?_⟩
    have hT2 : h2.get? s.heap.objs.size = some { cls := .type "tuple", data := .seq #[.int i tk, u] } := (sb.2 _ (ad (by omega))).trans hT
    have new : ObjOk X.prog X.w (upd H s.heap.objs.size (.tup [.int (i : Nat), x])) h2 s.heap.objs.size (.tup [.int (i : Nat), x]) := ⟨by show 2 ≤ sizeLine; decide, [.int i tk, u], .cons ⟨_, rfl⟩ (.cons r1 .nil), ⟨_, hT2, rfl, _, rfl⟩⟩
    have I1 : Inv X pins σ (upd H s.heap.objs.size (.tup [.int (i : Nat), x])) { s with heap := h2, toks := tk + 1 } :=
      I.turnedNew (t' := tk + 1) (ch := fp2 n) (fun b o hb q => (sb.2 b fun e => hb (by simp [e])).trans (hk b o (fun e => hb (by simp [e])) (fun e => hb (by simp [e])) q)) hf (Nat.le_refl _) new
    refine ⟨.ref s.heap.objs.size, _, I1, rfl, ⟨_, x, rfl, I.hok.fresh (Nat.le_refl _), rfl, fun l hl => by rw [Kd.inj I hl g1]; exact ex⟩, ⟨⟨u, ?_⟩, ?_⟩, fun b hb => ?_⟩
    · have e1 : ((i + 1 : Nat) : Int) = (i : Int) + 1 := by omega
      rw [e1]; exact he2
    · exact Kd.at_k (d1.back _ _ s1') fun o q => (sb.2 _ (ad (by omega))).trans q
    · have hb' : b = n + 1 ∨ b = n := by simpa using hb
      rw [upd_ne (by rcases hb' with e | e <;> (rw [e]; exact ad (by omega)))]
      exact (hf b hb).1
  done := by
    intro X hP hw hK hc i pins s σ H E I hf ⟨⟨old, he⟩, q1⟩ ⟨xs, g1, ei⟩
    subst hP hw hK
    have hh : X.A.in1.handled = none := by simp [I.ok.hd hc]
    obtain ⟨fp1, P1, S1, d1, s1⟩ := Kd.draw (A := X.A.in1) hh I g1 (fun a e => ad (by have := Kd.lo_ne c a e; omega)) q1
    subst ei
    exact wpAny_pyNext_enum_endD d1.dr he s1 fun h' eb => ⟨rfl, I.turnedL (t' := s.toks) (ch := fp2 n) (fun b o hb q => eb b o (fun e => hb (by simp [e])) q) hf⟩
  self := fun A i s Q E ⟨⟨_, he⟩, _⟩ h => wpAny_pyIter_enum he h
open AutoSeq1 (wpAny_loadPart') in
set_option maxHeartbeats 1000000 in
theorem enum_newT (b : Addr) (ys : Array Value) (m : Nat) (dd : Option Addr) (sl : Array (Option Value)) : Meets (Builtin.«enumerate.__new__» ⟨[.type "enumerate", .ref b], []⟩) (fun _ R s => s.heap.get? b = some { cls := .type "tuple", dict := dd, data := .seq ys m, slots := sl } ∧
    R (.ok (.ret (.ref (s.heap.push { cls := .type "tuple_iterator", data := .fields #[.ref b, .int 0 0] }).objs.size))) { s with heap := (s.heap.push { cls := .type "tuple_iterator", data := .fields #[.ref b, .int 0 0] }).push { cls := .type "enumerate", data := .fields #[.none, .bool false, .ref s.heap.objs.size, rawInt 0, .none, .none] } }) :=
  .of_wp fun prog w A R s ⟨hb, q⟩ => by
    obtain ⟨hp, g, d, tk, os⟩ := s
    have z1 := sub_enumerate
    have hT : Heap.IsTuple (Shared.heap ⟨hp, g, d, tk, os⟩) b ys := ⟨_, hb, rfl, m, rfl⟩
    wp_walk using wpAny_loadPart' hb
    refine wpAny_stack_any fun st => wpAny_pure ?_
    split
    · rename_i c _ _ _ _ _
      cases (c == Value.type "enumerate") <;> (wp_walk using wpAny_loadPart' hb, wpAny_pyIter_tuple hT; exact ⟨_, rfl, q⟩)
    · wp_walk using wpAny_loadPart' hb, wpAny_pyIter_tuple hT
      exact ⟨_, rfl, q⟩
theorem call_enumT {prog : Program} {w : World} {A : Around} {E : Value → Shared → Prop} {s : Shared} {b : Addr} {ys : Array Value} {Q : Value → Shared → Prop} (hT : s.heap.IsTuple b ys)
    (q : ∀ h', IsEnum h' (s.heap.objs.size + 1) s.heap.objs.size 0 .none → h'.IsTupleIter s.heap.objs.size b 0 → (∀ c o, s.heap.get? c = some o → h'.get? c = some o) → Q (.ref (s.heap.objs.size + 1)) { s with heap := h' }) :
    wpAny (model prog w) A (call (.type "enumerate") [.ref b]) Q E s := by
  obtain ⟨⟨cls, dd, data, sl⟩, hb, ec, m, ed⟩ := hT
  simp only at ec ed
  subst ec ed
  refine callType_new F.called_enumerate (by decide) (F.typeCall_enumerate_1 _) (F.newCall_enumerate_1 _) (fun obj => F.args_object_init_2 obj _) F.entry_enumerate_new (enum_newT b ys m dd sl) ⟨hb, ?_⟩
  have hz : (s.heap.push { cls := .type "tuple_iterator", data := .fields #[.ref b, .int 0 0] }).objs.size = s.heap.objs.size + 1 := Heap.size_push ..
  have he : IsEnum ((s.heap.push { cls := .type "tuple_iterator", data := .fields #[.ref b, .int 0 0] }).push { cls := .type "enumerate", data := .fields #[.none, .bool false, .ref s.heap.objs.size, rawInt 0, .none, .none] }) (s.heap.objs.size + 1) s.heap.objs.size 0 .none := by
    rw [← hz]
    exact Heap.get?_push_size _ rfl
  show _ ∧ _
  rw [hz]
  exact ⟨⟨_, he, rfl⟩, q _ he ⟨_, Heap.get?_push_of_some _ (Heap.get?_push_size _ rfl), rfl, rfl⟩ fun c o x => Heap.get?_push_of_some _ (Heap.get?_push_of_some _ x)⟩
section
variable {X : Cx} {P0 : Pr} {O W : List Nat} {E : EK} {a b c e tg : Expr} {es : List Expr} {ma mb mc : EM} {ms : AM} {pos : Pos}
def iEnumG (K : PySem.W.Frag) (ta : TA) : TI := fun σ H R => ta σ H fun vs H1 => ∃ k xs, vs = [Kd.val k] ∧ k.has K H1 xs ∧ R (IteG K k) H1
theorem pi_enumG {ta : TA} {p tpos : Pos} {elts : List Expr} {kk : Nat} (hg : Gl X "enumerate") (hm : X.mg "enumerate" = none) (ha : PA X [e] ta) (hs : starEach [e] X.env = [(false, eval e X.env)] := by rfl) :
    PI X (.Tuple elts kk tpos) (.Call (.Name "enumerate" p) [e] [] pos) (iEnumG X.K ta) := ⟨fun pins s σ H R I h =>
  Call_ (ld_blt I hg hm boot_enumerate (PyProof.Rows.callWith_type1 (thn (ha.run pos pins s σ H _ I h) fun us s1 ⟨vs, H1, I1, r1, q1⟩ => by
    obtain ⟨k, xs, ex, h1, q⟩ := q1
    subst ex
    obtain ⟨u, rfl, r2⟩ := vals1 r1
    have fin : ∀ (tk : Tok) (h' : Heap), k.lo s1.heap.objs.size → IsEnum h' (s1.heap.objs.size + 1) s1.heap.objs.size 0 .none → k.at s1.heap.objs.size tk 0 h' → (∀ c o, s1.heap.get? c = some o → h'.get? c = some o) → PIE X pins σ (.Tuple elts kk tpos) R (.ref (s1.heap.objs.size + 1)) { s1 with heap := h' } := fun tk h' lo he hit hk =>
      ⟨s1.heap.objs.size + 1, fp2 s1.heap.objs.size, tnE s1.heap.objs.size tk k, _, H1, rfl, I1.kept (t' := s1.toks) hk, turn_enumG lo, ⟨⟨.none, he⟩, hit⟩, fun b hb => by
        have hb' : b = s1.heap.objs.size + 1 ∨ b = s1.heap.objs.size := by simpa using hb
        have le : s1.heap.objs.size ≤ b := by rcases hb' with e | e <;> (rw [e]; first | exact Nat.le_refl _ | exact Nat.le_add_right _ _)
        exact I1.fpOk le (I1.hok.fresh le), q⟩
    cases k with
    | l a =>
      obtain ⟨its, rv, p, _⟩ := I1.list h1
      cases r2
      exact call_enumerate_list p.isList fun h' he hit hsz hk => wpAny_pyIter_enum he (fin 0 h' p.lt he hit hk)
    | t a =>
      obtain ⟨its, rv, p, _⟩ := I1.tuple h1
      cases r2
      have p : s1.heap.IsTuple a its.toArray := p
      obtain ⟨o, e, _⟩ := id p
      exact call_enumT p fun h' he hit hk => wpAny_pyIter_enum he (fin 0 h' (Heap.lt_size e) he hit hk)
    | s z =>
      obtain ⟨tk, rfl⟩ := r2
      exact call_enumerate_str fun h' he hit hsz hk => wpAny_pyIter_enum he (fin tk h' trivial he hit hk)) hs rfl))⟩
def numD (ds : List D) : List D := pairsD ((List.range ds.length).map fun i => D.int (i : Nat)) ds
section
variable {K : PySem.W.Frag} {ρ ρ' : Env} {σ σ' : St} {H H' Hs : Hp} {h h2 : Hd} {d d2 : D} {v : V}
theorem src_enumG {k : Kd} {ds : List D} (hd : itD d = .ok ds) (e1 : kdOf d v = some k) : Src K O W (numD ds) h.ws (IteG K k) (Hold K O h d v) where
  go := fun P0 i ρ σ H S ok hi => by
    obtain ⟨vs, a1, a2⟩ := ok.kd S hd e1
    unfold numD at hi
    rw [pairsD_len, ← a2.length] at hi
    have hi : i < vs.length := by simpa using hi
    exact ⟨vs, vs[i], a1, List.getElem?_eq_getElem hi⟩
  stop := fun P0 ρ σ H S ok => by
    obtain ⟨vs, a1, a2⟩ := ok.kd S hd e1
    exact ⟨vs, a1, by unfold numD; rw [pairsD_len, ← a2.length]; simp⟩
  yld := fun P0 i ρ σ H x H' d S ok hq y => by
    obtain ⟨vs, a1, a2⟩ := ok.kd S hd e1
    have hi := (List.getElem?_eq_some_iff.mp hq).1
    unfold numD at hi hq
    rw [pairsD_len] at hi
    have hi : i < ds.length := by simpa using hi
    obtain ⟨x1, y1, q1, q2, rfl⟩ := pairsD_get hq
    obtain ⟨v2, q4, r2⟩ := a2.get q2
    obtain ⟨T, u, rfl, hT, rfl, e3⟩ := y
    have e3 := e3 _ a1
    rw [q4] at e3; cases e3
    rw [List.getElem?_map, List.getElem?_range hi] at q1
    cases q1
    exact pair_rep S.dom hT (by unfold Rep; rfl) r2
  keep := fun P0 ρ σ H ρ' σ' H' S k w hw ok => ok.keep S k w hw
  mem := fun P0 ρ σ H ok => ok.mem
  grow := fun P0 P1 ρ σ H H' S w k ok => ok.grow S w k
end
def cEnumG (m : AM) : IM := fun ρ => do
  let (hs, ρ1) ← m ρ
  match hs with
  | [h] => do
    let x ← (h.d ρ1).nox
    let ds ← (itD x).nox
    if szOk (numD ds).length = true then pure ((numD ds, h.ws), ρ1) else .stk
  | _ => .stk
theorem ci_enumG {p tpos : Pos} {elts : List Expr} {kk : Nat} (hm : X.mg "enumerate" = none) (ha : CA X P0 O W E [a] ms) (hg : Gl X "enumerate" := by rfl) (hs : starEach [a] X.env = [(false, eval a X.env)] := by rfl) :
    CI X P0 O W E (.Tuple elts kk tpos) (.Call (.Name "enumerate" p) [a] [] pos) (cEnumG ms) := PI.imp (pi_enumG hg hm ha hs) fun σ H _ ⟨ρ, S, h⟩ => by
  refine ⟨ρ, S, h.of_bind.mono fun ⟨hs, ρ1⟩ q vs H1 S1 k1 r1 => ?_⟩
  match hs, r1, q with
  | [h], r1, q =>
    obtain ⟨v, ws, rfl, t1, t2⟩ := r1
    have t2 : ws = [] := t2
    subst t2
    obtain ⟨x, ex, q1⟩ := Res.of_nox (show Res E W σ H ((h.d ρ1).nox >>= _) _ from q)
    obtain ⟨ds, e1, q3⟩ := q1.of_nox
    clear q q1
    by_cases c : szOk (numD ds).length = true
    · rw [if_pos c] at q3
      obtain ⟨c1, vs1, rfl, f1, _, g1⟩ := (t1.d S1 ex).kd e1
      exact ⟨c1, vs1, rfl, f1, q3 _ H1 _ S1 k1 (src_enumG e1 g1) (t1.hold ex) (of_decide_eq_true c)⟩
    · rw [if_neg c] at q3
      exact q3.elim
  | [], _, q => exact q.elim
  | _ :: _ :: _, _, q => exact q.elim
end
section
variable {ρ : Y.Env}
@[simp] theorem e_enumG {m : AM} : cEnumG m ρ = (m ρ >>= fun p => match p.1 with | [h] => ((h.d p.2).nox >>= fun x => (itD x).nox >>= fun ds => if szOk (numD ds).length = true then R.ok ((numD ds, h.ws), p.2) else .stk) | _ => .stk) := by
  unfold cEnumG; congr
@[simp] theorem numD_len {ds : List D} : (numD ds).length = ds.length := by unfold numD; rw [pairsD_len]; simp
end
end Y

set_option Elab.async false
set_option linter.all false
set_option maxRecDepth 100000
namespace Y
open PySem PySem.Spec PyProof.Rows L2
/-! ### error classes of the text, under ValueError -/
abbrev veB : List Value := [.type "ValueError", .type "Exception", .type "BaseException", .type "object"]
structure ErrT (K : PySem.W.Frag) (mg : Str → Option Value) (x : Str) : Prop where
  ex : ∃ C, mg x = some (.ref C) ∧ PySem.W.excIn K C veB "ValueError.__new__" = true ∧ PySem.W.keepIn K (.ref C) = true ∧ PySem.W.subIn K (.ref C) (.type "BaseException") = some true ∧ PySem.W.typeIn K (.ref C) = some (.type "type")
def sRaise (c : Str) : SM := fun _ => .er c []
section
variable {K : PySem.W.Frag} {X : Cx} {P0 : Pr} {O W U : List Nat} {E : EK} {XE : XK} {e : Expr} {ma : EM} {pos : Pos}
theorem cs_raise {x m : Str} {j : Nat} {p p2 q pos : Pos} (T : ErrT X.K X.mg x) (hc : X.calm = true) (tk : L2N.Takes X fun cls d _ H => XE cls d H) (hg : Gl X x := by rfl) (hdb : (x == ("__debug__" : Str)) = false := by decide) :
    CS X P0 O W U (exE X.mg XE) (.Raise (some (.Call (.Name x p) [.Constant (.str m) j p2] [] q)) none pos) (sRaise x) := by
  obtain ⟨C, gC, q, kC, b, t⟩ := T.ex
  refine PS.imp (L2N.ps_raise hc tk (L2N.pmk_own PySem.F.excBase_ValueError q gC kC (raises_own b t) hg hdb)) fun D σ H ⟨ρ, S, h⟩ => ?_
  obtain ⟨_, C', e1, e2⟩ := h H (Keep.refl)
  rw [gC] at e1; cases e1
  exact e2
end
@[simp] theorem e_raise {c : Str} {ρ : Y.Env} : sRaise c ρ = .er c [] := id rfl
end Y

set_option Elab.async false
set_option linter.all false
set_option maxRecDepth 100000
namespace Y
open PySem PySem.Spec PyProof.Rows L2
/-! ### set(xs), xs a list of whole numbers -/
abbrev setO0 (w : World) : Obj := { cls := .type "set", dict := none, data := .set #[] 0 (.fresh 0 0 (!w.params.followText "set-order")) }
section
variable {P : Program} {w : World} {A : Around} {E : Value → Shared → Prop} {s : Shared}
set_option maxHeartbeats 3200000 in
theorem set_ofL {l : Addr} {ys : Array Value} (ns : List Int) {Q : Value → Shared → Prop} (hh : A.handled = none) (hl : s.heap.IsList l ys) (hi : IntsAre ys.toList ns) (hb : ns.length + 1 < scanBound)
    (q : ∀ (h' : Heap) (tk c : Nat), SetR w h' s.heap.objs.size (fun j => decide (j ∈ ns)) c → c ≤ ns.length → (∀ b o, s.heap.get? b = some o → h'.get? b = some o) → Q (.ref s.heap.objs.size) { s with heap := h', toks := tk }) :
    wpAny (model P w) A (call (.type "set") [.ref l]) Q E s := by
  have zy : ys.size = ns.length := by
    have z := IntsAre.length hi
    rwa [Array.length_toList] at z
  obtain ⟨_, _, z0⟩ := F.called_set.mro
  have z1 := F.called_set.made
  have z2 := F.called_set.sub
  refine wpAny_call (codeAny_of_tree (show wpAny _ _ (callAny (.type "set") _) _ _ _ from ?_))
  refine wpAny_pure ⟨Code.quiet_builtin _ (by decide +kernel), codeAny_builtin (F.entry_type_call) (?_)⟩
  rw [Around.under_plain (weight_type_call_type "set" [.ref l] []) (rfl)]
  have z3 := F.called_set.notType
  have z4 := F.called_set.canCreate
  have z5 := F.typeCall_set_1 (.ref l)
  repeat (any_goals (first | wp_step | assumption))
  refine codeAny_mono (code_set_led1 (.ref l) (E := E) (Q₁ := fun obj t => obj = .ref s.heap.objs.size ∧ t = { s with heap := s.heap.push (setO0 w) }) ⟨rfl, rfl⟩) fun r t hr => ?_
  cases r with
  | error e => exact hr
  | ok fl =>
    cases fl with
    | ret obj =>
      obtain ⟨e1, e2⟩ := hr
      subst e1 e2
      have gS : (s.heap.push (setO0 w)).get? s.heap.objs.size = some (setO0 w) := Heap.get?_push_size _ rfl
      have tS : Shared.TypeIs { s with heap := s.heap.push (setO0 w) } (.ref s.heap.objs.size) "set" := ⟨_, gS, rfl⟩
      have z6 := F.called_set.init.lookup
      have z7 := F.called_set.init.bind (.ref s.heap.objs.size)
      repeat (any_goals (first | wp_step | assumption))
      refine codeAny_mono (codeAny_call_builtin (R := wants (fun r t => r = .none ∧ ∃ h' tk c, t = { s with heap := h', toks := tk } ∧ SetR w h' s.heap.objs.size (fun j => decide (j ∈ ns)) c ∧ c ≤ ns.length ∧ ∀ b o, s.heap.get? b = some o → h'.get? b = some o) E) F.called_set.init.plain F.entry_set_init (check_set_init_1 tS ?_)) fun r2 t2 hr2 => ?_
      · obtain ⟨⟨cls, od, data, os⟩, ho, ec, m, ed⟩ := hl
        simp only at ec ed
        subst ec ed
        have ho1 : (s.heap.push (setO0 w)).get? l = some { cls := .type "list", dict := od, data := .seq ys m, slots := os } := Heap.get?_push_of_some _ ho
        have z8 := F.sub_list_set
        have z9 := F.sub_list_frozenset
        have za : (Value.type "list" == Value.type "dict") = false := by decide
        have hl1 : (s.heap.push (setO0 w)).IsList l ys := ⟨_, ho1, rfl, m, rfl⟩
        unfold Builtin.«set.__init__» noKeywords Builtin.Frozenset.updateFrom
        generalize hp : pyIter = p
        wp_walk
        subst hp
        refine wpAny_pyIter_list hl1 (wpAny_bind (wpAny_runValue ?_))
        have ls : l < s.heap.objs.size := Heap.lt_size ho
        have h3 : A.in1.in1.in1.handled = none := by simp [hh]
        have zp : (s.heap.push (setO0 w)).objs.size = s.heap.objs.size + 1 := Heap.size_push ..
        have ne : l ≠ (s.heap.push (setO0 w)).objs.size := by rw [zp]; exact Nat.ne_of_lt (Nat.lt_succ_of_lt ls)
        have nf : s.heap.objs.size ∉ [(s.heap.push (setO0 w)).objs.size, l] := by
          rw [zp]
          intro z
          rcases List.mem_cons.mp z with z | z
          · exact Nat.ne_of_lt (Nat.lt_succ_self _) z
          · exact Nat.ne_of_gt ls (by simpa using z)
        have hv : ∀ (i : Nat) (v : Value), ys[i]? = some v → ∃ k t, ns[i]? = some k ∧ v = .int k t := fun i v e => by
          have lt : i < ns.length := by rw [← zy]; exact (Array.getElem?_eq_some_iff.mp e).1
          obtain ⟨t, e2⟩ := IntsAre.int_at hi i v (by rw [Array.getElem?_toList]; exact e)
          exact ⟨ns[i], t, List.getElem?_eq_getElem lt, by rw [e2, List.getD_eq_getElem?_getD, List.getElem?_eq_getElem lt]; rfl⟩
        refine set_update_ints ((Walks.list h3 _ l ne ys).toS) s.heap.objs.size nf ns zy hb hv (ys.size - 0) 0 _ (by omega) (Nat.zero_le _) ⟨⟨_, Heap.get?_push_size _ rfl, rfl, rfl⟩, (hl1.push _)⟩ ?ha ?hb
        case ha =>
          have g2 : ((s.heap.push (setO0 w)).push { cls := .type "list_iterator", data := .fields #[.ref l, .int 0 0] }).get? s.heap.objs.size = some (setO0 w) := Heap.get?_push_of_some _ gS
          exact ⟨0, Nat.le_refl 0, setR_new_at g2⟩
        case hb =>
          intro t c mv lc hS
          obtain ⟨h', g2, d2, tk2, o2⟩ := t
          have e1 : g2 = s.gens := mv.gens
          have e2 : d2 = s.drawn := mv.drawn
          have e3 : o2 = s.os := mv.os
          subst e1 e2 e3
          refine wpAny_pure (show wpAny _ _ (ret Value.none) _ _ _ from ?_)
          rw [zy] at lc
          refine wpAny_pure ⟨rfl, h', tk2, c, rfl, hS, lc, fun b o e => ?_⟩
          have b0 : b < s.heap.objs.size := Heap.lt_size e
          refine mv.heap b o (fun z => ?_) (Heap.get?_push_of_some _ (Heap.get?_push_of_some _ (e)))
          rcases List.mem_cons.mp z with z | z
          · exact Nat.ne_of_lt b0 z
          · have z : b = (s.heap.push (setO0 w)).objs.size := by simpa using z
            rw [zp] at z
            exact Nat.ne_of_lt (Nat.lt_succ_of_lt b0) z
      · cases r2 with
        | error e => exact hr2
        | ok fl2 =>
          cases fl2 with
          | ret r =>
            obtain ⟨e1, h', tk, c, e2, hS, lc, hk⟩ := hr2
            subst e1 e2
            repeat (any_goals (first | wp_step | assumption))
            exact q _ _ _ hS lc hk
          | _ => exact hr2.elim
    | _ => exact hr.elim
end
end Y

set_option Elab.async false
set_option linter.all false
set_option maxRecDepth 100000
namespace Y
open PySem PySem.Spec PyProof.Rows L2
/-! ### unlike whole numbers, sorted -/
def dedupI : List Int → List Int
  | [] => []
  | x :: xs => if x ∈ xs then dedupI xs else x :: dedupI xs
@[simp] theorem mem_dedupI : ∀ {xs : List Int} {k : Int}, k ∈ dedupI xs ↔ k ∈ xs
  | [], k => by simp [dedupI]
  | x :: xs, k => by
    unfold dedupI
    split
    · rename_i h
      rw [mem_dedupI, List.mem_cons]
      exact ⟨.inr, fun z => z.elim (fun z => z ▸ h) id⟩
    · rw [List.mem_cons, mem_dedupI, List.mem_cons]
theorem nodup_dedupI : ∀ {xs : List Int}, (dedupI xs).Nodup
  | [] => by simp [dedupI]
  | x :: xs => by
    unfold dedupI
    split
    · exact nodup_dedupI
    · rename_i h
      exact List.nodup_cons.mpr ⟨fun z => h (mem_dedupI.mp z), nodup_dedupI⟩
theorem dedupI_le : ∀ {xs : List Int}, (dedupI xs).length ≤ xs.length
  | [] => by simp [dedupI]
  | x :: xs => by
    have := dedupI_le (xs := xs)
    unfold dedupI
    split <;> simp <;> omega
theorem dedupI_of : ∀ {xs : List Int}, xs.Nodup → dedupI xs = xs
  | [], _ => rfl
  | x :: xs, h => by
    obtain ⟨h1, h2⟩ := List.nodup_cons.mp h
    unfold dedupI
    rw [if_neg h1, dedupI_of h2]
theorem card_eq {xs ys : List Int} (h1 : xs.Nodup) (h2 : ys.Nodup) (h : ∀ k, k ∈ xs ↔ k ∈ ys) : xs.Perm ys := (List.perm_ext_iff_of_nodup h1 h2).mpr h
def setI (xs : List Int) : List Int := sortI (dedupI xs)
theorem setI_mem {xs : List Int} {k : Int} : k ∈ setI xs ↔ k ∈ xs := by rw [setI, (sortI_perm _).mem_iff, mem_dedupI]
theorem setI_nodup {xs : List Int} : (setI xs).Nodup := (sortI_perm _).nodup_iff.mpr nodup_dedupI
theorem setI_lt {xs : List Int} : (setI xs).Pairwise (· < ·) := by
  have h1 : (setI xs).Pairwise (· ≤ ·) := sortI_pw _
  have h2 : (setI xs).Pairwise (· ≠ ·) := setI_nodup
  exact h1.imp₂ (fun a b h1 h2 => by omega) h2
theorem setI_of {xs ys : List Int} (h : ys.Pairwise (· < ·)) (m : ∀ k, k ∈ ys ↔ k ∈ xs) : ys = setI xs :=
  List.Perm.eq_of_pairwise (le := fun a b : Int => a < b) (fun a b _ _ h1 h2 => by omega) h setI_lt (card_eq (h.imp fun h => by omega) setI_nodup fun k => by rw [m, setI_mem])
theorem setI_len {xs : List Int} : (setI xs).length = (dedupI xs).length := (sortI_perm _).length_eq
/-! ### set(e), e a list, a tuple of whole numbers -/
def rSetOf (K : PySem.W.Frag) (w : World) : List V → Hp → VK → Prop := fun vs H Q => ∃ (l : Addr) (ns : List Int), vs = [V.ref l] ∧ (SqL K H l (ns.map V.int) ∨ SqT K H l (ns.map V.int)) ∧ ns.length ≤ 4000 ∧
  ∀ p, H p = none → Q (.ref p) (upd H p (SetO w p (fun j => decide (j ∈ ns)) (dedupI ns).length))
section
variable {X : Cx}
theorem setR_card {w : World} {h : Heap} {a : Addr} {ns : List Int} {c : Nat} (R : SetR w h a (fun j => decide (j ∈ ns)) c) : c = (dedupI ns).length := by
  obtain ⟨o, es, ep, t, ho, hx, hd, g, nd, hm, hb, hf, hn, _⟩ := R
  have := (card_eq nd (nodup_dedupI (xs := ns)) fun k => by rw [mem_dedupI, ← hm k]; simp).length_eq
  rw [← hn, ← this]
  simp
theorem cr_setOf (hc : X.calm = true) : CallR X (.type "set") (rSetOf X.K X.w) := by
  intro pins s σ H vs us Q I r ⟨l, ns, e0, hq, hz, q⟩
  subst e0
  rw [Vals.ref1 r]
  have fin : ∀ (h' : Heap) (tk c : Nat), SetR X.w h' s.heap.objs.size (fun j => decide (j ∈ ns)) c → (∀ b o, s.heap.get? b = some o → h'.get? b = some o) → EP X pins σ Q (.ref s.heap.objs.size) { s with heap := h', toks := tk } := fun h' tk c R k => by
    rw [setR_card R] at R
    exact ⟨.ref _, upd H s.heap.objs.size (SetO X.w s.heap.objs.size (fun j => decide (j ∈ ns)) (dedupI ns).length), I.laid (t' := tk) k (Nat.le_refl _) (setO_new R), rfl, q _ (I.hok.fresh (Nat.le_refl _))⟩
  have hb : ns.length + 1 < scanBound := by unfold scanBound; omega
  rcases hq with hq | hq
  · obtain ⟨its, rv, p, _⟩ := I.list hq
    exact set_ofL ns (I.ok.hd hc) p.isList (by simpa using rv.ints) hb fun h' tk c R _ k => fin h' tk c R k
  · obtain ⟨its, rv, p, _⟩ := I.tuple hq
    exact call_set_tupI ns (I.ok.hd hc) p (by simpa using rv.ints) hb fun h' tk c R _ k => fin h' tk c R k
def rLenSet (w : World) : List V → Hp → VK → Prop := fun vs H Q => ∃ (a : Addr) (S : Int → Bool) (n : Nat), vs = [V.ref a] ∧ H a = some (SetO w a S n) ∧ Q (.int n) H
theorem cr_lenSet : CallR X (.builtin "len") (rLenSet X.w) := by
  intro pins s σ H vs us Q I r ⟨a, S, n, e0, ha, q⟩
  subst e0
  rw [Vals.ref1 r]
  obtain ⟨o, es, ep, t, ho, hx, hd, g, nd, hm, hb, hf, hn, _⟩ := setO_get I ha
  exact call_len_set ho hx hd hf (by unfold scanBound at hb; omega) ⟨.int n, H, I.tok _, ⟨_, by rw [hn]⟩, q⟩
end
def seqI : D → Option (List Int)
  | .lst ds => intsOf ds
  | .tup ds => intsOf ds
  | .arg ns => some ns
  | _ => none
def cSetSort (m : EM) : EM := fun ρ => do
  let (h, ρ1) ← m ρ
  let d ← (h.d ρ1).nox
  match seqI d with
  | some ns => if ns.length ≤ 4000 ∧ (dedupI ns).length < 64 then pure (.fr (.lst ((setI ns).map D.int)), ρ1) else .stk
  | none => .stk
def cLenSet (m : EM) : EM := fun ρ => do
  let (h, ρ1) ← m ρ
  let d ← (h.d ρ1).nox
  match seqI d with
  | some ns => if ns.length ≤ 4000 then pure (.fr (.int (dedupI ns).length), ρ1) else .stk
  | none => .stk
section
variable {K : PySem.W.Frag} {X : Cx} {P0 : Pr} {O W : List Nat} {E : EK} {a e : Expr} {ma : EM} {pos : Pos}
theorem RepW.seqI {H : Hp} {d : D} {P : Pr} {v : V} {ns : List Int} (r : RepW K H d P v) (e : seqI d = some ns) : ∃ l, v = .ref l ∧ (SqL K H l (ns.map V.int) ∨ SqT K H l (ns.map V.int)) := by
  cases d <;> simp only [Y.seqI, reduceCtorEq, Option.some.injEq] at e
  · obtain ⟨l, vs, rfl, t1, t2⟩ := r.tup
    rw [ints_rep e t2] at t1
    exact ⟨l, rfl, .inr (SqT.of t1)⟩
  · obtain ⟨l, vs, rfl, t1, t2⟩ := r.lst
    rw [ints_rep e t2] at t1
    exact ⟨l, rfl, .inl (SqL.of t1)⟩
  · subst e
    obtain ⟨l, rfl, t1⟩ := r.arg
    exact ⟨l, rfl, .inl t1⟩
theorem ce_setSort {p p2 q : Pos} (hc : X.calm = true) (hm : X.mg "sorted" = none) (hm2 : X.mg "set" = none) (ha : CEx X P0 O W E a ma) (hg : Gl X "sorted" := by rfl) (hg2 : Gl X "set" := by rfl)
    (na : starEach [a] X.env = (false, eval a X.env) :: starEach [] X.env := by rfl) (n2 : starEach [.Call (.Name "set" p2) [a] [] q] X.env = (false, eval (.Call (.Name "set" p2) [a] [] q) X.env) :: starEach [] X.env := by rfl) :
    CEx X P0 O W E (.Call (.Name "sorted" p) [.Call (.Name "set" p2) [a] [] q] [] pos) (cSetSort ma) :=
  PE.imp (pe_callB (cr_sortedSet hc) hg hm bo_sorted (pa_cons (pe_callTy (cr_setOf hc) hg2 hm2 bo_set (pa_cons ha pa_nil na) (by decide) (by decide) na rfl) pa_nil n2) (by decide) (by decide) n2 rfl) fun σ H Q ⟨ρ, S, h⟩ => by
    refine ⟨ρ, S, h.of_bind.mono fun ⟨h1, ρ1⟩ q v H1 S1 k1 r1 => ?_⟩
    obtain ⟨d, e1, q⟩ := q.of_nox
    have rw1 := r1.d S1 e1
    have q : Res E W σ H (match seqI d with | some ns => if ns.length ≤ 4000 ∧ (dedupI ns).length < 64 then R.ok (Hd.fr (.lst ((setI ns).map D.int)), ρ1) else .stk | none => .stk) _ := q
    cases es : seqI d with
    | none => rw [es] at q; exact q.elim
    | some ns =>
      rw [es] at q
      simp only at q
      by_cases c : ns.length ≤ 4000 ∧ (dedupI ns).length < 64
      · rw [if_pos c] at q
        obtain ⟨l, rfl, hl⟩ := rw1.seqI es
        refine ⟨l, ns, rfl, hl, c.1, fun p hp => ?_⟩
        refine ⟨p, _, _, rfl, upd_same, c.2, fun ms p' pw mm lm hp' => ?_⟩
        have em : ms = setI ns := setI_of pw fun k => by rw [mm]; simp
        subst em
        have hpn : H1 p' = none := by
          by_cases z : p' = p
          · rw [z, upd_same] at hp'; cases hp'
          · rwa [upd_ne z] at hp'
        have sm : Same H1 (upd (upd H1 p (SetO X.w p (fun j => decide (j ∈ ns)) (dedupI ns).length)) p' (.lst ((setI ns).map V.int))) := fun b o e => by
          rw [upd_ne (ne_of_none e hpn), upd_ne (ne_of_none e hp)]; exact e
        refine out_of (K := X.K) S1 k1 q _ _ sm ?_ fun _ a e => by cases e; exact hpn
        unfold Rep
        exact ⟨p', _, rfl, fun z => (S1.dom p' z).some hpn, upd_same, reps_ints _⟩
      · rw [if_neg c] at q
        exact q.elim
theorem ce_lenSet {p p2 q : Pos} (hc : X.calm = true) (hm : X.mg "len" = none) (hm2 : X.mg "set" = none) (ha : CEx X P0 O W E a ma) (hg : Gl X "len" := by rfl) (hg2 : Gl X "set" := by rfl)
    (na : starEach [a] X.env = (false, eval a X.env) :: starEach [] X.env := by rfl) (n2 : starEach [.Call (.Name "set" p2) [a] [] q] X.env = (false, eval (.Call (.Name "set" p2) [a] [] q) X.env) :: starEach [] X.env := by rfl) :
    CEx X P0 O W E (.Call (.Name "len" p) [.Call (.Name "set" p2) [a] [] q] [] pos) (cLenSet ma) :=
  PE.imp (pe_callB cr_lenSet hg hm bo_len (pa_cons (pe_callTy (cr_setOf hc) hg2 hm2 bo_set (pa_cons ha pa_nil na) (by decide) (by decide) na rfl) pa_nil n2) (by decide) (by decide) n2 rfl) fun σ H Q ⟨ρ, S, h⟩ => by
    refine ⟨ρ, S, h.of_bind.mono fun ⟨h1, ρ1⟩ q v H1 S1 k1 r1 => ?_⟩
    obtain ⟨d, e1, q⟩ := q.of_nox
    have rw1 := r1.d S1 e1
    have q : Res E W σ H (match seqI d with | some ns => if ns.length ≤ 4000 then R.ok (Hd.fr (.int (dedupI ns).length), ρ1) else .stk | none => .stk) _ := q
    cases es : seqI d with
    | none => rw [es] at q; exact q.elim
    | some ns =>
      rw [es] at q
      simp only at q
      by_cases c : ns.length ≤ 4000
      · rw [if_pos c] at q
        obtain ⟨l, rfl, hl⟩ := rw1.seqI es
        refine ⟨l, ns, rfl, hl, c, fun p hp => ⟨p, _, _, rfl, upd_same, ?_⟩⟩
        exact out_of (K := X.K) S1 k1 q _ _ (Same.new hp) (by unfold Rep; rfl) fun z => by cases z
      · rw [if_neg c] at q
        exact q.elim
end
variable {ρ : Y.Env}
@[simp] theorem e_setSort {m : EM} : cSetSort m ρ = (m ρ >>= fun p => (p.1.d p.2).nox >>= fun d => match seqI d with | some ns => if ns.length ≤ 4000 ∧ (dedupI ns).length < 64 then R.ok (.fr (.lst ((setI ns).map D.int)), p.2) else .stk | none => .stk) := id rfl
@[simp] theorem e_lenSet {m : EM} : cLenSet m ρ = (m ρ >>= fun p => (p.1.d p.2).nox >>= fun d => match seqI d with | some ns => if ns.length ≤ 4000 then R.ok (.fr (.int (dedupI ns).length), p.2) else .stk | none => .stk) := id rfl
@[simp] theorem seqI_l {ns : List Int} : seqI (.lst (ns.map D.int)) = some ns := ints_map ns
@[simp] theorem seqI_t {ns : List Int} : seqI (.tup (ns.map D.int)) = some ns := ints_map ns
end Y

set_option Elab.async false
set_option linter.all false
set_option maxRecDepth 100000
namespace Y
open PySem PySem.Spec PyProof.Rows L2
section
variable {K : PySem.W.Frag} {X : Cx} {P0 : Pr} {O W U : List Nat} {E : EK} {a b e : Expr} {sts : List Stmt} {ma mb : EM} {pos : Pos}
/-! ### a block that is not reached -/
theorem cs_stk : CSs X P0 O W U E sts (fun _ => .stk) := ⟨fun pins s σ H D I ⟨ρ, S, h⟩ => h.elim⟩
/-! ### x.index(e), x a list or a text -/
def indexD : D → D → R D
  | .lst ds, y => if (dOk (.lst ds) && dOk y) = true then (match ds.findIdx? fun z => eqP z y with | some j => .ok (.int j) | none => .stk) else .stk
  | .str x, .str y => (match Builtin.Str.occurrences x y 0 x.length 1 with | i :: _ => .ok (.int (i : Nat)) | [] => .stk)
  | _, _ => .stk
def cIndex (a b : EM) : EM := fun ρ => do
  let (h1, ρ1) ← a ρ
  let x0 ← (h1.d ρ1).nox
  match x0 with
  | .str x => do
    let (h2, ρ2) ← b ρ1
    let y ← (h2.d ρ2).nox
    let z ← (indexD (.str x) y).nox
    pure (.fr z, ρ2)
  | .lst _ => do
    let (h2, ρ2) ← b ρ1
    let x ← (h1.d ρ2).nox
    let y ← (h2.d ρ2).nox
    let z ← (indexD x y).nox
    pure (.fr z, ρ2)
  | _ => .stk
theorem dps_find {y : D} : ∀ {ds : List D} {j : Nat}, (ds.findIdx? fun z => eqP z y) = some j → (∃ z, (toPys ds)[j]? = some z ∧ PyData.eqv z (toPy y) = true) ∧ ∀ (m : Nat) (z : PyData), m < j → (toPys ds)[m]? = some z → PyData.eqv z (toPy y) = false
  | [], j, h => by simp at h
  | d :: ds, j, h => by
    rw [List.findIdx?_cons] at h
    by_cases c : eqP d y = true
    · rw [if_pos c] at h
      cases h
      exact ⟨⟨toPy d, by unfold toPys; rfl, c⟩, fun m z hm => by omega⟩
    · rw [if_neg c] at h
      cases e : ds.findIdx? fun z => eqP z y with
      | none => rw [e] at h; cases h
      | some i =>
        rw [e] at h
        cases h
        obtain ⟨⟨z, e1, e2⟩, e3⟩ := dps_find e
        refine ⟨⟨z, by unfold toPys; simpa using e1, e2⟩, fun m z hm hz => ?_⟩
        unfold toPys at hz
        cases m with
        | zero => simp at hz; subst hz; exact Bool.not_eq_true _ ▸ c
        | succ m => exact e3 m z (by have hm : m + 1 < i + 1 := hm; omega) (by simpa using hz)
theorem ce_index {apos : Pos} (hu : X.A.units + 65 < cLine) (ha : CEx X P0 O W E a ma) (hb : CEx X P0 O W E b mb) (hs : starEach [b] X.env = (false, eval b X.env) :: starEach [] X.env := by rfl) (hs2 : starEach [b] X.env = [(false, eval b X.env)] := by rfl) (hpl : (backTo pos (starEach [] X.env)).any (·.1) = false := by rfl)
    (hbase : attributeBase a "index" X.env (eval a X.env) = eval a X.env := by rfl) (hline : (apos.endLine == pos.line) = true := by rfl) (hfew : Few X pos [b] := by rfl) : CEx X P0 O W E (.Call (.Attribute a "index" apos) [b] [] pos) (cIndex ma mb) :=
  PE.imp (PE.or (pe_bm PySem.F.plainAttrs_list PySem.F.slot_list_index PySem.F.type_list_index (mt_indexD hu) ha (pa_cons hb pa_nil hs) hbase hfew hline hs hpl)
    (pe_m1 PySem.F.slot_str_index PySem.F.type_str_index mt_sindex ha hb hs2 hbase hline)) fun σ H Q ⟨ρ, S, h⟩ => by
    unfold cIndex at h
    cases em : ma ρ with
    | stk => rw [em] at h; exact h.elim
    | er c ds =>
      rw [em] at h
      exact .inl ⟨ρ, S, by rw [em]; exact h⟩
    | ok p =>
      obtain ⟨h1, ρ1⟩ := p
      rw [em] at h
      obtain ⟨x0, e0, h⟩ := Res.of_nox (show Res E W σ H ((h1.d ρ1).nox >>= _) _ from h)
      cases x0 <;> first | (exact h.elim) | skip
      · rename_i x
        refine .inr ⟨ρ, S, ?_⟩
        rw [em]
        intro v H1 S1 k1 r1
        obtain rfl := (r1.d S1 e0).str
        have h : Res E W σ H (mb ρ1 >>= fun q => (q.1.d q.2).nox >>= fun y => (indexD (.str x) y).nox >>= fun z => R.ok (Hd.fr z, q.2)) _ := h
        refine ⟨⟨x, rfl⟩, ρ1, S1, (h.of_bind.keep k1).mono fun ⟨h2, ρ2⟩ q w H2 S2 k2 r2 => ?_⟩
        obtain ⟨y, e2, q⟩ := q.of_nox
        obtain ⟨z, e3, q⟩ := q.of_nox
        have rw2 := r2.d S2 e2
        cases y <;> simp only [indexD, reduceCtorEq] at e3
        rename_i y
        obtain rfl := rw2.str
        split at e3
        · rename_i i rest eo
          cases e3
          exact ⟨x, y, i, rest, rfl, rfl, eo, (out_of (K := X.K) S2 (k1.trans k2) q).flat (by unfold Rep; rfl) rfl⟩
        · cases e3
      · rename_i ds0 _
        refine .inl ⟨ρ, S, ?_⟩
        rw [em]
        intro v H1 S1 k1 r1
        obtain ⟨l, vs, rfl, t1, t2⟩ := (r1.d S1 e0).lst
        have h : Res E W σ H (mb ρ1 >>= fun q => (h1.d q.2).nox >>= fun x => (q.1.d q.2).nox >>= fun y => (indexD x y).nox >>= fun z => R.ok (Hd.fr z, q.2)) _ := h
        refine ⟨.inl ⟨rfl, _, SqL.of t1⟩, ρ1, S1, (h.of_bind.keep k1).mono fun ⟨h2, ρ2⟩ q w H2 S2 k2 r2 => ?_⟩
        obtain ⟨x, e1, q⟩ := q.of_nox
        obtain ⟨y, e2, q⟩ := q.of_nox
        obtain ⟨z, e3, q⟩ := q.of_nox
        have rw1 := (r1.keep S1 k2).d S2 e1
        have rw2 := r2.d S2 e2
        have o := out_of (K := X.K) S2 (k1.trans k2) q
        cases x <;> simp only [indexD, reduceCtorEq] at e3
        · obtain ⟨_, _, e, _⟩ := rw1
        · rename_i ds _
          split at e3
          · rename_i c
            rw [Bool.and_eq_true] at c
            split at e3
            · rename_i j ej
              cases e3
              obtain ⟨⟨z, g1, g2⟩, g3⟩ := dps_find ej
              exact ⟨l, w, toPy y, toPys ds, j, z, rfl, rfl, by have q := rw1.dp c.1; unfold toPy at q; exact q, rw2.dp c.2, by have q := c.1; unfold dOk toPy at q; exact q, c.2, g1, g2, g3, o.flat (by unfold Rep; rfl) rfl⟩
            · cases e3
          · cases e3
end
variable {ρ : Y.Env}
@[simp] theorem e_index {a b : EM} : cIndex a b ρ = (a ρ >>= fun p => (p.1.d p.2).nox >>= fun x0 => match x0 with
    | .str x => (b p.2 >>= fun q => (q.1.d q.2).nox >>= fun y => (indexD (.str x) y).nox >>= fun z => R.ok (.fr z, q.2))
    | .lst _ => (b p.2 >>= fun q => (p.1.d q.2).nox >>= fun x => (q.1.d q.2).nox >>= fun y => (indexD x y).nox >>= fun z => R.ok (.fr z, q.2))
    | _ => .stk) := by
  unfold cIndex; congr
end Y

set_option Elab.async false
set_option linter.all false
set_option maxRecDepth 100000
namespace Y
open PySem PySem.Spec PyProof.Rows L2
theorem chkO_ws {O W : List Nat} {ρ : Y.Env} (h : (W.all fun i => O.contains i && shAt i ρ) = true) : chkO O W ρ ρ = .ok () := by
  unfold chkO
  rw [if_pos]
  intro j d e
  by_cases c : j ∈ W
  · have := List.all_eq_true.mp h j c
    rw [Bool.and_eq_true] at this
    obtain ⟨h1, h2⟩ := this
    unfold shAt at h2
    rw [e] at h2
    exact .inr (.inl ⟨by simpa using h1, h2⟩)
  · exact .inl ⟨e, c⟩
theorem nls_map {α : Type} {f : α → D} {xs : List α} (h : ∀ x ∈ xs, (f x).nl = true) : nls (xs.map f) = true := nls_all fun d hd => by
  obtain ⟨x, hx, rfl⟩ := List.mem_map.mp hd
  exact h x hx
end Y

set_option Elab.async false
set_option linter.all false
set_option maxRecDepth 100000
namespace Y
open PySem PySem.Spec PyProof.Rows L2
/-! ### f(..), own lists handed in for reading; no list is told -/
def cCallR (g : List D → R Hd) (m : AM) : EM := fun ρ => do
  let (hs, ρ1) ← m ρ
  let ds ← (dsOf hs ρ1).nox
  let h ← g ds
  match h with
  | .fr d => if d.nl = true then pure (.fr d, ρ1) else .stk
  | .vl d => if d.nl = true then pure (.vl d, ρ1) else .stk
  | .ow _ => .stk
section
variable {X : Cx} {P0 : Pr} {O W : List Nat} {E : EK} {XE : XK} {e : Expr} {es : List Expr} {ms : AM} {pos : Pos} {k np : Nat} {name : Str}
theorem reps_of_at {K : PySem.W.Frag} {H : Hp} {P : Pr} {ds : List D} {vs : List V} (hl : vs.length = ds.length) (h : ∀ (i : Nat) (d : D) (v : V), ds[i]? = some d → vs[i]? = some v → Rep K H d P v) : Reps K H ds P vs := Reps.of_get hl h
theorem tM_callR {g : List D → R Hd} (hE : ∀ c ds H, E c ds H → exE X.mg XE c ds H) (σ : St) (H : Hp) (Q : VK) (h : tM X.K P0 O W E (cCallR g ms) σ H Q) (hl : ALen ms np) : tCall (spD X.K X.mg np [] (pureF g)) [] XE (tMs X.K P0 O W E ms) σ H Q := by
  obtain ⟨ρ, S, h⟩ := h
  refine ⟨ρ, S, ?_⟩
  cases em : ms ρ with
  | stk => unfold cCallR at h; rw [em] at h; exact h.elim
  | er c ds => unfold cCallR at h; rw [em] at h; exact h
  | ok p =>
    obtain ⟨hs, ρ1⟩ := p
    unfold cCallR at h
    rw [em] at h
    intro vs H1 S1 k1 r1
    obtain ⟨ds, e1, q⟩ := Res.of_nox (show Res E W σ H ((dsOf hs ρ1).nox >>= _) _ from h)
    obtain ⟨dl, dg⟩ := dsOf_at e1
    have lv : vs.length = np := by rw [HdRs.len r1]; exact hl ρ hs ρ1 em
    have ld : ds.length = np := by rw [dl]; exact hl ρ hs ρ1 em
    rw [List.append_nil]
    generalize hP : (fun b => FA P0 O σ b ∧ ¬ ∃ (i : Nat), i ∈ O ∧ Hd.ow i ∈ hs ∧ σ[i]? = some (some (V.ref b)) : Pr) = P1
    have sub : ∀ b, P1 b → FA P0 O σ b := fun b z => by subst hP; exact z.1
    have rr : Reps X.K H1 ds P1 vs := reps_of_at (by rw [lv, ld]) fun i d v ed ev => by
      obtain ⟨h0, e2, r⟩ := HdRs.at r1 ev
      have hd := dg i h0 d e2 ed
      cases h0 with
      | fr d' => cases hd; exact r.1.less S1.dom sub
      | vl d' => cases hd; exact Rep.less S1.dom r sub
      | ow j =>
        obtain ⟨w, h1, h2⟩ := S1.own j d (look_some hd) r.1
        rw [r.2] at h1; cases h1
        refine h2.rep S1.dom sub fun a ea => ⟨fun z => ?_, .inr ⟨j, r.1, by rw [← ea]; exact r.2⟩⟩
        subst hP
        exact z.2 ⟨j, r.1, List.mem_of_getElem? e2, by rw [← ea]; exact r.2⟩
    refine ⟨lv, ds, P1, sim_args (fun b z => S1.dom b (sub b z)) rr, ld, ?_⟩
    have q := q.keep k1
    unfold pureF
    cases eg : g ds with
    | stk => rw [eg] at q; exact q.elim
    | er c xs =>
      rw [eg] at q
      exact fun H' kp => hE c xs H' (q H' (Keep.same kp.nil))
    | ok hd =>
      rw [eg] at q
      intro v H2 k2 _ r2
      have sm := Keep.nil k2
      cases hd with
      | ow j => exact q.elim
      | fr d =>
        have q : Res E W σ H1 (if d.nl = true then R.ok (Hd.fr d, ρ1) else .stk) _ := q
        by_cases c : d.nl = true
        · rw [if_pos c] at q
          refine q v H2 (S1.same sm) (k1.trans (Keep.same sm)) ⟨Rep.nl c r2.1, fun m => ?_⟩
          cases d <;> first | (simp [D.nl] at c; done) | (cases m; done)
        · rw [if_neg c] at q; exact q.elim
      | vl d =>
        have q : Res E W σ H1 (if d.nl = true then R.ok (Hd.vl d, ρ1) else .stk) _ := q
        by_cases c : d.nl = true
        · rw [if_pos c] at q
          have r2 : Rep X.K H2 d _ v := r2
          exact q v H2 (S1.same sm) (k1.trans (Keep.same sm)) (Rep.nl c r2)
        · rw [if_neg c] at q; exact q.elim
theorem ce_callR {g : List D → R Hd} {p : Pos} (G : Glo X.prog X.w X.K X.mg X.base name k np [] (pureF g)) (o : Out2 X E XE) (hr : Room k X.A) (ha : CA X P0 O W E (e :: es) ms) (hl : ALen ms np) (hg : Gl X name := by rfl) (hdb : (name == ("__debug__" : Str)) = false := by decide)
    (he : starEach (e :: es) X.env = (false, eval e X.env) :: starEach es X.env := by rfl) (hpl : (backTo pos (starEach es X.env)).any (·.1) = false := by rfl) : CEx X P0 O W E (.Call (.Name name p) (e :: es) [] pos) (cCallR g ms) := by
  obtain ⟨f, fd, ps, hm, hk, hb, _, F⟩ := G.ex
  exact PE.imp (pe_call F hr hg hm hk hb .nil o.pass ha hdb he hpl) fun σ H Q h => tM_callR o.ex σ H Q h hl
end
@[simp] theorem e_callR {g : List D → R Hd} {m : AM} {ρ : Y.Env} : cCallR g m ρ = (m ρ >>= fun p => (dsOf p.1 p.2).nox >>= fun ds => g ds >>= fun h => match h with | .fr d => (if d.nl = true then R.ok (.fr d, p.2) else .stk) | .vl d => (if d.nl = true then R.ok (.vl d, p.2) else .stk) | .ow _ => .stk) := by
  unfold cCallR; congr
end Y

set_option Elab.async false
set_option linter.all false
set_option maxRecDepth 100000
/-! x[::-1] of lists and tuples -/
namespace Y.HR
open PySem PySem.Spec PyProof.Rows L2 _root_.HT PySem.W PySem.SeqAt PySem.AutoSeq1 PySem.MeetsSeq PySem.MeetsSeq2 PySem.MeetsSeq3
section
variable {prog : Program} {w : World} {A : Around} {E : Value → Shared → Prop} {s : Shared}
theorem sliceApplied_rev {sl : Addr} {vk : Value} {n : Nat} {Q : Int × Int × Nat → Shared → Prop} (hs : s.heap.IsSliceOf sl .none .none vk) (pk : IsPart vk (some (-1)))
    (h : Q ((n : Int) - 1, -1, n) s) : wpAny (model prog w) A (Builtin.Slice.sliceApplied (.ref sl) (pure (n : Int))) Q E s := by
  obtain ⟨os, hos, hcs, hds⟩ := id hs
  unfold Builtin.Slice.sliceApplied Builtin.Slice.sliceFields
  refine wpAny_bind (wpAny_bind (wpAny_field hos hds (x := .none) rfl (wpAny_bind (wpAny_field hos hds (x := .none) rfl (wpAny_bind (wpAny_field hos hds (x := vk) rfl (wpAny_pure ?_)))))))
  refine wpAny_bind (slicePart_ pk ?_)
  show wpAny _ _ (if ((-1 : Int) == 0) = true then _ else _) _ _ s
  rw [if_neg (by decide)]
  refine wpAny_bind (slicePart_none (wpAny_bind (slicePart_none (wpAny_bind (wpAny_pure ?_)))))
  show wpAny _ _ (pure ((n : Int) - 1, (-1 : Int), Builtin.Slice.slicePlaces ((n : Int) - 1) (-1) (-1))) _ _ s
  have e : Builtin.Slice.slicePlaces ((n : Int) - 1) (-1) (-1) = n := by
    unfold Builtin.Slice.slicePlaces
    have h1 : ¬ ((-1 : Int) > 0) := by omega
    simp only [h1, if_false]
    rw [show (- -1 : Int) = 1 by decide, Int.ediv_one]
    split <;> omega
  rw [e]
  exact wpAny_pure h
theorem fm_congr {α β : Type} {f g : α → Option β} : ∀ l : List α, (∀ m ∈ l, f m = g m) → l.filterMap f = l.filterMap g
  | [], _ => rfl
  | x :: l, h => by
    have ih := fm_congr l fun m hm => h m (by simp [hm])
    rw [List.filterMap_cons, List.filterMap_cons, h x (by simp), ih]
theorem pick_rev (xs : Array Value) : ((List.range xs.size).filterMap fun (m : Nat) => xs[((xs.size : Int) - 1 + (m : Int) * -1).toNat]?).toArray = xs.toList.reverse.toArray := by
  have e : ((List.range xs.size).filterMap fun (m : Nat) => xs[((xs.size : Int) - 1 + (m : Int) * -1).toNat]?) = ((List.range xs.size).map fun k => xs.size - 1 - k).filterMap (xs[·]?) := by
    rw [List.filterMap_map]
    refine fm_congr _ fun m hm => ?_
    have := List.mem_range.mp hm
    show _ = xs[xs.size - 1 - m]?
    have : ((xs.size : Int) - 1 + (m : Int) * -1).toNat = xs.size - 1 - m := by omega
    rw [this]
  rw [e, krv_range, List.filterMap_reverse, krv_all]
theorem getItem_tuple_rev {t sl : Addr} {items : Array Value} {vk : Value} {Q : Value → Shared → Prop} (ht : IsTup s.heap t items) (hs : s.heap.IsSliceOf sl .none .none vk) (pk : IsPart vk (some (-1)))
    (h : Q (.ref s.heap.objs.size) { s with heap := s.heap.push { cls := .type "tuple", data := .seq items.toList.reverse.toArray } })
    (hsz : items.size ≤ sizeLine) : wpAny (model prog w) A (getItem (.ref t) (.ref sl)) Q E s := by
  have htake : sizeOk (.seq items.toList.reverse.toArray) := by
    show items.toList.reverse.toArray.size ≤ sizeLine
    rw [List.size_toArray, List.length_reverse, Array.length_toList]
    exact hsz
  obtain ⟨os, hos, hcs, hds⟩ := id hs
  have hTs : s.TypeIs (.ref sl) "slice" := ⟨os, hos, hcs⟩
  unfold getItem
  try with_reducible refine wpAny_holding ?_
  first | refine wpAny_bind (wpAny_pure ?_) | skip
  refine wpAny_bind (wpAny_sequenceKey ht.typeIs (by decide) ?_)
  refine wpAny_bind (wpAny_callSpecial?_slot (name := Str.ofString "__getitem__") ht.typeIs PyProof.Rows.slot_tuple_getitem
    (wpAny_call_entry PyProof.Rows.slot_tuple_getitem ht.typeIs entry_tuple_getitem ?_ (args_tuple_getitem _ _)))
  show wpAny _ _ (Builtin.Tuple.tupleItemsOf (.ref t) >>= _) _ _ s
  refine wpAny_bind (tupleItemsOf_ ht ?_)
  refine wpAny_bind (wpAny_typeOf hTs ?_)
  rw [if_pos (by decide)]
  refine wpAny_bind (sliceApplied_rev hs pk ?_)
  have hno : ¬ ((((items.size : Int) - 1) == 0 && (-1 : Int) == 1 && items.size == items.size) = true) := by simp
  show wpAny _ _ (if (((items.size : Int) - 1) == 0 && (-1 : Int) == 1 && items.size == items.size) = true then _ else _) _ _ s
  rw [if_neg hno, pick_rev]
  first
    | exact wpAny_bind (m := Builtin.Tuple.tupleExact _) (wpAny_newObj_type (wpAny_pure ⟨_, rfl, wpAny_pure h⟩) htake)
    | exact wpAny_bind (m := Builtin.Tuple.tupleExact _) (wpAny_newObj_type (wpAny_bind (wpAny_pure (wpAny_pure ⟨_, rfl, wpAny_pure h⟩))) htake)
    | exact wpAny_bind (wpAny_bind (m := Builtin.Tuple.tupleExact _) (wpAny_newObj_type (wpAny_pure (wpAny_pure ⟨_, rfl, wpAny_pure h⟩)) htake))
    | exact wpAny_bind (wpAny_bind (m := Builtin.Tuple.tupleExact _) (wpAny_newObj_type (wpAny_pure ⟨_, rfl, wpAny_pure h⟩) htake))
end
end Y.HR
namespace Y
open PySem PySem.Spec PyProof.Rows L2
def RvR (X : Cx) (r : V → Hp → VK → Prop) : Prop :=
  ∀ (pins : List (Addr × Obj)) (s : Shared) (σ : St) (H : Hp) (x : V) (v vk : Value) (sl : Addr) (Q : VK), Inv X pins σ H s → RelV x v → s.heap.IsSliceOf sl .none .none vk → IsPart vk (some (-1)) → r x H Q →
    ∃ T id, typeLookup (.type T) "__getitem__" = pure (some (.builtin id)) ∧ s.TypeIs v T ∧ wpAny (model X.prog X.w) X.A (getItem v (.ref sl)) (EP X pins σ Q) X.xe s
theorem RvR.or {X : Cx} {r r' : V → Hp → VK → Prop} (h : RvR X r) (h' : RvR X r') : RvR X (fun x H Q => r x H Q ∨ r' x H Q) := by
  intro pins s σ H x v vk sl Q I rx hs pk q
  rcases q with q | q
  · exact h pins s σ H x v vk sl Q I rx hs pk q
  · exact h' pins s σ H x v vk sl Q I rx hs pk q
section
variable {X : Cx} {e k : Expr} {te : TE} {p2 pos : Pos}
def rRvT (K : PySem.W.Frag) : V → Hp → VK → Prop := fun x H Q => ∃ a xs, x = .ref a ∧ SqT K H a xs ∧ ∀ p, H p = none → Q (.ref p) (upd H p (.tup xs.reverse))
theorem rv_tup : RvR X (rRvT X.K) := by
  intro pins s σ H x v vk sl Q I rx hs pk h
  obtain ⟨a, xs, rfl, hx, q⟩ := h
  cases rx
  obtain ⟨its, r, ht, hz⟩ := I.tuple hx
  have hlen : its.toArray.size = xs.length := by rw [List.size_toArray]; exact r.length.symm
  refine ⟨"tuple", _, PyProof.Rows.slot_tuple_getitem.lookup, ht.typeIs, ?_⟩
  refine HR.getItem_tuple_rev ht hs pk ?_ (by rw [hlen]; exact hz)
  refine ⟨.ref s.heap.objs.size, _, I.laid (t' := s.toks) (o := .tup xs.reverse) (fun b ob q => Heap.get?_push_of_some _ q) (Nat.le_refl _) ?_, rfl, q _ (I.hok.fresh (Nat.le_refl _))⟩
  exact ⟨by rw [List.length_reverse]; exact hz, _, r.reverse, IsTup.new _ _⟩
def rRvL (K : PySem.W.Frag) : V → Hp → VK → Prop := fun x H Q => ∃ a xs, x = .ref a ∧ SqL K H a xs ∧ ∀ p, H p = none → Q (.ref p) (upd H p (.lst xs.reverse))
theorem rv_list : RvR X (rRvL X.K) := by
  intro pins s σ H x v vk sl Q I rx hs pk h
  obtain ⟨a, xs, rfl, hx, q⟩ := h
  cases rx
  obtain ⟨its, r, ht, hz⟩ := I.list hx
  have hlen := r.length
  refine ⟨"list", _, slot_list_getitem.lookup, ht.isList.typeIs, ?_⟩
  refine wpAny_getItem_list_slice ht.isList hs .none .none pk (by simp) ?_ (by rw [List.size_toArray] <;> omega)
  rw [PySem.W.krv_pick]
  refine ⟨.ref s.heap.objs.size, _, I.laid (t' := s.toks) (o := .lst xs.reverse) (fun b ob q => Heap.get?_push_of_some _ q) (Nat.le_refl _) ?_, rfl, q _ (I.hok.fresh (Nat.le_refl _))⟩
  exact ⟨by rw [List.length_reverse]; exact hz, _, 0, r.reverse, Heap.get?_push_size _ rfl⟩
def tRv (r : V → Hp → VK → Prop) (te : TE) (tk : TO) : TE := fun σ H Q => te σ H fun x H1 => tk σ H1 fun l H2 => l = some (-1) ∧ r x H2 Q
theorem pe_rev {r : V → Hp → VK → Prop} {tk : TO} (hr : RvR X r) (he : PE X e te) (hk : PO X (some k) tk) : PE X (.Subscript e (.Slice none none (some k) p2) pos) (tRv r te tk) := by
  refine ⟨fun pins s σ H Q I h => ?_⟩
  refine Subscript_ (thn (he.run pins s σ H _ I h) fun v s1 ⟨x, H1, I1, r1, q1⟩ => ?_)
  refine wpAny_Slice ?_
  rw [evalPart_none]
  refine wpAny_pure ?_
  refine wpAny_pure ?_
  refine thn (hk.run pins s1 σ H1 _ I1 q1) fun vk s3 ⟨l, H3, I3, pk, e3, q3⟩ => ?_
  subst e3
  have I4 : Inv X pins σ H3 { s3 with heap := s3.heap.push { cls := .type "slice", data := .fields #[.none, .none, vk] } } := I3.kept (t' := s3.toks) fun b ob q => Heap.get?_push_of_some _ q
  obtain ⟨T, id, hT, ht, hg⟩ := hr pins { s3 with heap := s3.heap.push { cls := .type "slice", data := .fields #[.none, .none, vk] } } σ H3 x v vk s3.heap.objs.size Q I4 r1 (Heap.IsSliceOf.new ..) pk q3
  show wpAny (model X.prog X.w) X.A (subscriptTail e (.Slice none none (some k) p2) v (.ref s3.heap.objs.size)) (EP X pins σ Q) X.xe { s3 with heap := s3.heap.push { cls := .type "slice", data := .fields #[.none, .none, vk] } }
  exact tail_any (ops := [v, .ref s3.heap.objs.size]) ht hT hg (by with_unfolding_all rfl)
theorem Reps.revs {K : PySem.W.Frag} {H : Hp} {P : Pr} : ∀ {ds : List D} {vs : List V}, Reps K H ds P vs → Reps K H ds.reverse P vs.reverse
  | [], _, h => by rw [h.nil_iff]; exact Reps.nil
  | d :: ds, _, h => by
    obtain ⟨v, ws, rfl, h1, h2⟩ := h.cons_iff
    rw [List.reverse_cons, List.reverse_cons]
    exact (Reps.revs h2).append (Reps.cons h1 Reps.nil)
def revD : D → R D
  | .tup ds => .ok (.tup ds.reverse)
  | .lst ds => .ok (.lst ds.reverse)
  | _ => .stk
def cRev (a : EM) (k : OM) : EM := fun ρ => do
  let (h, ρ1) ← a ρ
  let (l, ρ2) ← k ρ1
  let d ← (h.d ρ2).nox
  let z ← (if l = some (-1) then revD d else .stk).nox
  pure (.fr z, ρ2)
variable {P0 : Pr} {O W : List Nat} {E : EK} {ma : EM} {mk : OM}
theorem ce_rev (ha : CEx X P0 O W E e ma) (hk : CO X P0 O W E (some k) mk) : CEx X P0 O W E (.Subscript e (.Slice none none (some k) p2) pos) (cRev ma mk) := PE.imp (pe_rev (rv_list.or rv_tup) ha hk) fun σ H Q ⟨ρ, S, h⟩ => by
  refine ⟨ρ, S, h.of_bind.mono fun ⟨h1, ρ1⟩ q x H1 S1 k1 r1 => ⟨ρ1, S1, (q.keep k1).of_bind.mono fun ⟨l, ρ2⟩ q2 H2 S2 k2 => ?_⟩⟩
  obtain ⟨dx, e1, q4⟩ := q2.of_nox
  obtain ⟨dz, e3, q5⟩ := q4.of_nox
  by_cases c : l = some (-1)
  · refine ⟨c, ?_⟩
    rw [if_pos c] at e3
    have rx := (r1.keep S1 k2).d S2 e1
    have out := out_of S2 (k1.trans k2) q5
    unfold revD at e3
    split at e3
    · cases e3
      obtain ⟨p, vs, rfl, t1, t2⟩ := rx.tup
      exact .inr ⟨p, vs, rfl, SqT.of t1, fun p hp => out.newT S2.dom (Reps.revs t2) hp⟩
    · cases e3
      obtain ⟨p, vs, rfl, t1, t2⟩ := rx.lst
      exact .inl ⟨p, vs, rfl, SqL.of t1, fun p hp => out.newL S2.dom (Reps.revs t2) hp⟩
    · cases e3
  · rw [if_neg c] at e3
    cases e3
/-! {} -/
def cDic0 : EM := fun ρ => .ok (.fr (.dik [] []), ρ)
theorem ce_dic0 : CEx X P0 O W E (.Dict [] [] pos) cDic0 := PE.imp pe_dnewK fun σ H Q ⟨ρ, S, h⟩ => fun p hp => by
  have out : Out X.K (FA P0 O σ) H (.dik [] []) Q := out_of S .refl fun v H' S' k r => h v H' S' k r
  refine out (.ref p) _ (Same.new hp) ?_ fun _ a e => by cases e; exact hp
  unfold Rep
  exact ⟨p, [], rfl, fun z => (S.dom p z).some hp, rfl, .inl upd_same, Reps.nil⟩
end
/-! rules for simp -/
@[simp] theorem e_rev {a : EM} {k : OM} {ρ : Env} : cRev a k ρ = (a ρ >>= fun p => k p.2 >>= fun q => (p.1.d q.2).nox >>= fun d => (if q.1 = some (-1) then revD d else .stk).nox >>= fun z => R.ok (.fr z, q.2)) := id rfl
@[simp] theorem e_dic0 {ρ : Env} : cDic0 ρ = .ok (.fr (.dik [] []), ρ) := id rfl
@[simp] theorem d_revT {x : List D} : revD (.tup x) = .ok (.tup x.reverse) := id rfl
@[simp] theorem d_revL {x : List D} : revD (.lst x) = .ok (.lst x.reverse) := id rfl
@[simp] theorem d_mulS {x : Str} {k : Int} : mulD (.str x) (.int k) = if k < 2 ^ 20 ∧ -(2 ^ 20) < k ∧ szOk (x.length * k.toNat) = true then .ok (.str (repS k x)) else .stk := id rfl
@[simp] theorem d_mulT {x : List D} {k : Int} : mulD (.tup x) (.int k) = if x.isEmpty = false ∧ -(2 ^ 20) < k ∧ k ≤ 1000 ∧ x.length ≤ 1000 then .ok (.tup (List.replicate k.toNat x).flatten) else .stk := id rfl
@[simp] theorem d_mulL {x : List D} {k : Int} : mulD (.lst x) (.int k) = if k < 2 ^ 20 ∧ -(2 ^ 20) < k ∧ szOk (x.length * k.toNat) = true then .ok (.lst (List.replicate k.toNat x).flatten) else .stk := id rfl
end Y

set_option Elab.async false
set_option linter.all false
set_option maxRecDepth 100000
namespace Y
open PySem PySem.Spec PyProof.Rows L2
/-! ### x = []; (x is built); y = x -/
section
variable {K : PySem.W.Frag} {P0 : Pr} {O W U : List Nat} {ρ : Y.Env} {σ : L2.St} {H : Hp}
theorem RepO.less2 {d : D} {P P' : Pr} {v : V} (hm : ∀ b, P b → isMut (H b)) (h : RepO K H d P v) (hp : ∀ b, P' b → P b) : RepO K H d P' v := h.mono hm (fun _ _ e _ => e) (fun b z => .inl (hp b z)) fun _ _ _ e => e
theorem Sim.openL (S : Sim K P0 O W ρ σ H) {i : Nat} {p : Addr} (hi : i ∉ O) (hl : i < ρ.length) (hp : H p = none) : Sim K P0 (i :: O) W (ρ.set i (some (.lst []))) (σ.set i (some (.ref p))) (upd H p (.lst [])) := by
  have hs : i < σ.length := Nat.lt_of_lt_of_le hl S.len
  have np : ¬ FA P0 O σ p := fun z => by have := S.dom p z; rw [hp] at this; exact this
  have gs : ∀ {j : Nat} {b : Addr}, j ∈ i :: O → (σ.set i (some (V.ref p)))[j]? = some (some (.ref b)) → (j = i ∧ b = p) ∨ (j ∈ O ∧ j ≠ i ∧ σ[j]? = some (some (.ref b))) := fun {j b} hj e => by
    by_cases hij : i = j
    · subst hij
      rw [List.getElem?_set_self hs] at e
      cases e
      exact .inl ⟨rfl, rfl⟩
    · rw [List.getElem?_set_ne hij] at e
      exact .inr ⟨(List.mem_cons.mp hj).resolve_left fun z => hij z.symm, fun z => hij z.symm, e⟩
  have fa : ∀ b, FA P0 (i :: O) (σ.set i (some (V.ref p))) b → FA P0 O σ b ∨ b = p := fun b z => by
    rcases z with z | ⟨j, hj, e⟩
    · exact .inl (.inl z)
    · rcases gs hj e with ⟨_, e⟩ | ⟨h1, _, h2⟩
      · exact .inr e
      · exact .inl (.inr ⟨j, h1, h2⟩)
  have sm : Same H (upd H p (.lst [])) := Same.new hp
  refine ⟨fun j hj => List.mem_cons_of_mem _ (S.sub j hj), by simpa using S.len, fun b z => ?_, fun j d e n => ?_, fun j d e n => ?_, fun j k a hj hk e1 e2 => ?_, fun a z hz => ?_⟩
  · by_cases hb : b = p
    · rw [hb, upd_same]; trivial
    · rw [upd_ne hb]
      rcases fa b z with z | z
      · exact S.dom b z
      · exact absurd z hb
  · have hij : i ≠ j := fun z => n (by simp [z])
    rw [List.getElem?_set_ne hij] at e ⊢
    obtain ⟨v, h1, h2⟩ := S.val j d e fun z => n (List.mem_cons_of_mem _ z)
    exact ⟨v, h1, h2.mono d S.dom (fun b o e _ => sm b o e) fun b z => (fa b z).imp id fun e => by rw [e]; exact hp⟩
  · by_cases hij : i = j
    · subst hij
      rw [List.getElem?_set_self hl] at e
      cases e
      exact ⟨_, List.getElem?_set_self hs, p, [], rfl, upd_same, Reps.nil⟩
    · rw [List.getElem?_set_ne hij] at e ⊢
      obtain ⟨v, h1, h2⟩ := S.own j d e ((List.mem_cons.mp n).resolve_left fun z => hij z.symm)
      exact ⟨v, h1, h2.mono S.dom (fun b o e _ => sm b o e) (fun b z => (fa b z).imp id fun e => by rw [e]; exact hp) fun a o _ e => sm a o e⟩
  · rcases gs hj e1 with ⟨a1, a2⟩ | ⟨a1, a2, a3⟩
    · rcases gs hk e2 with ⟨b1, b2⟩ | ⟨b1, b2, b3⟩
      · rw [a1, b1]
      · exact absurd (.inr ⟨k, b1, by rw [← a2]; exact b3⟩) np
    · rcases gs hk e2 with ⟨b1, b2⟩ | ⟨b1, b2, b3⟩
      · exact absurd (.inr ⟨j, a1, by rw [← b2]; exact a3⟩) np
      · exact S.sep j k a a1 b1 a3 b3
  · obtain ⟨j, hj, e⟩ := z
    rcases gs hj e with ⟨_, e⟩ | ⟨h1, _, h2⟩
    · exact np (.inl (by rw [← e]; exact hz))
    · exact S.sep0 a ⟨j, h1, h2⟩ hz
theorem Sim.closeL (S : Sim K P0 (i :: O) W ρ σ H) {y : Nat} {a : Addr} {ds : List D} {vs : List V} (hW : ∀ j ∈ W, j ∈ O) (hi : i ∉ O) (hy : y ∉ O) (hyi : y ≠ i) (ha : σ[i]? = some (some (.ref a))) (hH : H a = some (.lst vs)) (hr : Reps K H ds (FA P0 (i :: O) σ) vs) :
    Sim K P0 O W ((ρ.set y (some (.lst ds))).set i none) (σ.set y (some (.ref a))) H := by
  have gs : ∀ {j : Nat}, j ∈ O → (σ.set y (some (V.ref a)))[j]? = σ[j]? := fun {j} hj => List.getElem?_set_ne fun z => hy (by rw [z]; exact hj)
  have fa : ∀ b, FA P0 O (σ.set y (some (V.ref a))) b → FA P0 (i :: O) σ b := fun b z => by
    rcases z with z | ⟨j, hj, e⟩
    · exact .inl z
    · rw [gs hj] at e
      exact .inr ⟨j, List.mem_cons_of_mem _ hj, e⟩
  have oa : OA (i :: O) σ a := ⟨i, by simp, ha⟩
  have na : ¬ FA P0 O (σ.set y (some (V.ref a))) a := fun z => by
    rcases z with z | ⟨j, hj, e⟩
    · exact S.sep0 a oa z
    · rw [gs hj] at e
      exact hi (by rw [← S.sep j i a (List.mem_cons_of_mem _ hj) (by simp) e ha]; exact hj)
  refine ⟨hW, by simpa using S.len, fun b z => S.dom b (fa b z), fun j d e n => ?_, fun j d e n => ?_, fun j k b hj hk e1 e2 => ?_, fun b z => ?_⟩
  · by_cases hij : i = j
    · subst hij
      have h1 : i < ρ.length := by have := (List.getElem?_eq_some_iff.mp e).1; simpa using this
      rw [List.getElem?_set_self (by simpa using h1)] at e
      cases e
    · rw [List.getElem?_set_ne hij] at e
      by_cases hyj : y = j
      · subst hyj
        have h1 : y < ρ.length := by have := (List.getElem?_eq_some_iff.mp e).1; simpa using this
        rw [List.getElem?_set_self h1] at e
        cases e
        refine ⟨_, List.getElem?_set_self (Nat.lt_of_lt_of_le h1 S.len), ?_⟩
        unfold Rep
        exact ⟨a, vs, rfl, na, hH, hr.less S.dom fun b z => z.elim (fa b) fun z => .inr (by rw [z]; exact oa)⟩
      · rw [List.getElem?_set_ne hyj] at e ⊢
        obtain ⟨v, h1, h2⟩ := S.val j d e fun z => (List.mem_cons.mp z).elim (fun q => hij q.symm) n
        exact ⟨v, h1, h2.less S.dom fa⟩
  · have hij : i ≠ j := fun z => hi (by rw [z]; exact n)
    have hyj : y ≠ j := fun z => hy (by rw [z]; exact n)
    rw [List.getElem?_set_ne hij, List.getElem?_set_ne hyj] at e
    obtain ⟨v, h1, h2⟩ := S.own j d e (List.mem_cons_of_mem _ n)
    exact ⟨v, by rw [gs n]; exact h1, h2.less2 S.dom fa⟩
  · rw [gs hj] at e1
    rw [gs hk] at e2
    exact S.sep j k b (List.mem_cons_of_mem _ hj) (List.mem_cons_of_mem _ hk) e1 e2
  · obtain ⟨j, hj, e⟩ := z
    rw [gs hj] at e
    exact S.sep0 b ⟨j, List.mem_cons_of_mem _ hj, e⟩
end
theorem Res.chg {E : EK} {O O1 : List Nat} {σ σ1 : L2.St} {H H1 : Hp} {α : Type} {r : R α} {k : α → Prop} (h : Res E O σ H r k) (f : ∀ H', Keep O1 σ1 H1 H' → Keep O σ H H') : Res E O1 σ1 H1 r k := by
  cases r with
  | ok a => exact h
  | er c ds => exact fun H' kp => h H' (f H' kp)
  | stk => exact h
def sBuild (i y : Nat) (m : SM) : SM := fun ρ =>
  if i < ρ.length then do
    let (f, ρ2) ← m (ρ.set i (some (.lst [])))
    match f with
    | .nx => do
      let ds ← (lstAt i ρ2).nox
      pure (.nx, (ρ2.set y (some (.lst ds))).set i none)
    | _ => .stk
  else .stk
section
variable {X : Cx} {P0 : Pr} {O W U : List Nat} {E : EK} {st2 : Stmt} {m : SM}
theorem cs_build {i y : Nat} {x z : Str} {p1 p2 p3 p4 p5 p6 : Pos} (hN : X.N.Nodup) (h2 : CS X P0 (i :: O) W U E st2 m) (hW : ∀ j ∈ W, j ∈ O := by decide) (hi : i ∉ O := by decide) (hy : y ∉ O := by decide) (hyi : y ≠ i := by decide) (hu : i ∉ U := by decide) (hu2 : y ∉ U := by decide)
    (hx : X.N[i]? = some x := by rfl) (hz : X.N[y]? = some z := by rfl) (hl : Loc X.env.scope x := by first | exact Or.inl rfl | exact Or.inr rfl) (hl2 : Loc X.env.scope z := by first | exact Or.inl rfl | exact Or.inr rfl)
    (hv : Vis X.env.scope x := by first | exact Or.inl rfl | exact Or.inr rfl)
    (hf : X.fn x = true ∨ X.env.scope.names.lookup x = some .local := by first | exact .inl rfl | exact .inr rfl) (hf2 : X.fn z = true ∨ X.env.scope.names.lookup z = some .local := by first | exact .inl rfl | exact .inr rfl)
    (hd : (x == ("__debug__" : Str)) = false := by decide) (hcd : (x == ("__classdict__" : Str)) = false := by decide)
    (hs : swapsWithSole [.Name x p1] (.List [] p2) p3.line X.env = pure false := by rfl) (hw : swappedStores [.Name x p1] (.List [] p2) X.env = pure none := by rfl)
    (hs2 : swapsWithSole [.Name z p4] (.Name x p5) p6.line X.env = pure false := by rfl) (hw2 : swappedStores [.Name z p4] (.Name x p5) X.env = pure none := by rfl) :
    CSs X P0 O W U E [.Assign [.Name x p1] (.List [] p2) p3, st2, .Assign [.Name z p4] (.Name x p5) p6] (sBuild i y m) :=
  PSs.imp (pss_cons (ps_asg (pe_lst pa_nil) (pg_name hN hx hl hf) hs hw) (pss_cons h2 (pss_one (ps_asg (pe_var hx hv hd hcd) (pg_name hN hz hl2 hf2) hs2 hw2)))) fun D σ H ⟨ρ, S, h⟩ => by
    have h : Res E O σ H (if i < ρ.length then (m (ρ.set i (some (.lst []))) >>= fun q => match q.1 with | .nx => ((lstAt i q.2).nox >>= fun ds => R.ok (Fl.nx, (q.2.set y (some (.lst ds))).set i none)) | _ => .stk) else .stk) _ := h
    by_cases hlen : i < ρ.length
    · rw [if_pos hlen] at h
      refine ⟨Nat.zero_le _, fun p hp => ?_⟩
      have S1 := S.openL hi hlen hp
      have hs1 : i < σ.length := Nat.lt_of_lt_of_le hlen S.len
      have g1 : ∀ {j : Nat}, j ∈ O → (σ.set i (some (V.ref p)))[j]? = σ[j]? := fun {j} hj => List.getElem?_set_ne fun q => hi (by rw [q]; exact hj)
      have o1 : ∀ {b : Addr}, OA (i :: O) (σ.set i (some (V.ref p))) b → OA O σ b ∨ b = p := fun {b} ⟨j, hj, e⟩ => by
        by_cases hij : i = j
        · subst hij
          rw [List.getElem?_set_self hs1] at e
          cases e
          exact .inr rfl
        · rw [List.getElem?_set_ne hij] at e
          exact .inl ⟨j, (List.mem_cons.mp hj).resolve_left fun q => hij q.symm, e⟩
      have np : ∀ {b : Addr} {o : HO}, H b = some o → b ≠ p := fun e q => by rw [q, hp] at e; cases e
      refine ⟨ρ.set i (some (.lst [])), S1, ?_⟩
      have h0 := h.of_bind
      have h1 := h0.chg (O1 := i :: O) (σ1 := σ.set i (some (V.ref p))) (H1 := upd H p (.lst [])) fun H' k => ⟨fun b o e n => k.keep b o (by rw [upd_ne (np e)]; exact e) fun q => (o1 q).elim n fun q => np e q, fun b e => k.some b (by
        by_cases hb : b = p
        · rw [hb, upd_same]; intro q; cases q
        · rw [upd_ne hb]; exact e)⟩
      refine h1.mono fun ⟨f, ρ2⟩ q σ2 H2 S2 t2 l2 => ?_
      cases f with
      | bk => exact q.elim
      | ct => exact q.elim
      | rt hd => exact q.elim
      | nx =>
        obtain ⟨ds, e1, q⟩ := Res.of_nox (show Res E O σ H ((lstAt i ρ2).nox >>= fun ds => R.ok (Fl.nx, (ρ2.set y (some (.lst ds))).set i none)) _ from q)
        obtain ⟨a, vs, ha, hH, hr⟩ := S2.lst (i := i) (by simp) (lstAt_ok e1)
        refine ⟨.ref a, ha, ?_⟩
        have S3 := S2.closeL hW hi hy hyi ha hH hr
        have g3 : ∀ {j : Nat}, j ∈ O → (σ2.set y (some (V.ref a)))[j]? = σ2[j]? := fun {j} hj => List.getElem?_set_ne fun q => hy (by rw [q]; exact hj)
        refine q _ H2 S3 ⟨fun b o e n => ?_, fun b e => ?_, fun b ⟨j, hj, e⟩ => ?_, fun j hj => ?_⟩ ?_
        · exact t2.keep b o (by rw [upd_ne (np e)]; exact e) fun q => (o1 q).elim n fun q => np e q
        · refine t2.some b ?_
          by_cases hb : b = p
          · rw [hb, upd_same]; intro q; cases q
          · rw [upd_ne hb]; exact e
        · rw [g3 hj] at e
          rcases t2.own b ⟨j, List.mem_cons_of_mem _ hj, e⟩ with z | z
          · rcases o1 z with z | z
            · exact .inl z
            · exact .inr (by rw [z]; exact hp)
          · refine .inr ?_
            by_cases hb : b = p
            · rw [hb]; exact hp
            · rw [upd_ne hb] at z; exact z
        · rw [List.getElem?_set_ne fun q => hu2 (by rw [q]; exact hj), t2.unch j hj, List.getElem?_set_ne fun q => hu (by rw [q]; exact hj)]
        · rw [List.length_set, l2, List.length_set]
    · rw [if_neg hlen] at h
      exact h.elim
end
@[simp] theorem e_build {i y : Nat} {m : SM} {ρ : Y.Env} : sBuild i y m ρ = if i < ρ.length then (m (ρ.set i (some (.lst []))) >>= fun q => match q.1 with | .nx => ((lstAt i q.2).nox >>= fun ds => R.ok (Fl.nx, (q.2.set y (some (.lst ds))).set i none)) | _ => .stk) else .stk := id rfl
end Y

set_option Elab.async false
set_option linter.all false
set_option maxRecDepth 100000
namespace Y
open PySem PySem.Spec PyProof.Rows L2
/-! ### f(e, ..): f changes its first argument's list, which is new here -/
def cCallNew (g : Fn) (m : AM) : EM := fun ρ => do
  let (hs, _) ← m ρ
  match hs with
  | .fr d :: rest => do
    let ds ← (vsOf rest).nox
    if (d.ownable && nls ds) = true then do
      let (h, _) ← g (d :: ds)
      match h with
      | .ow _ => .stk
      | h => pure (h, ρ)
    else .stk
  | _ => .stk
section
variable {K : PySem.W.Frag} {H : Hp} {P : Pr}
theorem Reps.at' : ∀ {ds : List D} {vs : List V} {j : Nat} {d : D}, Reps K H ds P vs → ds[j]? = some d → ∃ v, vs[j]? = some v ∧ Rep K H d P v
  | [], _, j, d, _, e => by simp at e
  | x :: ds, _, j, d, h, e => by
    obtain ⟨v, ws, rfl, h1, h2⟩ := h.cons_iff
    cases j with
    | zero => simp at e; subst e; exact ⟨v, rfl, h1⟩
    | succ j => simpa using Reps.at' h2 (by simpa using e)
end
section
variable {X : Cx} {P0 : Pr} {Oc : List Nat} {E : EK} {XE : XK} {e : Expr} {es : List Expr} {ms : AM} {pos : Pos} {k np : Nat} {name : Str}
theorem tM_callNew {g : Fn} (hE : ∀ c ds H, E c ds H → exE X.mg XE c ds H) (hl : ALen ms np) (σ : L2.St) (H : Hp) (Q : VK) (h : tM X.K P0 Oc [] E (cCallNew g ms) σ H Q) :
    tCall (spD X.K X.mg np [0] g) [] XE (tMs X.K P0 Oc [] E ms) σ H Q := by
  obtain ⟨ρ, S, h⟩ := h
  refine ⟨ρ, S, ?_⟩
  cases em : ms ρ with
  | stk => unfold cCallNew at h; rw [em] at h; exact h.elim
  | er c ds => unfold cCallNew at h; rw [em] at h; exact h
  | ok p =>
    obtain ⟨hs, ρ1⟩ := p
    unfold cCallNew at h
    rw [em] at h
    intro vs H1 S1 k1 r1
    have lv : vs.length = np := by rw [HdRs.len r1]; exact hl ρ hs ρ1 em
    have lh : hs.length = np := hl ρ hs ρ1 em
    have h : Res E [] σ H (match hs with
      | .fr d :: rest => (vsOf rest).nox >>= fun ds => if (d.ownable && nls ds) = true then (g (d :: ds) >>= fun q => match q.1 with | .ow _ => .stk | h => R.ok (h, ρ)) else .stk
      | _ => .stk) _ := h
    cases hs with
    | nil => exact h.elim
    | cons hd rest =>
      cases hd with
      | vl d => exact h.elim
      | ow j => exact h.elim
      | fr d =>
        obtain ⟨ds, e1, q⟩ := Res.of_nox (show Res E [] σ H ((vsOf rest).nox >>= fun ds => if (d.ownable && nls ds) = true then (g (d :: ds) >>= fun q => match q.1 with | .ow _ => .stk | h => R.ok (h, ρ)) else .stk) _ from h)
        by_cases c : (d.ownable && nls ds) = true
        · rw [if_pos c] at q
          rw [Bool.and_eq_true] at c
          obtain ⟨v, ws, rfl, ⟨r2, fr⟩, r3⟩ := r1
          have rs : Reps X.K H1 ds (FA P0 Oc σ) ws := HdRs.vs r3 e1
          have new : ∀ a, v = .ref a → H a = none ∧ isMut (H1 a) ∧ ¬ FA P0 Oc σ a := fun a ea => by
            subst ea
            have r := r2
            cases d with
            | lst ds =>
              unfold Rep at r
              obtain ⟨b, vs, e, h0, h1, h2⟩ := r
              cases e
              exact ⟨fr rfl _ rfl, by rw [h1]; trivial, h0⟩
            | non => unfold Rep at r; cases r
            | bl _ => unfold Rep at r; cases r
            | int _ => unfold Rep at r; cases r
            | str _ => unfold Rep at r; cases r
            | tup _ => exact absurd c.1 (by simp [D.ownable])
            | arg _ => exact absurd c.1 (by simp [D.ownable])
            | dik _ _ => exact absurd c.1 (by simp [D.ownable])
            | dit _ _ => exact absurd c.1 (by simp [D.ownable])
          have oa : ∀ b, OA [0] ((v :: ws).map some) b → v = .ref b := fun b ⟨j, hj, e⟩ => by
            have : j = 0 := by simpa using hj
            subst this
            simpa using e
          have ld : (d :: ds).length = np := by rw [List.length_cons, ← rs.length, ← List.length_cons (a := v)]; exact lv
          rw [List.append_nil]
          have S2 : Sim X.K (FA P0 Oc σ) [0] [] ((d :: ds).map some) ((v :: ws).map some) H1 := by
            refine ⟨fun _ z => (nomatch z), by rw [List.length_map, List.length_map, ld, lv]; exact Nat.le_refl _, fun b z => ?_, fun j d' e n => ?_, fun j d' e n => ?_, fun x y a hx hy _ _ => ?_, fun a z y => (new a (oa a z)).2.2 y⟩
            · rcases z with z | z
              · exact S1.dom b z
              · exact (new b (oa b z)).2.1
            · have e := map_get.mp e
              cases j with
              | zero => exact absurd (by simp) n
              | succ j =>
                obtain ⟨w, h1, h2⟩ := Reps.at' (Reps.nl (P' := FA (FA P0 Oc σ) [0] ((v :: ws).map some)) c.2 rs) (by simpa using e)
                exact ⟨w, map_get.mpr (by simpa using h1), h2⟩
            · have e := map_get.mp e
              have : j = 0 := by simpa using n
              subst this
              have : d' = d := by simpa using e.symm
              subst this
              exact ⟨v, map_get.mpr (by simp), r2.own S1.dom c.1 fun b z => z.elim .inl fun z => .inr (oa b z)⟩
            · have : x = 0 := by simpa using hx
              have : y = 0 := by simpa using hy
              omega
          refine ⟨lv, d :: ds, FA P0 Oc σ, S2, ld, ?_⟩
          have nk : ∀ {b : Addr} {o : HO}, H b = some o → ¬ OA [0] ((v :: ws).map some) b := fun e z => by rw [(new _ (oa _ z)).1] at e; cases e
          have kk : ∀ {b : Addr} {o : HO}, H b = some o → H1 b = some o := fun e => k1.keep _ _ e fun ⟨j, hj, _⟩ => nomatch hj
          cases eg : g (d :: ds) with
          | stk => rw [eg] at q; exact q.elim
          | er c xs =>
            rw [eg] at q
            exact fun H' kp => hE c xs H' (q H' ⟨fun b o e _ => kp.keep b o (kk e) (nk e), fun b e => kp.some b (k1.some b e)⟩)
          | ok p =>
            obtain ⟨hd, os⟩ := p
            rw [eg] at q
            intro v' H2 k2 S3 r4
            have sm : Same H H2 := fun b o e => k2.keep b o (kk e) (nk e)
            have S4 := S.same sm
            cases hd with
            | ow j => exact q.elim
            | fr d' => exact q v' H2 S4 (Keep.same sm) ⟨r4.1.less S3.dom fun b z => .inl z, fun m a e => Classical.byContradiction fun z => k1.some a z (r4.2 m a e)⟩
            | vl d' => exact q v' H2 S4 (Keep.same sm) (Rep.less S3.dom r4 fun b z => .inl z)
        · rw [if_neg c] at q
          exact q.elim
theorem ce_callNew {g : Fn} {p : Pos} (G : Glo X.prog X.w X.K X.mg X.base name k np [0] g) (o : Out2 X E XE) (hr : Room k X.A) (ha : CA X P0 Oc [] E (e :: es) ms) (hl : ALen ms np) (hg : Gl X name := by rfl) (hdb : (name == ("__debug__" : Str)) = false := by decide)
    (he : starEach (e :: es) X.env = (false, eval e X.env) :: starEach es X.env := by rfl) (hpl : (backTo pos (starEach es X.env)).any (·.1) = false := by rfl) : CEx X P0 Oc [] E (.Call (.Name name p) (e :: es) [] pos) (cCallNew g ms) := by
  obtain ⟨f, fd, ps, hm, hk, hb, _, F⟩ := G.ex
  exact PE.imp (pe_call F hr hg hm hk hb .nil o.pass ha hdb he hpl) fun σ H Q h => tM_callNew o.ex hl σ H Q h
end
@[simp] theorem e_callNew {g : Fn} {m : AM} {ρ : Y.Env} : cCallNew g m ρ = (m ρ >>= fun p => match p.1 with | .fr d :: rest => ((vsOf rest).nox >>= fun ds => if (d.ownable && nls ds) = true then (g (d :: ds) >>= fun q => match q.1 with | .ow _ => .stk | h => R.ok (h, ρ)) else .stk) | _ => .stk) := by
  unfold cCallNew; congr
end Y

set_option Elab.async false
set_option linter.all false
set_option maxRecDepth 100000
namespace Y
open PySem PySem.Spec PyProof.Rows L2
/-! ### d[k], d a dict -/
section
variable {κ : Type} [DecidableEq κ]
def findD : List κ → List D → κ → Option D
  | k' :: ks, d :: ds, k => if k' = k then some d else findD ks ds k
  | _, _, _ => none
theorem findD_rep {K : PySem.W.Frag} {H : Hp} {P : Pr} {k : κ} : ∀ {ks : List κ} {ds : List D} {vs : List V}, Reps K H ds P vs → ks.length = vs.length →
    (∀ d, findD ks ds k = some d → ∃ v, valV (ks.zip vs) k = some v ∧ Rep K H d P v) ∧ (findD ks ds k = none → valV (ks.zip vs) k = none)
  | [], ds, vs, h, hl => by
    have : vs = [] := List.eq_nil_of_length_eq_zero hl.symm
    subst this
    exact ⟨fun d e => by simp [findD] at e, fun _ => rfl⟩
  | k' :: ks, [], vs, h, hl => by
    have : vs = [] := h.nil_iff
    subst this
    simp at hl
  | k' :: ks, d' :: ds, vs, h, hl => by
    obtain ⟨v, ws, rfl, h1, h2⟩ := h.cons_iff
    obtain ⟨i1, i2⟩ := findD_rep (k := k) (ks := ks) h2 (by simpa using hl)
    by_cases e : k' = k
    · refine ⟨fun d q => ?_, fun q => ?_⟩
      · rw [findD, if_pos e] at q
        cases q
        exact ⟨v, by rw [List.zip_cons_cons]; exact valV_pos e, h1⟩
      · rw [findD, if_pos e] at q; cases q
    · refine ⟨fun d q => ?_, fun q => ?_⟩
      · rw [findD, if_neg e] at q
        obtain ⟨w, w1, w2⟩ := i1 d q
        exact ⟨w, by rw [List.zip_cons_cons, valV_neg e]; exact w1, w2⟩
      · rw [findD, if_neg e] at q
        rw [List.zip_cons_cons, valV_neg e]
        exact i2 q
end
def keyOf : D → Option Key
  | .int i => some (.inl i)
  | .str x => some (.inr x)
  | _ => none
def keysOf : List D → Option (List Key)
  | [] => some []
  | d :: ds => match keyOf d with
    | some k => (keysOf ds).map (k :: ·)
    | none => none
theorem keyOf_rep {K : PySem.W.Frag} {H : Hp} {P : Pr} {d : D} {v : V} {k : Key} (h : RepW K H d P v) (e : keyOf d = some k) : v = kV k := by
  cases d <;> simp only [keyOf, Option.some.injEq, reduceCtorEq] at e
  · subst e; rw [h.int]; rfl
  · subst e; rw [h.str]; rfl
theorem keysOf_rep {K : PySem.W.Frag} {H : Hp} {P : Pr} : ∀ {ds : List D} {vs : List V} {ks : List Key}, Reps K H ds P vs → keysOf ds = some ks → vs = ks.map kV
  | [], vs, ks, h, e => by simp [keysOf] at e; subst e; exact h.nil_iff
  | d :: ds, vs, ks, h, e => by
    obtain ⟨v, ws, rfl, h1, h2⟩ := h.cons_iff
    unfold keysOf at e
    cases q : keyOf d with
    | none => rw [q] at e; cases e
    | some k =>
      rw [q] at e
      cases r : keysOf ds with
      | none => rw [r] at e; cases e
      | some ks' =>
        rw [r] at e
        cases e
        have i := keysOf_rep h2 r
        have j : v = kV k := by
          cases d <;> simp only [keyOf, Option.some.injEq, reduceCtorEq] at q
          · subst q; unfold Rep at h1; rw [h1]; rfl
          · subst q; unfold Rep at h1; rw [h1]; rfl
        rw [i, j]; rfl
/-- what d holds at the key: none where it holds nothing -/
def getDic : D → D → R (Option D)
  | .dik ks ds, y => match keyOf y with
    | some k => .ok (findD ks ds k)
    | none => .stk
  | .dit ks ds, .tup ys => match keysOf ys with
    | some k => .ok (findD ks ds k)
    | none => .stk
  | _, _ => .stk
section
variable {K : PySem.W.Frag} {H : Hp} {P : Pr}
theorem getDic_rep {dx dy : D} {x y : V} {o : Option D} (rx : RepW K H dx P x) (ry : RepW K H dy P y) (e : getDic dx dy = .ok o) :
    ∃ a r, x = .ref a ∧ DGet H a y r ∧ r.isSome = o.isSome ∧ ∀ d, o = some d → ∃ v, r = some v ∧ Rep K H d P v := by
  unfold getDic at e
  split at e
  · rename_i ks ds
    obtain ⟨a, vs, rfl, hl, rd, rs⟩ := rx
    cases q : keyOf dy with
    | none => rw [q] at e; cases e
    | some k =>
      rw [q] at e
      cases e
      obtain ⟨f1, f2⟩ := findD_rep (k := k) rs hl
      refine ⟨a, valV (ks.zip vs) k, rfl, .inl ⟨_, k, rd, keyOf_rep ry q, rfl⟩, ?_, f1⟩
      cases z : findD ks ds k with
      | none => rw [f2 z]; rfl
      | some d => obtain ⟨v, v1, _⟩ := f1 d z; rw [v1]; rfl
  · rename_i ks ds ys
    obtain ⟨a, vs, rfl, hl, rd, rs⟩ := rx
    obtain ⟨b, us, rfl, h1, h2⟩ := ry.tup
    cases q : keysOf ys with
    | none => rw [q] at e; cases e
    | some k =>
      rw [q] at e
      cases e
      obtain ⟨f1, f2⟩ := findD_rep (k := k) rs hl
      have eu := keysOf_rep h2 q
      subst eu
      refine ⟨a, valV (ks.zip vs) k, rfl, .inr ⟨_, k, b, rd, rfl, h1, rfl⟩, ?_, f1⟩
      cases z : findD ks ds k with
      | none => rw [f2 z]; rfl
      | some d => obtain ⟨v, v1, _⟩ := f1 d z; rw [v1]; rfl
  · cases e
end
def cDGet (a b : EM) : EM := fun ρ => do
  let (h1, ρ1) ← a ρ
  let (h2, ρ2) ← b ρ1
  let x ← (h1.d ρ2).nox
  let y ← (h2.d ρ2).nox
  let o ← (getDic x y).nox
  match o with
  | some z => pure (.vl z, ρ2)
  | none => .stk
def cDIn (neg : Bool) (b a : EM) : EM := fun ρ => do
  let (h2, ρ1) ← b ρ
  let (h1, ρ2) ← a ρ1
  let x ← (h1.d ρ2).nox
  let y ← (h2.d ρ2).nox
  let o ← (getDic x y).nox
  pure (.fr (.bl (if neg = true then !o.isSome else o.isSome)), ρ2)
section
variable {X : Cx} {P0 : Pr} {O W : List Nat} {E : EK} {a b : Expr} {ma mb : EM} {pos : Pos}
theorem ce_dget (hu : X.A.units + 1 < cLine) (ha : CEx X P0 O W E a ma) (hb : CEx X P0 O W E b mb) (hs : NoSl b := by intro _ _; rfl) : CEx X P0 O W E (.Subscript a b pos) (cDGet ma mb) := PE.imp (pe_dget hu ha hb hs) fun σ H Q ⟨ρ, S, h⟩ => by
  refine ⟨ρ, S, h.of_bind.mono fun ⟨h1, ρ1⟩ q x H1 S1 k1 r1 => ⟨ρ1, S1, (q.keep k1).of_bind.mono fun ⟨h2, ρ2⟩ q2 y H2 S2 k2 r2 => ?_⟩⟩
  obtain ⟨dx, e1, q3⟩ := q2.of_nox
  obtain ⟨dy, e2, q4⟩ := q3.of_nox
  obtain ⟨o, e3, q5⟩ := q4.of_nox
  have rx := (r1.keep S1 k2).d S2 e1
  have ry := r2.d S2 e2
  obtain ⟨c, r, rfl, g, _, f⟩ := getDic_rep rx ry e3
  cases o with
  | none => exact q5.elim
  | some z =>
    obtain ⟨v, rfl, rv⟩ := f z rfl
    exact ⟨c, v, rfl, g, q5 v H2 S2 (k1.trans k2) rv⟩
/-! k in d -/
theorem ce_din (hu : X.A.units + 1 < cLine) (hb : CEx X P0 O W E b mb) (ha : CEx X P0 O W E a ma) (hm : behindInMarks .In a = false := by rfl) : CEx X P0 O W E (.Compare b [.In] [a] pos) (cDIn false mb ma) := PE.imp (pe_cmp (pc_din hu hb ha) hm) fun σ H Q ⟨ρ, S, h⟩ => by
  refine ⟨ρ, S, h.of_bind.mono fun ⟨h2, ρ1⟩ q y H1 S1 k1 r2 => ⟨ρ1, S1, (q.keep k1).of_bind.mono fun ⟨h1, ρ2⟩ q2 x H2 S2 k2 r1 => ?_⟩⟩
  obtain ⟨dx, e1, q3⟩ := q2.of_nox
  obtain ⟨dy, e2, q4⟩ := q3.of_nox
  obtain ⟨o, e3, q5⟩ := q4.of_nox
  have rx := r1.d S2 e1
  have ry := (r2.keep S1 k2).d S2 e2
  obtain ⟨c, r, rfl, g, i, _⟩ := getDic_rep rx ry e3
  refine ⟨c, r, rfl, g, ?_⟩
  rw [i]
  exact (out_of (K := X.K) S2 (k1.trans k2) q5).bl
theorem ce_dnin (hu : X.A.units + 1 < cLine) (hb : CEx X P0 O W E b mb) (ha : CEx X P0 O W E a ma) (hm : behindInMarks .NotIn a = false := by rfl) : CEx X P0 O W E (.Compare b [.NotIn] [a] pos) (cDIn true mb ma) := PE.imp (pe_cmp (pc_dnotin hu hb ha) hm) fun σ H Q ⟨ρ, S, h⟩ => by
  refine ⟨ρ, S, h.of_bind.mono fun ⟨h2, ρ1⟩ q y H1 S1 k1 r2 => ⟨ρ1, S1, (q.keep k1).of_bind.mono fun ⟨h1, ρ2⟩ q2 x H2 S2 k2 r1 => ?_⟩⟩
  obtain ⟨dx, e1, q3⟩ := q2.of_nox
  obtain ⟨dy, e2, q4⟩ := q3.of_nox
  obtain ⟨o, e3, q5⟩ := q4.of_nox
  have rx := r1.d S2 e1
  have ry := (r2.keep S1 k2).d S2 e2
  obtain ⟨c, r, rfl, g, i, _⟩ := getDic_rep rx ry e3
  refine ⟨c, r, rfl, g, ?_⟩
  rw [i]
  exact (out_of (K := X.K) S2 (k1.trans k2) q5).bl
end
/-! d = {}, d an own slot: of the kind that is told -/
section
variable {K : PySem.W.Frag} {P0 : Pr} {O W U : List Nat} {ρ : Y.Env} {σ : L2.St} {H : Hp}
theorem Sim.newO (S : Sim K P0 O W ρ σ H) {i : Nat} {p : Addr} {d : D} {o : HO} (hi : i ∈ O) (hl : i < ρ.length) (hp : H p = none) (ho : isMut (some o)) (r : ∀ P, RepO K (upd H p o) d P (.ref p)) : Sim K P0 O W (ρ.set i (some d)) (σ.set i (some (.ref p))) (upd H p o) := by
  have hs : i < σ.length := Nat.lt_of_lt_of_le hl S.len
  have np : ¬ FA P0 O σ p := fun z => by have := S.dom p z; rw [hp] at this; exact this
  have gs : ∀ {j : Nat} {b : Addr}, j ∈ O → (σ.set i (some (V.ref p)))[j]? = some (some (.ref b)) → (j = i ∧ b = p) ∨ (j ≠ i ∧ σ[j]? = some (some (.ref b))) := fun {j b} hj e => by
    by_cases hij : i = j
    · subst hij
      rw [List.getElem?_set_self hs] at e
      cases e
      exact .inl ⟨rfl, rfl⟩
    · rw [List.getElem?_set_ne hij] at e
      exact .inr ⟨fun z => hij z.symm, e⟩
  have fa : ∀ b, FA P0 O (σ.set i (some (V.ref p))) b → FA P0 O σ b ∨ b = p := fun b z => by
    rcases z with z | ⟨j, hj, e⟩
    · exact .inl (.inl z)
    · rcases gs hj e with ⟨_, e⟩ | ⟨_, h2⟩
      · exact .inr e
      · exact .inl (.inr ⟨j, hj, h2⟩)
  have sm : Same H (upd H p o) := Same.new hp
  refine ⟨S.sub, by simpa using S.len, fun b z => ?_, fun j d' e n => ?_, fun j d' e n => ?_, fun j k a hj hk e1 e2 => ?_, fun a z hz => ?_⟩
  · by_cases hb : b = p
    · rw [hb, upd_same]; exact ho
    · rw [upd_ne hb]
      rcases fa b z with z | z
      · exact S.dom b z
      · exact absurd z hb
  · have hij : i ≠ j := fun z => n (by rw [← z]; exact hi)
    rw [List.getElem?_set_ne hij] at e ⊢
    obtain ⟨v, h1, h2⟩ := S.val j d' e n
    exact ⟨v, h1, h2.mono d' S.dom (fun b o e _ => sm b o e) fun b z => (fa b z).imp id fun e => by rw [e]; exact hp⟩
  · by_cases hij : i = j
    · subst hij
      rw [List.getElem?_set_self hl] at e
      cases e
      exact ⟨_, List.getElem?_set_self hs, r _⟩
    · rw [List.getElem?_set_ne hij] at e ⊢
      obtain ⟨v, h1, h2⟩ := S.own j d' e n
      exact ⟨v, h1, h2.mono S.dom (fun b o e _ => sm b o e) (fun b z => (fa b z).imp id fun e => by rw [e]; exact hp) fun a o _ e => sm a o e⟩
  · rcases gs hj e1 with ⟨a1, a2⟩ | ⟨a2, a3⟩
    · rcases gs hk e2 with ⟨b1, b2⟩ | ⟨b2, b3⟩
      · rw [a1, b1]
      · exact absurd (.inr ⟨k, hk, by rw [← a2]; exact b3⟩) np
    · rcases gs hk e2 with ⟨b1, b2⟩ | ⟨b2, b3⟩
      · exact absurd (.inr ⟨j, hj, by rw [← b2]; exact a3⟩) np
      · exact S.sep j k a hj hk a3 b3
  · obtain ⟨j, hj, e⟩ := z
    rcases gs hj e with ⟨_, e⟩ | ⟨_, h2⟩
    · exact np (.inl (by rw [← e]; exact hz))
    · exact S.sep0 a ⟨j, hj, h2⟩ hz
end
theorem tr_new {K : PySem.W.Frag} {P0 : Pr} {O W U : List Nat} {ρ : Y.Env} {σ : L2.St} {H : Hp} (S : Sim K P0 O W ρ σ H) {i : Nat} {p : Addr} {o : HO} (hi : i ∈ O) (hu : i ∉ U) (hl : i < ρ.length) (hp : H p = none) : Tr O U σ H (σ.set i (some (.ref p))) (upd H p o) where
  keep := fun b u e _ => by rw [upd_ne (ne_of_none e hp)]; exact e
  some := fun b e => by
    by_cases hb : b = p
    · rw [hb, upd_same]; intro z; cases z
    · rw [upd_ne hb]; exact e
  own := fun b ⟨j, hj, e⟩ => by
    by_cases hij : i = j
    · subst hij
      rw [List.getElem?_set_self (Nat.lt_of_lt_of_le hl S.len)] at e
      cases e
      exact .inr hp
    · rw [List.getElem?_set_ne hij] at e
      exact .inl ⟨j, hj, e⟩
  unch := fun j hj => List.getElem?_set_ne fun z => hu (by rw [z]; exact hj)
/-- tup: its keys will be tuples -/
def sDicNew (tup : Bool) (i : Nat) : SM := fun ρ => if i < ρ.length then .ok (.nx, ρ.set i (some (if tup = true then .dit [] [] else .dik [] []))) else .stk
section
variable {X : Cx} {P0 : Pr} {O W U : List Nat} {E : EK}
theorem cs_dicnew {tup : Bool} {i : Nat} {x : Str} {p p2 p3 : Pos} (hN : X.N.Nodup) (hi : i ∈ O := by decide) (hu : i ∉ U := by decide) (hx : X.N[i]? = some x := by rfl) (hl : Loc X.env.scope x := by first | exact Or.inl rfl | exact Or.inr rfl)
    (hf : X.fn x = true ∨ X.env.scope.names.lookup x = some .local := by first | exact .inl rfl | exact .inr rfl)
    (hs : swapsWithSole [.Name x p] (.Dict [] [] p2) p3.line X.env = pure false := by rfl) (hw : swappedStores [.Name x p] (.Dict [] [] p2) X.env = pure none := by rfl) :
    CS X P0 O W U E (.Assign [.Name x p] (.Dict [] [] p2) p3) (sDicNew tup i) := by
  cases tup with
  | false =>
    refine PS.imp (ps_asg pe_dnewK (pg_name hN hx hl hf) hs hw) fun D σ H ⟨ρ, S, h⟩ => fun q hq => ?_
    have h : Res E O σ H (if i < ρ.length then R.ok (Fl.nx, ρ.set i (some (.dik [] []))) else .stk) _ := h
    by_cases hlen : i < ρ.length
    · rw [if_pos hlen] at h
      exact h _ _ (S.newO hi hlen hq trivial fun P => ⟨q, [], rfl, rfl, upd_same, Reps.nil⟩) (tr_new S hi hu hlen hq) (by simp)
    · rw [if_neg hlen] at h; exact h.elim
  | true =>
    refine PS.imp (ps_asg pe_dnewT (pg_name hN hx hl hf) hs hw) fun D σ H ⟨ρ, S, h⟩ => fun q hq => ?_
    have h : Res E O σ H (if i < ρ.length then R.ok (Fl.nx, ρ.set i (some (.dit [] []))) else .stk) _ := h
    by_cases hlen : i < ρ.length
    · rw [if_pos hlen] at h
      exact h _ _ (S.newO hi hlen hq trivial fun P => ⟨q, [], rfl, rfl, upd_same, Reps.nil⟩) (tr_new S hi hu hlen hq) (by simp)
    · rw [if_neg hlen] at h; exact h.elim
end
@[simp] theorem e_dget {a b : EM} {ρ : Y.Env} : cDGet a b ρ = (a ρ >>= fun p => b p.2 >>= fun q => (p.1.d q.2).nox >>= fun x => (q.1.d q.2).nox >>= fun y => (getDic x y).nox >>= fun o => match o with | some z => R.ok (.vl z, q.2) | none => .stk) := by
  unfold cDGet; congr
end Y

set_option Elab.async false
set_option linter.all false
set_option maxRecDepth 100000
namespace Y
open PySem PySem.Spec PyProof.Rows L2
/-! ### d[k] = e, d an own dict -/
section
variable {κ : Type} [DecidableEq κ]
def setD : List κ → List D → κ → D → List D
  | k' :: ks, d' :: ds, k, d => (if k' = k then d else d') :: setD ks ds k d
  | _, _, _, _ => []
def setV : List κ → List V → κ → V → List V
  | k' :: ks, d' :: ds, k, d => (if k' = k then d else d') :: setV ks ds k d
  | _, _, _, _ => []
theorem setV_len {k : κ} {v : V} : ∀ {ks : List κ} {vs : List V}, ks.length = vs.length → (setV ks vs k v).length = ks.length
  | [], _, _ => rfl
  | _ :: _, [], h => by simp at h
  | _ :: ks, _ :: vs, h => by simp [setV, setV_len (ks := ks) (vs := vs) (by simpa using h)]
theorem set_rep {K : PySem.W.Frag} {H : Hp} {P : Pr} {k : κ} {d : D} {v : V} (r : Rep K H d P v) : ∀ {ks : List κ} {ds : List D} {vs : List V}, Reps K H ds P vs → ks.length = vs.length → Reps K H (setD ks ds k d) P (setV ks vs k v)
  | [], ds, vs, h, hl => by
    have : vs = [] := List.eq_nil_of_length_eq_zero hl.symm
    subst this
    cases ds <;> exact Reps.nil
  | k' :: ks, [], vs, h, hl => by
    have : vs = [] := h.nil_iff
    subst this
    simp at hl
  | k' :: ks, d' :: ds, vs, h, hl => by
    obtain ⟨w, ws, rfl, h1, h2⟩ := h.cons_iff
    have ih := set_rep (k := k) r (ks := ks) h2 (by simpa using hl)
    show Reps K H ((if k' = k then d else d') :: setD ks ds k d) P ((if k' = k then v else w) :: setV ks ws k v)
    by_cases e : k' = k
    · rw [if_pos e, if_pos e]; exact Reps.cons r ih
    · rw [if_neg e, if_neg e]; exact Reps.cons h1 ih
theorem map_put {k : κ} {v : V} : ∀ {ks : List κ} {vs : List V}, (ks.zip vs).map (fun kv => if kv.1 = k then (kv.1, v) else kv) = ks.zip (setV ks vs k v)
  | [], _ => rfl
  | _ :: _, [] => rfl
  | k' :: ks, w :: vs => by
    have ih := map_put (k := k) (v := v) (ks := ks) (vs := vs)
    rw [List.zip_cons_cons, List.map_cons, ih]
    show _ = (k' :: ks).zip ((if k' = k then v else w) :: setV ks vs k v)
    rw [List.zip_cons_cons]
    by_cases e : k' = k
    · rw [if_pos e, if_pos e]
    · rw [if_neg e, if_neg e]
theorem any_zip {k : κ} : ∀ {ks : List κ} {vs : List V}, ks.length = vs.length → ((ks.zip vs).any fun kv => decide (kv.1 = k)) = decide (k ∈ ks)
  | [], vs, h => by
    have : vs = [] := List.eq_nil_of_length_eq_zero h.symm
    subst this
    simp
  | _ :: _, [], h => by simp at h
  | k' :: ks, w :: vs, h => by
    have ih := any_zip (k := k) (ks := ks) (vs := vs) (by simpa using h)
    rw [List.zip_cons_cons, List.any_cons, ih, Bool.eq_iff_iff]
    simp only [Bool.or_eq_true, decide_eq_true_eq, List.mem_cons]
    exact ⟨fun h => h.imp (fun h => h.symm) id, fun h => h.imp (fun h => h.symm) id⟩
theorem zip_snoc {k : κ} {v : V} : ∀ {ks : List κ} {vs : List V}, ks.length = vs.length → ks.zip vs ++ [(k, v)] = (ks ++ [k]).zip (vs ++ [v])
  | [], vs, h => by
    have : vs = [] := List.eq_nil_of_length_eq_zero h.symm
    subst this
    rfl
  | _ :: _, [], h => by simp at h
  | k' :: ks, w :: vs, h => by
    have ih := zip_snoc (k := k) (v := v) (ks := ks) (vs := vs) (by simpa using h)
    rw [List.zip_cons_cons, List.cons_append, ih]
    rfl
def putKs (ks : List κ) (k : κ) : List κ := if k ∈ ks then ks else ks ++ [k]
def putDs (ks : List κ) (ds : List D) (k : κ) (d : D) : List D := if k ∈ ks then setD ks ds k d else ds ++ [d]
def putVs (ks : List κ) (vs : List V) (k : κ) (v : V) : List V := if k ∈ ks then setV ks vs k v else vs ++ [v]
theorem put_zip {k : κ} {v : V} {ks : List κ} {vs : List V} (hl : ks.length = vs.length) : putK (ks.zip vs) k v = (putKs ks k).zip (putVs ks vs k v) ∧ (putKs ks k).length = (putVs ks vs k v).length := by
  unfold putK putKs putVs
  rw [any_zip hl]
  by_cases c : k ∈ ks
  · rw [if_pos (decide_eq_true c), if_pos c, if_pos c, map_put]
    exact ⟨rfl, (setV_len hl).symm⟩
  · rw [if_neg (by simpa using c), if_neg c, if_neg c, zip_snoc hl]
    exact ⟨rfl, by simp [hl]⟩
theorem put_reps {K : PySem.W.Frag} {H : Hp} {P : Pr} {k : κ} {d : D} {v : V} {ks : List κ} {ds : List D} {vs : List V} (r : Rep K H d P v) (h : Reps K H ds P vs) (hl : ks.length = vs.length) : Reps K H (putDs ks ds k d) P (putVs ks vs k v) := by
  unfold putDs putVs
  by_cases c : k ∈ ks
  · rw [if_pos c, if_pos c]; exact set_rep r h hl
  · rw [if_neg c, if_neg c]; exact h.append (Reps.cons r Reps.nil)
end
def putDic : D → D → D → R D
  | .dik ks ds, y, d => match keyOf y with
    | some k => if szOk (ks.length + 1) = true then .ok (.dik (putKs ks k) (putDs ks ds k d)) else .stk
    | none => .stk
  | .dit ks ds, .tup ys, d => match keysOf ys with
    | some k => if szOk (ks.length + 1) = true then .ok (.dit (putKs ks k) (putDs ks ds k d)) else .stk
    | none => .stk
  | _, _, _ => .stk
def dicAt (i : Nat) (ρ : Y.Env) : R D := match ρ[i]? with
  | some (some (.dik ks ds)) => .ok (.dik ks ds)
  | some (some (.dit ks ds)) => .ok (.dit ks ds)
  | _ => .stk
def sDPutS (i : Nat) (mk mv : EM) : SM := fun ρ => do
  let (h, ρ1) ← mv ρ
  let d ← h.v.nox
  let _ ← (dicAt i ρ1).nox
  let (h2, ρ2) ← mk ρ1
  let k ← h2.v.nox
  let x ← (dicAt i ρ2).nox
  let z ← (putDic x k d).nox
  pure (.nx, ρ2.set i (some z))
section
variable {K : PySem.W.Frag} {X : Cx} {P0 : Pr} {O W U : List Nat} {E : EK} {e k : Expr} {ma mk : EM}
theorem dicAt_ok {i : Nat} {ρ : Y.Env} {x : D} (h : dicAt i ρ = .ok x) : ρ[i]? = some (some x) := by
  unfold dicAt at h
  split at h
  · rename_i q; cases h; exact q
  · rename_i q; cases h; exact q
  · cases h
theorem dicAt_ref {ρ : Y.Env} {σ : L2.St} {H : Hp} (S : Sim K P0 O W ρ σ H) {i : Nat} {x : D} (hi : i ∈ O) (h : dicAt i ρ = .ok x) : ∃ a, σ[i]? = some (some (.ref a)) := by
  have q := dicAt_ok h
  obtain ⟨v, h1, h2⟩ := S.own i x q hi
  cases x with
  | dik ks ds => obtain ⟨a, vs, rfl, _⟩ := h2; exact ⟨a, h1⟩
  | dit ks ds => obtain ⟨a, vs, rfl, _⟩ := h2; exact ⟨a, h1⟩
  | _ => unfold dicAt at h; rw [q] at h; cases h
theorem cs_dput {i : Nat} {x : Str} {p sp pos : Pos} (hu : X.A.units + 1 < cLine) (h : CEx X P0 O W E e ma) (hk : CEx X P0 O W E k mk) (hi : i ∈ O := by decide) (hx : X.N[i]? = some x := by rfl) (hv : Vis X.env.scope x := by first | exact Or.inl rfl | exact Or.inr (Or.inl rfl) | exact Or.inr (Or.inr rfl)) (hd : (x == ("__debug__" : Str)) = false := by decide) (hcd : (x == ("__classdict__" : Str)) = false := by decide)
    (hs : swapsWith e (some (.Subscript (.Name x p) k sp)) pos.line X.env = pure false := by rfl) :
    CS X P0 O W U E (.Assign [.Subscript (.Name x p) k sp] e pos) (sDPutS i mk ma) := PS.imp (ps_dput hu (pe_var (i := i) hx hv hd hcd) hk h hs) fun D σ H ⟨ρ, S, h⟩ => by
  refine ⟨ρ, S, (h.of_bind.down S.sub).mono fun ⟨hd, ρ1⟩ q v H1 S1 k1 r1 => ?_⟩
  obtain ⟨d, e1, q1⟩ := q.of_nox
  obtain ⟨x0, e0, q2⟩ := q1.of_nox
  obtain ⟨l, h1⟩ := dicAt_ref S1 hi e0
  refine ⟨.ref l, h1, ρ1, S1, ((q2.of_bind.down S1.sub).keep k1).mono fun ⟨hd2, ρ2⟩ q3 w H2 S2 k2 r2 => ?_⟩
  obtain ⟨dk, e2, q4⟩ := q3.of_nox
  obtain ⟨x1, e3, q5⟩ := Res.of_nox (show Res E O σ H ((dicAt i ρ2).nox >>= _) _ from q4)
  obtain ⟨z, e4, q6⟩ := Res.of_nox (show Res E O σ H ((putDic x1 dk d).nox >>= _) _ from q5)
  have rk := r2.v e2
  have rv := S1.rep k2 (r1.v e1)
  obtain ⟨v1, g1, g2⟩ := S2.own i x1 (dicAt_ok e3) hi
  rw [h1] at g1
  cases g1
  have pa : FA P0 O σ l := .inr ⟨i, hi, h1⟩
  have up : ∀ (o : HO) b u, H2 b = some u → ¬ FA P0 O σ b → upd H2 l o b = some u := fun o b u e n => by rw [upd_ne fun z => n (by rw [z]; exact pa)]; exact e
  unfold putDic at e4
  split at e4
  · rename_i ks ds
    obtain ⟨a, vs, ea, hl, hH, rs⟩ := g2
    cases ea
    cases qk : keyOf dk with
    | none => rw [qk] at e4; cases e4
    | some kk =>
      rw [qk] at e4
      simp only at e4
      split at e4
      · rename_i zs
        cases e4
        obtain ⟨pz, pl⟩ := put_zip (k := kk) (v := v) hl
        have ew : w = kV kk := keyOf_rep (rk.weak S2.dom) qk
        subst ew
        refine ⟨l, _, rfl, DPut.k hH (by rw [List.length_zip, ← hl, Nat.min_self]; exact of_decide_eq_true zs), ?_⟩
        rw [pz]
        exact q6 σ _ (S2.ownW hi h1 trivial ⟨l, _, rfl, pl, upd_same, (put_reps rv rs hl).mono _ S2.dom (up _) fun b z => .inl z⟩) (Tr.ownW S.sub (k1.trans k2) hi h1) rfl
      · cases e4
  · rename_i ks ds ys
    obtain ⟨a, vs, ea, hl, hH, rs⟩ := g2
    cases ea
    cases qk : keysOf ys with
    | none => rw [qk] at e4; cases e4
    | some kk =>
      rw [qk] at e4
      simp only at e4
      split at e4
      · rename_i zs
        cases e4
        obtain ⟨pz, pl⟩ := put_zip (k := kk) (v := v) hl
        unfold Rep at rk
        obtain ⟨b, us, rfl, b1, b2⟩ := rk
        have eu := keysOf_rep b2 qk
        subst eu
        refine ⟨l, _, rfl, DPut.t hH b1 (by rw [List.length_zip, ← hl, Nat.min_self]; exact of_decide_eq_true zs), ?_⟩
        rw [pz]
        exact q6 σ _ (S2.ownW hi h1 trivial ⟨l, _, rfl, pl, upd_same, (put_reps rv rs hl).mono _ S2.dom (up _) fun b z => .inl z⟩) (Tr.ownW S.sub (k1.trans k2) hi h1) rfl
      · cases e4
  · cases e4
end
end Y

set_option Elab.async false
set_option linter.all false
set_option maxRecDepth 100000
namespace Y
open PySem PySem.Spec PyProof.Rows L2
/-! ### try: calls; except X as e: what class it is -/
/-- a flow, or the class of a refusal -/
abbrev TM := Env → R ((Fl ⊕ Str) × Env)
abbrev XM := Env → R ((Hd ⊕ Str) × Env)
def sTry (i : Nat) (es : List Str) (m : TM) (h : Str → SM) : SM := fun ρ => do
  let (x, ρ1) ← (m ρ).nox
  match x with
  | .inl f => pure (f, ρ1)
  | .inr c => if c ∈ es ∧ i < ρ1.length then (do
      let (f, ρ2) ← (h c (ρ1.set i none)).nox
      pure (f, ρ2.set i none)) else .stk
/-- what an own class of refusals bears -/
structure ErrZ (K : PySem.W.Frag) (mg : Str → Option Value) (c : Str) : Prop where
  ex : ∃ C, mg c = some (.ref C) ∧ ExcC K C
/-- isinstance(e, x) of the classes es -/
structure IsF (K : PySem.W.Frag) (mg : Str → Option Value) (es : List Str) (x : Str) (f : Str → Bool) : Prop where
  ex : ∃ u, mg x = some (.ref u) ∧ ∀ c ∈ es, ∃ C, mg c = some (.ref C) ∧ PySem.W.kitOne K (.ref C) (.ref u) = some (f c)
/-- except x takes all of the classes es -/
structure CatF (K : PySem.W.Frag) (mg : Str → Option Value) (es : List Str) (x : Str) : Prop where
  ex : ∃ u, mg x = some (.ref u) ∧ ∀ c ∈ es, ∃ C, mg c = some (.ref C) ∧ PySem.W.exmOne K (.ref C) (.ref u) = some true
theorem call_isP {X : Cx} {a D : Addr} {oe : Obj} (Z : ExcC X.K D) (hz : Zc (.ref D) none oe) (hf : ∃ vs, oe.data = .fields vs) (hp : (a, oe) ∈ X.pn) : CallR X (.builtin "isinstance") (rIsE X.K D a) := by
  intro pins s σ H xs us Q I r q
  rcases q with ⟨c, cv, b, rfl, hc, kb, q⟩
  rcases r with _ | ⟨ra, r⟩
  rcases r with _ | ⟨rb, r⟩
  rcases r with _ | _
  have eu := hc _ rb
  subst eu
  obtain rfl := ra
  have g := (I.pin (a, oe) (List.mem_append_left _ hp)).1
  rcases hf with ⟨fs, hd⟩
  rcases oe with ⟨oc, od, oda, osl⟩
  rcases hz with ⟨z1, z2⟩
  dsimp only at z1 z2 hd
  subst z1; subst z2; subst hd
  have J : PySem.W.InstAt s.heap a ⟨.ref D, none, .fields fs, osl⟩ D none := ⟨g, rfl, rfl, trivial⟩
  exact PySem.W.kia_one (PySem.W.handS_kitx_exc Z.hg Z.hk Z.hs Z.hd Z.ha Z.hn Z.ht Z.hm) I.kIn J kb (fun y => nomatch y) fun tk => ⟨V.bl b, H, I.kept (t' := tk) fun _ _ y => y, rfl, q⟩
section
variable {X : Cx} {P0 : Pr} {O W U : List Nat} {E : EK} {XE : XK} {a b c e : Expr} {es : List Expr} {ma mb mc : EM} {ms : AM} {pos : Pos} {k np : Nat} {name : Str} {st : Stmt} {sts : List Stmt} {m n : SM}
/-! #### the body -/
def tX (K : PySem.W.Frag) (mg : Str → Option Value) (P0 : Pr) (O W : List Nat) (m : XM) (Ws : WX) : TE := fun σ H Q => ∃ ρ, Sim K P0 O W ρ σ H ∧
  Res E00 W σ H (m ρ) fun a => match a.1 with
    | .inl h => ∀ v H', Sim K P0 O W a.2 σ H' → Keep W σ H H' → HdR K P0 O H σ H' h v → Q v H'
    | .inr c => ∀ H', Sim K P0 O W a.2 σ H' → Keep W σ H H' → ∃ C, mg c = some (.ref C) ∧ Ws (.ref C) none σ H'
def tTb (K : PySem.W.Frag) (mg : Str → Option Value) (P0 : Pr) (O W U : List Nat) (m : TM) (Ws : WX) : TS := fun D σ H => ∃ ρ, Sim K P0 O W ρ σ H ∧
  Res E00 O σ H (m ρ) fun a => match a.1 with
    | .inl f => ∀ σ' H', Sim K P0 O W a.2 σ' H' → Tr O U σ H σ' H' → σ'.length = σ.length → Fin K P0 O H D σ' H' f
    | .inr c => ∀ σ' H', Sim K P0 O W a.2 σ' H' → Tr O U σ H σ' H' → σ'.length = σ.length → ∃ C, mg c = some (.ref C) ∧ Ws (.ref C) none σ' H'
/-- f(..) that may refuse -/
def cXcall (g : List D → R Hd) (m : AM) : XM := fun ρ => do
  let (hs, ρ1) ← m ρ
  let ds ← (vsOf hs).nox
  match g ds with
  | .ok (.ow _) => .stk
  | .ok h => pure (.inl h, ρ1)
  | .er c [] => pure (.inr c, ρ1)
  | _ => .stk
theorem tX_call {g : List D → R Hd} {Ws : WX} (hl : ALen ms np) (σ : St) (H : Hp) (Q : VK) (h : tX X.K X.mg P0 O W (cXcall g ms) Ws σ H Q) :
    tCallS (spD X.K X.mg np [] (pureF g)) (WE Ws) (tMs X.K P0 O W E00 ms) σ H Q := by
  obtain ⟨ρ, S, h⟩ := h
  refine ⟨ρ, S, ?_⟩
  cases em : ms ρ with
  | stk => unfold cXcall at h; rw [em] at h; exact h.elim
  | er c ds => unfold cXcall at h; rw [em] at h; exact h
  | ok p =>
    obtain ⟨hs, ρ1⟩ := p
    unfold cXcall at h
    rw [em] at h
    intro vs H1 S1 k1 r1
    obtain ⟨ds, e1, q⟩ := Res.of_nox (show Res E00 W σ H ((vsOf hs).nox >>= _) _ from h)
    have rr := HdRs.vs r1 e1
    have lv : vs.length = np := by rw [HdRs.len r1]; exact hl ρ hs ρ1 em
    refine ⟨lv, ds, FA P0 O σ, sim_args S1.dom rr, by rw [← rr.length]; exact lv, ?_⟩
    unfold pureF
    cases eg : g ds with
    | stk => rw [eg] at q; exact q.elim
    | er c xs =>
      rw [eg] at q
      cases xs with
      | cons x xs => exact q.elim
      | nil =>
        have q : ∀ H', Sim X.K P0 O W ρ1 σ H' → Keep W σ H H' → ∃ C, X.mg c = some (.ref C) ∧ Ws (.ref C) none σ H' := q
        exact fun H' kp => ⟨rfl, q H' (S1.same kp.nil) (k1.trans (Keep.same kp.nil))⟩
    | ok hd =>
      rw [eg] at q
      intro v H2 k2 _ r2
      have sm := Keep.nil k2
      cases hd with
      | ow j => exact q.elim
      | fr d =>
        have q : ∀ v H', Sim X.K P0 O W ρ1 σ H' → Keep W σ H H' → HdR X.K P0 O H σ H' (.fr d) v → Q v H' := q
        exact q v H2 (S1.same sm) (k1.trans (Keep.same sm)) ⟨r2.1.less (fun b z => (S1.same sm).dom b ((FA_nil b).mp z)) fun b z => .inl z, fun m a e => Classical.byContradiction fun z => k1.some a z (r2.2 m a e)⟩
      | vl d =>
        have q : ∀ v H', Sim X.K P0 O W ρ1 σ H' → Keep W σ H H' → HdR X.K P0 O H σ H' (.vl d) v → Q v H' := q
        exact q v H2 (S1.same sm) (k1.trans (Keep.same sm)) (Rep.less (fun b z => (S1.same sm).dom b ((FA_nil b).mp z)) r2 fun b z => .inl z)
theorem cx_call {g : List D → R Hd} {p : Pos} {Ws : WX} (G : Glo X.prog X.w X.K X.mg X.base name k np [] (pureF g)) (tk : L2N.Takes X Ws) (hr : Room k X.A) (ha : CA X P0 O W E00 (e :: es) ms) (hl : ALen ms np) (hg : Gl X name := by rfl) (hdb : (name == ("__debug__" : Str)) = false := by decide)
    (he : starEach (e :: es) X.env = (false, eval e X.env) :: starEach es X.env := by rfl) (hpl : (backTo pos (starEach es X.env)).any (·.1) = false := by rfl) : PE X (.Call (.Name name p) (e :: es) [] pos) (tX X.K X.mg P0 O W (cXcall g ms) Ws) := by
  obtain ⟨f, fd, ps, hm, hk, hb, _, F⟩ := G.ex
  exact PE.imp (pe_callS (E := WE Ws) F hr hg hm hk hb (fun σ => L2N.passAt tk σ) ha hdb he hpl) fun σ H Q h => tX_call hl σ H Q h
/-! return f(..); f(..); x = f(..) -/
def tbRet (m : XM) : TM := fun ρ => do
  let (x, ρ1) ← m ρ
  match x with
  | .inl h => pure (.inl (.rt h), ρ1)
  | .inr c => pure (.inr c, ρ1)
def tbExpr (m : XM) : TM := fun ρ => do
  let (x, ρ1) ← m ρ
  match x with
  | .inl _ => pure (.inl .nx, ρ1)
  | .inr c => pure (.inr c, ρ1)
def tbAsg (m : XM) (i : Nat) : TM := fun ρ => do
  let (x, ρ1) ← m ρ
  match x with
  | .inl h => (do
      let d ← h.v.nox
      pure (.inl .nx, ρ1.set i (some d)))
  | .inr c => pure (.inr c, ρ1)
theorem cb_ret {xm : XM} {Ws : WX} (h : PE X e (tX X.K X.mg P0 O W xm Ws)) : PS X (.Return (some e) pos) (tTb X.K X.mg P0 O W U (tbRet xm) Ws) := PS.imp (ps_ret h) fun D σ H ⟨ρ, S, h⟩ =>
  ⟨ρ, S, (h.of_bind.down S.sub).mono fun ⟨x, ρ1⟩ q => by
    cases x with
    | inl hd => exact fun v H1 S1 k1 r1 => q σ H1 S1 (Tr.of S.sub k1) rfl v r1
    | inr c => exact fun H1 S1 k1 => q σ H1 S1 (Tr.of S.sub k1) rfl⟩
theorem cb_expr {xm : XM} {Ws : WX} (h : PE X e (tX X.K X.mg P0 O W xm Ws)) (hs : swapsWith e none pos.line X.env = pure false := by rfl) : PS X (.Expr e pos) (tTb X.K X.mg P0 O W U (tbExpr xm) Ws) := PS.imp (ps_expr h hs) fun D σ H ⟨ρ, S, h⟩ =>
  ⟨ρ, S, (h.of_bind.down S.sub).mono fun ⟨x, ρ1⟩ q => by
    cases x with
    | inl hd => exact fun v H1 S1 k1 r1 => q σ H1 S1 (Tr.of S.sub k1) rfl
    | inr c => exact fun H1 S1 k1 => q σ H1 S1 (Tr.of S.sub k1) rfl⟩
theorem cb_asg {xm : XM} {Ws : WX} {i : Nat} {x : Str} {p : Pos} (hN : X.N.Nodup) (h : PE X e (tX X.K X.mg P0 O W xm Ws)) (hi : i ∉ O := by decide) (hu : i ∉ U := by decide) (hx : X.N[i]? = some x := by rfl) (hl : Loc X.env.scope x := by first | exact Or.inl rfl | exact Or.inr rfl) (hf : X.fn x = true ∨ X.env.scope.names.lookup x = some .local := by first | exact .inl rfl | exact .inr rfl)
    (hs : swapsWithSole [.Name x p] e pos.line X.env = pure false := by rfl) (hw : swappedStores [.Name x p] e X.env = pure none := by rfl) : PS X (.Assign [.Name x p] e pos) (tTb X.K X.mg P0 O W U (tbAsg xm i) Ws) := PS.imp (ps_asg h (pg_name hN hx hl hf) hs hw) fun D σ H ⟨ρ, S, h⟩ =>
  ⟨ρ, S, (h.of_bind.down S.sub).mono fun ⟨x, ρ1⟩ q => by
    cases x with
    | inl hd =>
      obtain ⟨d, e1, q⟩ := Res.of_nox (show Res E00 O σ H (hd.v.nox >>= _) _ from q)
      exact fun v H1 S1 k1 r1 => q _ H1 (S1.set hi (r1.v e1)) ((Tr.of S.sub k1).trans ⟨fun _ _ e _ => e, fun _ e => e, fun b ⟨j, hj, z⟩ => .inl ⟨j, hj, by rwa [List.getElem?_set_ne fun (y : i = j) => hi (y ▸ hj)] at z⟩, fun j hj => List.getElem?_set_ne fun (y : i = j) => hu (y ▸ hj)⟩) (by simp)
    | inr c => exact fun H1 S1 k1 => q σ H1 S1 (Tr.of S.sub k1) rfl⟩
def tbNil : TM := fun ρ => .ok (.inl .nx, ρ)
def tbIf (t : BM) (m n : TM) : TM := fun ρ => do
  let (k, ρ1) ← t ρ
  if k = true then m ρ1 else n ρ1
def tbSeq (m n : TM) : TM := fun ρ => do
  let (f, ρ1) ← m ρ
  match f with
  | .inl .nx => n ρ1
  | f => pure (f, ρ1)
theorem cb_nil {Ws : WX} : PSs X [] (tTb X.K X.mg P0 O W U tbNil Ws) := PSs.imp pss_nil fun D σ H ⟨ρ, S, h⟩ => h σ H S .refl rfl
theorem cb_one {Ws : WX} {m : TM} (h : PS X st (tTb X.K X.mg P0 O W U m Ws)) : PSs X [st] (tTb X.K X.mg P0 O W U m Ws) := pss_one h
theorem tTb_then {K : PySem.W.Frag} {mg : Str → Option Value} {Ws : WX} {m : TM} {D : Ends} {σ σ1 : St} {H H1 : Hp} {ρ1 : Env} (S1 : Sim K P0 O W ρ1 σ1 H1) (t1 : Tr O U σ H σ1 H1) (l1 : σ1.length = σ.length)
    (q : Res E00 O σ H (m ρ1) fun a => match a.1 with
    | .inl f => ∀ σ' H', Sim K P0 O W a.2 σ' H' → Tr O U σ H σ' H' → σ'.length = σ.length → Fin K P0 O H D σ' H' f
    | .inr c => ∀ σ' H', Sim K P0 O W a.2 σ' H' → Tr O U σ H σ' H' → σ'.length = σ.length → ∃ C, mg c = some (.ref C) ∧ Ws (.ref C) none σ' H') : tTb K mg P0 O W U m Ws D σ1 H1 :=
  ⟨ρ1, S1, (q.keepT t1).mono fun ⟨x, ρ2⟩ q2 => by
    cases x with
    | inl f =>
      intro σ2 H2 S2 t2 l2
      have q3 := q2 σ2 H2 S2 (t1.trans t2) (l2.trans l1)
      cases f with
      | nx => exact q3
      | bk => exact q3
      | ct => exact q3
      | rt hd => exact fun v r => q3 v (r.back t1.some)
    | inr c => exact fun σ2 H2 S2 t2 l2 => q2 σ2 H2 S2 (t1.trans t2) (l2.trans l1)⟩
theorem cb_cons {Ws : WX} {m n : TM} (h : PS X st (tTb X.K X.mg P0 O W U m Ws)) (h2 : PSs X sts (tTb X.K X.mg P0 O W U n Ws)) : PSs X (st :: sts) (tTb X.K X.mg P0 O W U (tbSeq m n) Ws) := PSs.imp (pss_cons h h2) fun D σ H ⟨ρ, S, h⟩ =>
  ⟨ρ, S, h.of_bind.mono fun ⟨f, ρ1⟩ q => by
    cases f with
    | inr c => exact q
    | inl f =>
      cases f with
      | nx => exact fun σ1 H1 S1 t1 l1 => tTb_then S1 t1 l1 q
      | bk => exact q
      | ct => exact q
      | rt hd => exact q⟩
theorem cb_if {Ws : WX} {t : BM} {m n : TM} {xs ys : List Stmt} (hc : CT X P0 O W E00 c t) (h1 : PSs X xs (tTb X.K X.mg P0 O W U m Ws)) (h2 : PSs X ys (tTb X.K X.mg P0 O W U n Ws)) : PS X (.If c xs ys pos) (tTb X.K X.mg P0 O W U (tbIf t m n) Ws) := PS.imp (ps_if hc h1 h2) fun D σ H ⟨ρ, S, h⟩ =>
  ⟨ρ, S, (h.of_bind.down S.sub).mono fun ⟨k, ρ1⟩ q H1 S1 k1 => by
    cases k with
    | true => exact (if_pos rfl).mpr (tTb_then S1 (Tr.of S.sub k1) rfl q)
    | false => exact (if_neg Bool.false_ne_true).mpr (tTb_then S1 (Tr.of S.sub k1) rfl q)⟩
/-! #### the suite -/
/-- the error lies in slot i -/
def tZ (K : PySem.W.Frag) (P0 : Pr) (O W U : List Nat) (i : Nat) (a : Addr) (m : SM) : TS := fun D σ H => σ[i]? = some (some (.ref a)) ∧ tSt K P0 O W U E00 m D σ H
def tZe (K : PySem.W.Frag) (P0 : Pr) (O W : List Nat) (i : Nat) (a : Addr) (m : EM) : TE := fun σ H Q => σ[i]? = some (some (.ref a)) ∧ tM K P0 O W E00 m σ H Q
def tZa (K : PySem.W.Frag) (P0 : Pr) (O W : List Nat) (i : Nat) (a : Addr) (m : AM) : TA := fun σ H Q => σ[i]? = some (some (.ref a)) ∧ tMs K P0 O W E00 m σ H Q
variable {i : Nat} {ad : Addr}
theorem cz_of (h : CS X P0 O W U E00 st m) : PS X st (tZ X.K P0 O W U i ad m) := PS.imp h fun _ _ _ q => q.2
theorem cz_one (h : PS X st (tZ X.K P0 O W U i ad m)) : PSs X [st] (tZ X.K P0 O W U i ad m) := pss_one h
theorem cz_cons (h : PS X st (tZ X.K P0 O W U i ad m)) (h2 : PSs X sts (tZ X.K P0 O W U i ad n)) (hi : i ∈ U := by decide) : PSs X (st :: sts) (tZ X.K P0 O W U i ad (sSeq m n)) := PSs.imp (pss_cons h h2) fun D σ H ⟨e, ρ, S, h⟩ =>
  ⟨e, ρ, S, h.of_bind.mono fun ⟨f, ρ1⟩ q σ1 H1 S1 t1 l1 => by
    cases f with
    | nx =>
      refine ⟨by rw [t1.unch i hi]; exact e, ρ1, S1, (Res.keepT (show Res E00 O σ H (n ρ1) _ from q) t1).mono fun ⟨f2, ρ2⟩ q2 σ2 H2 S2 t2 l2 => ?_⟩
      have q3 := q2 σ2 H2 S2 (t1.trans t2) (l2.trans l1)
      cases f2 with
      | nx => exact q3
      | bk => exact q3
      | ct => exact q3
      | rt hd => exact fun v r => q3 v (r.back t1.some)
    | bk => exact q σ1 H1 S1 t1 l1
    | ct => exact q σ1 H1 S1 t1 l1
    | rt hd => exact q σ1 H1 S1 t1 l1⟩
/-- isinstance(e, x) -/
theorem cz_isi {C : Addr} {oe : Obj} {cn x nm : Str} {f : Str → Bool} {cl : List Str} {p q q2 : Pos} (Z : ErrZ X.K X.mg cn) (F : IsF X.K X.mg cl x f) (hc : cn ∈ cl) (hC : X.mg cn = some (.ref C)) (hz : Zc (.ref C) none oe) (hf : ∃ vs, oe.data = .fields vs) (hp : (ad, oe) ∈ X.pn) (hm : X.mg "isinstance" = none)
    (hN : X.N[i]? = some nm := by rfl) (hv : Vis X.env.scope nm := by first | exact Or.inl rfl | exact Or.inr (Or.inl rfl)) (hd : (nm == ("__debug__" : Str)) = false := by decide) (hcd : (nm == ("__classdict__" : Str)) = false := by decide)
    (hg : Gl X "isinstance" := by rfl) (hg2 : Gl X x := by rfl) (hdb : (x == ("__debug__" : Str)) = false := by decide)
    (he : starEach [.Name nm q, .Name x q2] X.env = (false, eval (.Name nm q) X.env) :: starEach [.Name x q2] X.env := by rfl) (hpl : (backTo pos (starEach [.Name x q2] X.env)).any (·.1) = false := by rfl) (he2 : starEach [.Name x q2] X.env = (false, eval (.Name x q2) X.env) :: starEach [] X.env := by rfl) :
    PE X (.Call (.Name "isinstance" p) [.Name nm q, .Name x q2] [] pos) (tZe X.K P0 O W i ad (cC (.bl (f cn)))) := by
  obtain ⟨C', hC', Zc'⟩ := Z.ex
  rw [hC] at hC'
  cases hC'
  obtain ⟨u, hu, hk⟩ := F.ex
  refine PE.imp (pe_callB (call_isP Zc' hz hf hp) hg hm bo_isinstance (pa_cons (pe_var (i := i) hN hv hd hcd) (pa_cons (pe_glob (v := .ref u) hg2 hu rfl hdb) pa_nil he2) he) (by decide) (by decide) he hpl) fun σ H Q ⟨e, ρ, S, q⟩ => ?_
  obtain ⟨C2, hC2, hk⟩ := hk cn hc
  rw [hC] at hC2
  cases hC2
  exact ⟨.ref ad, e, .ref u, .ref u, f cn, rfl, fun _ z => z, hk, q (.bl (f cn)) H S .refl ⟨by unfold Rep; rfl, fun z => by cases z⟩⟩
theorem cz_if {t : Bool} {xs : List Stmt} (hc : PE X c (tZe X.K P0 O W i ad (cC (.bl t)))) (h1 : PSs X xs (tZ X.K P0 O W U i ad m)) (he : ∀ whole, isTrue c X.env whole = (do let v ← whole; standAt c.pos; holding [v] (truthy v)) := by intro _; rfl) : PS X (.If c xs [] pos) (tZ X.K P0 O W U i ad (if t = true then m else sSkip)) :=
  PS.imp (ps_if (pt_val hc he) h1 pss_nil) fun D σ H ⟨e, ρ, S, h⟩ => by
    refine ⟨e, ρ, S, fun v H1 S1 k1 r1 => ?_⟩
    have rv := r1.1
    unfold Rep at rv
    refine ⟨t, rv, ?_⟩
    cases t with
    | true => exact (if_pos rfl).mpr ⟨e, ρ, S1, (Res.keepT (show Res E00 O σ H (m ρ) _ from h) (Tr.of (U := U) S.sub k1)).mono fun ⟨f2, ρ2⟩ q2 σ2 H2 S2 t2 l2 => (q2 σ2 H2 S2 ((Tr.of S.sub k1).trans t2) l2).back fun b e => k1.some b e⟩
    | false =>
      have h : ∀ σ' H', Sim X.K P0 O W ρ σ' H' → Tr O U σ H σ' H' → σ'.length = σ.length → D.nx σ' H' := h
      exact (if_neg Bool.false_ne_true).mpr (h σ H1 S1 (Tr.of S.sub k1) rfl)
theorem cz_asg {tm : GM} {is : List Nat} (h : PE X e (tZe X.K P0 O W i ad ma)) (hg : CG X P0 O W tg tm is) (ho : ∀ i ∈ is, i ∉ O := by decide) (hu : ∀ i ∈ is, i ∉ U := by decide) (hs : swapsWithSole [tg] e pos.line X.env = pure false := by rfl) (hw : swappedStores [tg] e X.env = pure none := by rfl) (h1 : (assignEach [tg] X.env).map (·.2) = [assign tg X.env] := by rfl) : PS X (.Assign [tg] e pos) (tZ X.K P0 O W U i ad (sAsg ma tm)) :=
  PS.imp (ps_asg h hg hs hw h1) fun D σ H ⟨e, ρ, S, h⟩ => by
    refine ⟨e, ρ, S, (h.of_bind.down S.sub).mono fun ⟨hd, ρ1⟩ q v H1 S1 k1 r1 => ?_⟩
    obtain ⟨d, e1, q⟩ := q.of_nox
    obtain ⟨ρ2, e2, q⟩ := q.of_nox
    exact ⟨ρ1, d, ρ2, S1, r1.v e1, e2, fun σ' S' l h' => q σ' H1 S' ((Tr.of S.sub k1).trans ⟨fun _ _ e _ => e, fun _ e => e, fun b z => .inl ((OA_of (fun i hi => h' i fun y => ho i y hi) b).mp z), fun j hj => h' j fun y => hu j y hj⟩) l⟩
theorem cz_ret (h : PE X e (tZe X.K P0 O W i ad ma)) : PS X (.Return (some e) pos) (tZ X.K P0 O W U i ad (sRet ma)) := PS.imp (ps_ret h) fun D σ H ⟨e, ρ, S, h⟩ =>
  ⟨e, ρ, S, (h.of_bind.down S.sub).mono fun ⟨hd, ρ1⟩ q v H1 S1 k1 r1 => q σ H1 S1 (Tr.of S.sub k1) rfl v r1⟩
/-- in a suite a slot is set -/
theorem cs_asgU {tm : GM} {is : List Nat} (h : CEx X P0 O W E e ma) (hg : CG X P0 O W tg tm is) (ho : ∀ i ∈ is, i ∉ O := by decide) (hu : ∀ i ∈ is, i ∉ U := by decide) (hs : swapsWithSole [tg] e pos.line X.env = pure false := by rfl) (hw : swappedStores [tg] e X.env = pure none := by rfl) (h1 : (assignEach [tg] X.env).map (·.2) = [assign tg X.env] := by rfl) : CS X P0 O W U E (.Assign [tg] e pos) (sAsg ma tm) :=
  PS.imp (ps_asg h hg hs hw h1) fun D σ H ⟨ρ, S, h⟩ => by
    refine ⟨ρ, S, (h.of_bind.down S.sub).mono fun ⟨hd, ρ1⟩ q v H1 S1 k1 r1 => ?_⟩
    obtain ⟨d, e1, q⟩ := q.of_nox
    obtain ⟨ρ2, e2, q⟩ := q.of_nox
    exact ⟨ρ1, d, ρ2, S1, r1.v e1, e2, fun σ' S' l h' => q σ' H1 S' ((Tr.of S.sub k1).trans ⟨fun _ _ e _ => e, fun _ e => e, fun b z => .inl ((OA_of (fun i hi => h' i fun y => ho i y hi) b).mp z), fun j hj => h' j fun y => hu j y hj⟩) l⟩
end
section
variable {K : PySem.W.Frag} {P0 : Pr} {O W U : List Nat} {ρ : Env} {σ : St} {H : Hp}
theorem Sim.unset (S : Sim K P0 O W ρ σ H) {i : Nat} (hi : i ∉ O) (x : Option V) : Sim K P0 O W (ρ.set i none) (σ.set i x) H := by
  have no : ∀ {j : Nat} {d : D}, (ρ.set i none)[j]? = some (some d) → i ≠ j ∧ ρ[j]? = some (some d) := fun {j d} e => by
    by_cases hj : i = j
    · subst hj
      have h1 : i < ρ.length := by have := (List.getElem?_eq_some_iff.mp e).1; simpa using this
      rw [List.getElem?_set_self h1] at e; cases e
    · rw [List.getElem?_set_ne hj] at e; exact ⟨hj, e⟩
  refine S.move (by simpa using S.len) (fun j hj => ?_) (fun j hj d' e => (no e).2) fun j d' e n => ?_
  · exact List.getElem?_set_ne (fun (e : i = j) => hi (by rw [e]; exact hj))
  · obtain ⟨h1, h2⟩ := no e
    rw [List.getElem?_set_ne h1]
    exact S.val j d' h2 n
theorem Tr.unset {i : Nat} {x : Option V} (hi : i ∉ O) (hu : i ∉ U) : Tr O U σ H (σ.set i x) H :=
  ⟨fun _ _ e _ => e, fun _ e => e, fun b ⟨j, hj, z⟩ => .inl ⟨j, hj, by rwa [List.getElem?_set_ne fun (y : i = j) => hi (y ▸ hj)] at z⟩, fun j hj => List.getElem?_set_ne fun (y : i = j) => hu (y ▸ hj)⟩
theorem Tr.fewer {U' : List Nat} {σ' : St} {H' : Hp} (t : Tr O U σ H σ' H') (h : ∀ i ∈ U', i ∈ U) : Tr O U' σ H σ' H' := ⟨t.keep, t.some, t.own, fun i hi => t.unch i (h i hi)⟩
end
section
variable {X : Cx} {P0 : Pr} {O W U : List Nat} {E : EK}
theorem PSs.exi {sts : List Stmt} {α : Type} {p : α → Prop} {t : α → TS} (h : ∀ a, p a → PSs X sts (t a)) : PSs X sts (fun D σ H => ∃ a, p a ∧ t a D σ H) := ⟨fun pins s σ H D I ⟨a, pa, q⟩ => (h a pa).run pins s σ H D I q⟩
/-- try: body; except x as n: suite -/
theorem cs_try {tm : TM} {h : Str → SM} {i : Nat} {cl : List Str} {x n : Str} {body suite : List Stmt} {b₀ : Stmt} {np pos pos' : Pos} (hN : X.N.Nodup) (hcat : CatF X.K X.mg cl x) (hi : X.N[i]? = some n)
    (hb : ∀ (Ws : WX) (pn : List (Addr × Obj)) (xe : Value → Shared → Prop), L2N.Takes (X.tr pn xe) Ws → PSs (X.tr pn xe) body (tTb X.K X.mg P0 O W U tm Ws))
    (hsu : ∀ (a : Addr) (oe : Obj) (C : Addr) (cn : Str) (pn : List (Addr × Obj)), X.mg cn = some (.ref C) → cn ∈ cl → L2N.Zn (.ref C) none oe → (∃ vs, oe.data = .fields vs) → PSs (X.suite a ((a, oe) :: pn)) (b₀ :: suite) (tZ X.K P0 O W (i :: U) i a (h cn)))
    (hio : i ∉ O := by decide) (hiu : i ∉ U := by decide) (hs : X.stack = X.env :: X.outer := by rfl) (hf : X.env.frame = some X.env.locals := by rfl) (hln : X.env.kindOf n = some .local := by rfl) (hg : Gl X x := by rfl) (hdb : (x == ("__debug__" : Str)) = false := by decide) (tk : L2N.Takes X fun _ _ _ _ => False := by exact fun _ _ z => by rcases z with ⟨_, _, _, _, _, _, _, _, _, _, _, _, _, _, _, _, y⟩; exact y.elim) :
    CS X P0 O W U E (.Try body [.ExceptHandler (some (.Name x np)) (some n) (b₀ :: suite) pos'] [] [] pos) (sTry i cl tm h) := by
  obtain ⟨u, hu, hk⟩ := hcat.ex
  refine PS.imp (L2N.ps_try_as (i := i) (c := .ref u) (Wout := fun _ _ _ _ => False) (ts := fun a cls d D σ H => ∃ q : Addr × Str, (cls = .ref q.1 ∧ d = none ∧ X.mg q.2 = some (.ref q.1) ∧ q.2 ∈ cl) ∧ tZ X.K P0 O W (i :: U) i a (h q.2) D σ H) hs hf hN hi hln ⟨hg, hdb, .inl hu⟩ tk (fun Ws pn xe t _ => hb Ws pn xe t) (fun a oe cls d pn hz hfl => PSs.exi fun q hq => ?_)) fun D σ H ⟨ρ, S, r⟩ => ?_
  · obtain ⟨rfl, rfl, h1, h2⟩ := hq
    exact hsu a oe q.1 q.2 pn h1 h2 hz hfl
  · obtain ⟨⟨y, ρ1⟩, em, r⟩ := Res.of_nox r
    refine ⟨ρ, S, ?_⟩
    rw [em]
    cases y with
    | inl f => exact r
    | inr c =>
      have r : Res E O σ H (if c ∈ cl ∧ i < ρ1.length then (do
        let (f, ρ2) ← (h c (ρ1.set i none)).nox
        pure (f, ρ2.set i none)) else .stk) _ := r
      by_cases hc : c ∈ cl ∧ i < ρ1.length
      · rw [if_pos hc] at r
        intro σ1 H1 S1 t1 l1
        obtain ⟨C, hC, hm⟩ := hk c hc.1
        refine ⟨C, hC, true, hm, fun _ a na => ⟨(C, c), ⟨rfl, rfl, hC, hc.1⟩, List.getElem?_set_self (Nat.lt_of_lt_of_le hc.2 S1.len), ρ1.set i none, S1.unset hio _, ?_⟩, fun z => Bool.noConfusion z⟩
        obtain ⟨⟨f, ρ2⟩, eh, r0⟩ := Res.of_nox r
        · rw [eh]
          intro σ2 H2 S2 t2 l2
          have t3 : Tr O U σ H σ2 H2 := t1.trans ((Tr.unset hio hiu).trans (t2.fewer fun j hj => List.mem_cons_of_mem _ hj))
          have l3 : σ2.length = σ.length := by rw [l2, List.length_set, l1]
          have q := r0 (σ2.set i none) H2 (S2.unset hio none) (t3.trans (Tr.unset hio hiu)) (by rw [List.length_set, l3])
          have tt : Tr O (i :: U) σ1 H1 σ1 H1 := .refl
          cases f with
          | nx => exact q
          | bk => exact q
          | ct => exact q
          | rt hd => 
            intro v r
            refine q v ?_
            have r := r.back (Hs' := H) t1.some
            have fa : ∀ b, FA P0 O (σ2.set i none) b → FA P0 O σ2 b := fun b z => z.imp id fun ⟨j, hj, e⟩ => ⟨j, hj, by rwa [List.getElem?_set_ne fun (y : i = j) => hio (y ▸ hj)] at e⟩
            cases hd with
            | fr d => exact ⟨r.1.less S2.dom fa, r.2⟩
            | vl d => exact Rep.less S2.dom r fa
            | ow j => exact ⟨r.1, by rw [List.getElem?_set_ne fun (y : i = j) => hio (y ▸ r.1)]; exact r.2⟩
      · rw [if_neg hc] at r; exact r.elim
end
end Y

set_option Elab.async false
set_option linter.all false
set_option maxRecDepth 100000
namespace Y
open PySem PySem.Spec PyProof.Rows L2
/-- x stands for all refusals, or is the class -/
def isErr (x c : Str) : Bool := x == c || x == "NetError"
theorem all_nil {α : Type} {p : α → Prop} : ∀ c ∈ ([] : List α), p c := fun _ h => nomatch h
theorem all_cons {α : Type} {p : α → Prop} {c : α} {cl : List α} (h : p c) (t : ∀ c ∈ cl, p c) : ∀ x ∈ c :: cl, p x := List.forall_mem_cons.mpr ⟨h, t⟩
theorem isi_of {o : Option Bool} {b x : Bool} (h : o = some b) (e : b = x := by decide +kernel) : o = some x := e ▸ h
theorem kit_own {K : PySem.W.Frag} {C X : Addr} {b : Bool} (hs : PySem.W.subIn K (.ref C) (.ref C) = some true) (hd : PySem.W.hasDictIn K X = true) (ht : PySem.W.typeIn K (.ref X) = some (.type "type")) (h : PySem.W.subIn K (.ref C) (.ref X) = some b) : PySem.W.kitOne K (.ref C) (.ref X) = some b := by
  unfold PySem.W.kitOne
  by_cases e : C = X
  · subst e
    rw [hs] at h
    cases h
    rw [if_pos (by simp)]
  · rw [if_neg (by simpa using e)]
    obtain ⟨cd, hc, _⟩ := PySem.W.any_some hd
    show (if ((PySem.W.clsIn K X).isSome && PySem.W.typeIn K (.ref X) == some (.type "type")) = true then PySem.W.subIn K (.ref C) (.ref X) else none) = some b
    rw [hc, ht, if_pos (by simp)]
    exact h
variable {ρ : Y.Env}
@[simp] theorem e_try {i : Nat} {es : List Str} {m : TM} {h : Str → SM} : sTry i es m h ρ = ((m ρ).nox >>= fun p => match p.1 with | .inl f => R.ok (f, p.2) | .inr c => if c ∈ es ∧ i < p.2.length then ((h c (p.2.set i none)).nox >>= fun q => R.ok (q.1, q.2.set i none)) else .stk) := by
  unfold sTry; congr
@[simp] theorem e_xcall {g : List D → R Hd} {m : AM} : cXcall g m ρ = (m ρ >>= fun p => (vsOf p.1).nox >>= fun ds => match g ds with | .ok (.ow _) => .stk | .ok h => R.ok (.inl h, p.2) | .er c [] => R.ok (.inr c, p.2) | _ => .stk) := id rfl
@[simp] theorem e_tbret {m : XM} : tbRet m ρ = (m ρ >>= fun p => match p.1 with | .inl h => R.ok (.inl (.rt h), p.2) | .inr c => R.ok (.inr c, p.2)) := id rfl
@[simp] theorem e_tbexpr {m : XM} : tbExpr m ρ = (m ρ >>= fun p => match p.1 with | .inl _ => R.ok (.inl .nx, p.2) | .inr c => R.ok (.inr c, p.2)) := id rfl
@[simp] theorem e_tbasg {m : XM} {i : Nat} : tbAsg m i ρ = (m ρ >>= fun p => match p.1 with | .inl h => (h.v.nox >>= fun d => R.ok (.inl .nx, p.2.set i (some d))) | .inr c => R.ok (.inr c, p.2)) := id rfl
@[simp] theorem e_tbnil : tbNil ρ = .ok (.inl .nx, ρ) := id rfl
@[simp] theorem e_tbif {t : BM} {m n : TM} : tbIf t m n ρ = (t ρ >>= fun p => if p.1 = true then m p.2 else n p.2) := id rfl
@[simp] theorem e_tbseq {m n : TM} : tbSeq m n ρ = (m ρ >>= fun p => match p.1 with | .inl .nx => n p.2 | f => R.ok (f, p.2)) := by
  unfold tbSeq; congr
end Y

set_option Elab.async false
set_option linter.all false
set_option maxRecDepth 100000
namespace Y
open PySem PySem.Spec PyProof.Rows L2
/-! ### a dict is locked while it is walked -/
def DicU : HO → Prop
  | .dK _ => True
  | .dT _ => True
  | _ => False
theorem Rd.only {H : Hp} {a b : Addr} {u o : HO} (hu : DicU u) (r : Rd H a u) (e : H b = Option.some o) (n1 : ¬ DicU o) (n2 : ∀ x w, o = .frz x w → ¬ DicU w) : b ≠ a := by
  rintro rfl
  rcases r with r | ⟨x, r⟩
  · rw [e] at r; cases r; exact n1 hu
  · rw [e] at r; cases r; exact n2 _ _ rfl hu
section
variable {K : PySem.W.Frag} {H H' : Hp} {a : Addr} {u : HO}
theorem Rd.move (hu : DicU u) (k : ∀ b, b ≠ a → H' b = H b) (r : Rd H a u) (r' : Rd H' a u) {b : Addr} {o : HO} (n2 : ∀ x w, o ≠ .frz x w) (h : Rd H b o) : Rd H' b o := by
  by_cases e : b = a
  · subst e
    have : o = u := by
      rcases r with r | ⟨x, r⟩ <;> rcases h with h | ⟨y, h⟩ <;> rw [r] at h <;> cases h <;> first | rfl | exact absurd rfl (n2 _ _) | exact hu.elim
    rw [this]; exact r'
  · rcases h with h | ⟨y, h⟩
    · exact .inl (by rw [k b e]; exact h)
    · exact .inr ⟨y, by rw [k b e]; exact h⟩
mutual
theorem Rep.rd (hu : DicU u) (k : ∀ b, b ≠ a → H' b = H b) (r : Rd H a u) (r' : Rd H' a u) : ∀ {d : D} {P : Pr} {v : V}, Rep K H d P v → Rep K H' d P v
  | .non, _, _, h => by unfold Rep at h ⊢; exact h
  | .bl _, _, _, h => by unfold Rep at h ⊢; exact h
  | .int _, _, _, h => by unfold Rep at h ⊢; exact h
  | .str _, _, _, h => by unfold Rep at h ⊢; exact h
  | .tup ds, P, v, h => by
    unfold Rep at h ⊢
    obtain ⟨b, vs, e, h1, h2⟩ := h
    exact ⟨b, vs, e, by rw [k b (Rd.only hu r h1 id fun _ _ z => by cases z)]; exact h1, Reps.rd hu k r r' h2⟩
  | .lst ds, P, v, h => by
    unfold Rep at h ⊢
    obtain ⟨b, vs, e, h0, h1, h2⟩ := h
    exact ⟨b, vs, e, h0, by rw [k b (Rd.only hu r h1 id fun _ _ z => by cases z)]; exact h1, Reps.rd hu k r r' h2⟩
  | .arg ns, P, v, h => by
    unfold Rep at h ⊢
    obtain ⟨b, e, h⟩ := h
    refine ⟨b, e, ?_⟩
    rcases h with ⟨h0, h1⟩ | h
    · exact .inl ⟨h0, Rd.move hu k r r' (fun _ _ z => by cases z) h1⟩
    · exact .inr h
  | .dik ks ds, P, v, h => by
    unfold Rep at h ⊢
    obtain ⟨b, vs, e, h0, hl, h1, h2⟩ := h
    exact ⟨b, vs, e, h0, hl, Rd.move hu k r r' (fun _ _ z => by cases z) h1, Reps.rd hu k r r' h2⟩
  | .dit ks ds, P, v, h => by
    unfold Rep at h ⊢
    obtain ⟨b, vs, e, h0, hl, h1, h2⟩ := h
    exact ⟨b, vs, e, h0, hl, Rd.move hu k r r' (fun _ _ z => by cases z) h1, Reps.rd hu k r r' h2⟩
theorem Reps.rd (hu : DicU u) (k : ∀ b, b ≠ a → H' b = H b) (r : Rd H a u) (r' : Rd H' a u) : ∀ {ds : List D} {P : Pr} {vs : List V}, Reps K H ds P vs → Reps K H' ds P vs
  | [], _, _, h => by rw [h.nil_iff]; exact Reps.nil
  | d :: ds, P, vs, h => by
    obtain ⟨v, ws, rfl, h1, h2⟩ := h.cons_iff
    exact Reps.cons (Rep.rd hu k r r' h1) (Reps.rd hu k r r' h2)
end
variable {P0 : Pr} {O W U : List Nat} {ρ : Y.Env} {σ : L2.St}
theorem Sim.rd (S : Sim K P0 O W ρ σ H) (hu : DicU u) (k : ∀ b, b ≠ a → H' b = H b) (r : Rd H a u) (r' : Rd H' a u) (n : ¬ FA P0 O σ a) : Sim K P0 O W ρ σ H' where
  sub := S.sub
  len := S.len
  dom := fun b z => by rw [k b fun e => n (e ▸ z)]; exact S.dom b z
  val := fun i d e h => let ⟨v, h1, h2⟩ := S.val i d e h; ⟨v, h1, h2.rd hu k r r'⟩
  own := fun i d e h => by
    obtain ⟨v, h1, h2⟩ := S.own i d e h
    have na : ∀ b, v = .ref b → b ≠ a := fun b e z => n (.inr ⟨i, h, by rw [h1, e, z]⟩)
    refine ⟨v, h1, ?_⟩
    cases d with
    | lst ds => obtain ⟨b, vs, e, g1, g2⟩ := h2; exact ⟨b, vs, e, by rw [k b (na b e)]; exact g1, g2.rd hu k r r'⟩
    | dik ks ds => obtain ⟨b, vs, e, hl, g1, g2⟩ := h2; exact ⟨b, vs, e, hl, by rw [k b (na b e)]; exact g1, g2.rd hu k r r'⟩
    | dit ks ds => obtain ⟨b, vs, e, hl, g1, g2⟩ := h2; exact ⟨b, vs, e, hl, by rw [k b (na b e)]; exact g1, g2.rd hu k r r'⟩
    | non => exact h2
    | bl _ => exact h2
    | int _ => exact h2
    | str _ => exact h2
    | tup _ => exact h2
    | arg _ => exact h2
  sep := S.sep
  sep0 := S.sep0
theorem lock_ne {o : HO} (b : Addr) (h : b ≠ a) : upd H a o b = H b := upd_ne h
end
/-! #### the pairs of a locked dict with tuple keys -/
def ItiT (d : Addr) (o : Obj) (kvs : List (List Key × V)) : It :=
  ⟨fun i H => H d = some (.frz o (.dT kvs)) ∧ i < kvs.length, fun i H x H' => ∃ T q k v, kvs[i]? = some (k, v) ∧ H q = some (.tup (k.map kV)) ∧ x = .ref T ∧ H T = none ∧ H' = upd H T (.tup [.ref q, v]), fun i H => H d = some (.frz o (.dT kvs)) ∧ kvs.length ≤ i⟩
theorem frzV {X : Cx} {pins : List (Addr × Obj)} {σ : L2.St} {H : Hp} {s : Shared} {d : Addr} {o : Obj} {kvs : List (List Key × V)} (I : Inv X pins σ H s) (h : H d = some (.frz o (.dT kvs))) :
    (d == sysModules) = false ∧ ∃ (es : Array DictEntry) (ep : Nat), s.heap.DictRaw d es ep ∧ o.data = .dict es ep ∧ es.size = kvs.length ∧
      ∀ (i : Nat) (hi : i < es.size) (k : List Key) (v : V), kvs[i]? = some (k, v) → ∃ q, es[i].key = .ref q ∧ H q = some (.tup (k.map kV)) ∧ RelV v es[i].val := by
  have t := I.hok d _ h
  rcases t with ⟨e0, -, hs, xs, pr, o', es, ep, e1, ex, dt, ent, -⟩
  have eo : o' = o := Option.some.inj (e1.symm.trans e0)
  subst eo
  have l1 : es.size = xs.length := by have := congrArg List.length ent; simpa using this
  refine ⟨hs, es, ep, ⟨o', e0, ex, dt⟩, dt, l1.trans (Paired.length pr).symm, fun i hi k v e => ?_⟩
  obtain ⟨b, eb, c1, c2, c3⟩ := paired_get pr e
  have c := congrArg (fun l => l[i]?) ent
  simp only [List.getElem?_map, eb, Option.map_some] at c
  have c4 : es[i] = entryOfKey (tupleKind (mixKind X.prog X.w)) b := by
    have c5 : es.toList[i]? = some es[i] := by rw [Array.getElem?_toList, Array.getElem?_eq_getElem hi]
    rw [c5] at c
    exact Option.some.inj c
  refine ⟨b.2.1, by rw [c4]; rfl, c2, by rw [c4]; exact c3⟩
section
variable {P : Program} {w : World} {K : PySem.W.Frag} {d : Addr} {o : Obj} {es : Array DictEntry} {ep : Nat}
theorem turn_itemsT {kvs : List (List Key × V)} {elts : List Expr} {kk : Nat} {tpos : Pos} (it : Addr) (hod : o.data = .dict es ep) :
    Turn P w K (.Tuple elts kk tpos) (ItiT d o kvs) [it] it (fun i h => ∃ ok ov, IsItemIter h it d i kvs.length ep ok ov) where
  mem := List.mem_singleton.mpr rfl
  obj := fun i h ⟨ok, ov, e⟩ b hb => by
    cases List.mem_singleton.mp hb
    exact ⟨_, e, fun v z => nomatch z⟩
  keep := fun i h h' ⟨ok, ov, e⟩ k => ⟨ok, ov, k it (List.mem_singleton.mpr rfl) _ e⟩
  item := by
    intro X hP hw hK hc i pins s σ H E I hf ⟨ok, ov, st⟩ ⟨hd, hi⟩
    subst hP; subst hw; subst hK
    obtain ⟨_, es', ep', raw, hdt, hsz, ent⟩ := frzV I hd
    obtain ⟨rfl, rfl⟩ := dict_ep hod hdt
    have hi2 : i < es'.size := by rw [hsz]; exact hi
    obtain ⟨q, k1, k2, k3⟩ := ent i hi2 kvs[i].1 kvs[i].2 (List.getElem?_eq_getElem hi)
    rw [← hsz] at st
    have lt : it < s.heap.objs.size := Heap.lt_size st
    refine wpAny_pyNext_items_item_raw st raw hi2 fun h1 out tup _ old => ⟨_, rfl, wpAny_letOwnedTupleGo_items (s := { s with heap := h1 }) out fun h2 st2 same => ?_⟩
    have tup2 : h2.get? s.heap.objs.size = some { cls := .type "tuple", data := .seq #[es'[i].key, es'[i].val] } := (same.2 _ (Nat.ne_of_gt lt)).trans tup
    have ok2 : ObjOk X.prog X.w (upd H s.heap.objs.size (.tup [.ref q, kvs[i].2])) h2 s.heap.objs.size (.tup [.ref q, kvs[i].2]) :=
      ⟨by show 2 ≤ sizeLine; decide, [es'[i].key, es'[i].val], .cons k1 (.cons k3 .nil), ⟨_, tup2, rfl, _, rfl⟩⟩
    have J := I.turnedNew (t' := s.toks) (ch := [it]) (fun b ob hb e => (same.2 b (by simpa using hb)).trans (old b ob (by simpa using hb) e)) hf (Nat.le_refl _) ok2
    refine ⟨.ref s.heap.objs.size, _, J, rfl, ⟨_, q, _, _, List.getElem?_eq_getElem hi, k2, rfl, I.hok.fresh (Nat.le_refl _), rfl⟩, ⟨es'[i].key, es'[i].val, by rw [← hsz]; exact st2⟩, fun b hb => ?_⟩
    cases List.mem_singleton.mp hb
    rw [upd_ne (Nat.ne_of_lt lt)]
    exact (hf it hb).1
  done := by
    intro X hP hw hK hc i pins s σ H E I hf ⟨ok, ov, st⟩ ⟨hd, hi⟩
    subst hP; subst hw; subst hK
    obtain ⟨_, es', ep', raw, hdt, hsz, ent⟩ := frzV I hd
    obtain ⟨rfl, rfl⟩ := dict_ep hod hdt
    obtain ⟨g0, g1, g2, g3, g4, g5⟩ := hf it (List.mem_singleton.mpr rfl)
    rw [← hsz] at st
    exact wpAny_pyNext_items_end_raw (I.ok.hd hc) st raw (by rw [hsz]; exact hi) fun h1 eb => ⟨rfl, I.turned (t' := s.toks) (fun b ob hb e => eb b ob hb e) g0 g1 g3 g4 g5⟩
  self := fun A i s Q E ⟨_, _, e⟩ h => PySem.W.kcp_self e h
end
def iItemsT (td : TE) : TI := fun σ H R => td σ H fun x H1 => ∃ d o kvs, x = .ref d ∧ H1 d = some (.frz o (.dT kvs)) ∧ R (ItiT d o kvs) H1
theorem pi_itemsT {X : Cx} {e : Expr} {td : TE} {apos cpos : Pos} {elts : List Expr} {kk : Nat} {tpos : Pos} (he : PE X e td) (hbase : attributeBase e "items" X.env (eval e X.env) = eval e X.env := by rfl) (hline : (apos.endLine == cpos.line) = true := by rfl) :
    PI X (.Tuple elts kk tpos) (.Call (.Attribute e "items" apos) [] [] cpos) (iItemsT td) := by
  refine ⟨fun pins s σ H R I h => wpAny_Call_method (T := "dict") (id := "dict.items") hbase rfl hline F.plainAttrs_dict F.slot_dict_items F.type_dict_items (thn (he.run pins s σ H _ I h) fun u s1 ⟨x, H1, I1, rx, d, o, kvs, ex, hd, q⟩ => ?_)⟩
  cases ex
  cases (show u = Value.ref d from rx)
  obtain ⟨hs, es, ep, raw, hdt, hsz, ent⟩ := frzV I1 hd
  obtain ⟨o1, g1, g2, g3⟩ := id raw
  refine ⟨raw.typeIs, ?_, ?_⟩
  · intro b e
    cases e
    exact ⟨o1, g1, g2.2.1⟩
  · have I2 : Inv X pins σ H1 { s1 with heap := s1.heap.push { cls := .type "dict_items", data := .fields #[.ref d] } } := I1.kept (t' := s1.toks) fun b ob q => Heap.get?_push_of_some _ q
    have fin : wpAny (model X.prog X.w) X.A (pyIter (.ref s1.heap.objs.size)) (PIE X pins σ (.Tuple elts kk tpos) R) X.xe { s1 with heap := s1.heap.push { cls := .type "dict_items", data := .fields #[.ref d] } } :=
      wpAny_pyIter_items_raw (d := d) ⟨_, Heap.get?_push_size _ rfl, rfl, rfl⟩ (raw.at fun _ e => Heap.get?_push_of_some _ e) (pi_one (tk := s1.toks) I2 _ (turn_itemsT _ hdt) ⟨.none, .none, by rw [← hsz]; exact Heap.get?_push_size _ rfl⟩ q)
    show wpAny _ _ (callWith cpos (.builtin "dict.items") [.ref d] [] []) _ X.xe s1
    exact method_meetsIn F.slot_dict_items F.entry_dict_items rfl (PySem.evalArgs_none ⟨rfl, raw.typeIs, F.args_dict_items_1 _, _, meets_dict_items_raw d hs, ⟨es, ep, raw⟩, fin⟩)

/-! #### for k, v in d.items() -/
def keyD : Key → D
  | .inl i => .int i
  | .inr x => .str x
def dicItems : D → R (List D)
  | .dik ks ds => .ok ((ks.zip ds).map fun p => .tup [keyD p.1, p.2])
  | .dit ks ds => .ok ((ks.zip ds).map fun p => .tup [.tup (p.1.map keyD), p.2])
  | _ => .stk
def cItems (i : Nat) : IM := fun ρ => do
  let d ← (look i ρ).nox
  let ds ← (dicItems d).nox
  if szOk ds.length = true then pure ((ds, []), ρ) else .stk
def sForD (m : SM) : SM := fun ρ => (m ρ).nox
theorem rep_key {K : PySem.W.Frag} {H : Hp} {P : Pr} (k : Key) : Rep K H (keyD k) P (kV k) := by
  cases k <;> (show Rep K H _ P _; unfold keyD Rep; rfl)
theorem reps_keys {K : PySem.W.Frag} {H : Hp} {P : Pr} : ∀ k : List Key, Reps K H (k.map keyD) P (k.map kV)
  | [] => Reps.nil
  | k :: ks => Reps.cons (rep_key k) (reps_keys ks)
section
variable {K : PySem.W.Frag} {O W : List Nat} {a : Addr} {o : Obj} {ds : List D} {vs : List V}
theorem zip_at {α β : Type} {ks : List α} {ds : List β} {i : Nat} {p : α × β} (h : (ks.zip ds)[i]? = some p) : ks[i]? = some p.1 ∧ ds[i]? = some p.2 := by
  obtain ⟨k, d⟩ := p
  exact List.getElem?_zip_eq_some.mp h
theorem src_items {κ : Type} {ks : List κ} {J : It} {f : κ → D} {mk : List (κ × V) → HO} (hJ1 : ∀ i H, H a = some (.frz o (mk (ks.zip vs))) → i < (ks.zip vs).length → J.go i H) (hJ2 : ∀ i H, H a = some (.frz o (mk (ks.zip vs))) → (ks.zip vs).length ≤ i → J.stop i H)
    (hJ3 : ∀ i H x H', J.yld i H x H' → ∃ T k v kv, (ks.zip vs)[i]? = some (k, v) ∧ (∀ P, Rep K H (f k) P kv) ∧ x = .ref T ∧ H T = none ∧ H' = upd H T (.tup [kv, v])) (hl : ks.length = vs.length) (hd : vs.length = ds.length) :
    Src K O W ((ks.zip ds).map fun p => .tup [f p.1, p.2]) [] J (fun P0 _ σ H => H a = some (.frz o (mk (ks.zip vs))) ∧ ¬ FA P0 O σ a ∧ Reps K H ds (FA P0 O σ) vs) where
  go := fun P0 i ρ σ H S ⟨h1, _, _⟩ hi => hJ1 i H h1 (by rw [List.length_zip] ; simp at hi; omega)
  stop := fun P0 ρ σ H S ⟨h1, _, _⟩ => hJ2 _ H h1 (by simp; omega)
  yld := fun P0 i ρ σ H x H' d S ⟨h1, h2, h3⟩ hd' y => by
    obtain ⟨T, k, v, kv, e1, e2, rfl, hT, rfl⟩ := hJ3 i H x H' y
    rw [List.getElem?_map] at hd'
    cases q : (ks.zip ds)[i]? with
    | none => rw [q] at hd'; cases hd'
    | some p =>
      rw [q] at hd'
      cases hd'
      obtain ⟨k1, k2⟩ := zip_at q
      obtain ⟨k3, k4⟩ := zip_at e1
      rw [k1] at k3
      cases k3
      obtain ⟨v', k5, r⟩ := h3.get k2
      rw [k4] at k5
      cases k5
      exact ⟨Same.new hT, Rep.newT S.dom (Reps.cons (e2 _) (Reps.cons r Reps.nil)) hT⟩
  keep := fun P0 ρ σ H ρ' σ' H' S k w _ ⟨h1, h2, h3⟩ => ⟨k _ _ h1 h2, (fun z => (w a z).elim h2 fun z => by rw [h1] at z; cases z), h3.mono ds S.dom k w⟩
  mem := fun _ _ _ _ _ w hw => nomatch hw
  grow := fun P0 P1 ρ σ H H' S w k ⟨h1, h2, h3⟩ => by
    have q : ∀ b, FA P1 O σ b → FA P0 O σ b ∨ H b = none := fun b z => by
      rcases z with z | z
      · exact (w b z).imp .inl id
      · exact .inl (.inr z)
    exact ⟨k _ _ h1, (fun z => (q a z).elim h2 fun z => by rw [h1] at z; cases z), h3.mono ds S.dom (fun b o e _ => k b o e) q⟩
theorem items_readK {P0 : Pr} {E : EK} {σ : L2.St} {H : Hp} {R' : It → Hp → Prop} {i : Nat} {kvs : List (Key × V)} (ho : i ∉ O) (h : tMi K P0 O W E (cItems i) σ H R') (e : σ[i]? = some (some (.ref a))) (hf : H a = some (.frz o (.dK kvs))) : iItems (tVar i) σ H R' := by
  obtain ⟨ρ, S, h⟩ := h
  obtain ⟨d, e1, h⟩ := Res.of_nox h
  obtain ⟨ps, e2, h⟩ := Res.of_nox h
  obtain ⟨v, e3, r⟩ := S.val i d (look_some e1) ho
  rw [e] at e3
  cases e3
  by_cases c : szOk ps.length = true
  · rw [if_pos c] at h
    cases d with
    | dik ks ds =>
      cases e2
      unfold Rep at r
      obtain ⟨b, vs, eb, h0, hl, rd, rs⟩ := r
      cases eb
      have ek : kvs = ks.zip vs := by
        rcases rd with rd | ⟨y, rd⟩ <;> (rw [hf] at rd; cases rd)
        rfl
      subst ek
      refine ⟨.ref a, e, a, o, _, rfl, hf, h (Iti a o (ks.zip vs)) H _ S .refl (src_items (J := Iti a o (ks.zip vs)) (mk := HO.dK) (f := keyD) (ds := ds) (o := o) (a := a) (fun i H h1 h2 => ⟨h1, h2⟩) (fun i H h1 h2 => ⟨h1, h2⟩) (fun i H x H' ⟨T, k, v, y1, y2, y3, y4⟩ => ⟨T, k, v, kV k, y1, fun P => rep_key k, y2, y3, y4⟩) hl rs.length) ⟨hf, h0, rs.less (mutK S.dom (.inr ⟨o, hf⟩)) fun b z => .inl z⟩ (of_decide_eq_true c)⟩
    | dit ks ds =>
      unfold Rep at r
      obtain ⟨b, vs, eb, h0, hl, rd, rs⟩ := r
      cases eb
      rcases rd with rd | ⟨y, rd⟩ <;> (rw [hf] at rd; cases rd)
    | _ => cases e2
  · rw [if_neg c] at h; exact h.elim
theorem items_readT {P0 : Pr} {E : EK} {σ : L2.St} {H : Hp} {R' : It → Hp → Prop} {i : Nat} {kvs : List (List Key × V)} (ho : i ∉ O) (h : tMi K P0 O W E (cItems i) σ H R') (e : σ[i]? = some (some (.ref a))) (hf : H a = some (.frz o (.dT kvs))) : iItemsT (tVar i) σ H R' := by
  obtain ⟨ρ, S, h⟩ := h
  obtain ⟨d, e1, h⟩ := Res.of_nox h
  obtain ⟨ps, e2, h⟩ := Res.of_nox h
  obtain ⟨v, e3, r⟩ := S.val i d (look_some e1) ho
  rw [e] at e3
  cases e3
  by_cases c : szOk ps.length = true
  · rw [if_pos c] at h
    cases d with
    | dit ks ds =>
      cases e2
      unfold Rep at r
      obtain ⟨b, vs, eb, h0, hl, rd, rs⟩ := r
      cases eb
      have ek : kvs = ks.zip vs := by
        rcases rd with rd | ⟨y, rd⟩ <;> (rw [hf] at rd; cases rd)
        rfl
      subst ek
      refine ⟨.ref a, e, a, o, _, rfl, hf, h (ItiT a o (ks.zip vs)) H _ S .refl (src_items (J := ItiT a o (ks.zip vs)) (mk := HO.dT) (f := fun k => .tup (k.map keyD)) (ds := ds) (o := o) (a := a) (fun i H h1 h2 => ⟨h1, h2⟩) (fun i H h1 h2 => ⟨h1, h2⟩) (fun i H x H' ⟨T, q, k, v, y1, yq, y2, y3, y4⟩ => ⟨T, k, v, .ref q, y1, fun P => Rep.tup_of yq (reps_keys k), y2, y3, y4⟩) hl rs.length) ⟨hf, h0, rs.less (mutT S.dom (.inr ⟨o, hf⟩)) fun b z => .inl z⟩ (of_decide_eq_true c)⟩
    | dik ks ds =>
      unfold Rep at r
      obtain ⟨b, vs, eb, h0, hl, rd, rs⟩ := r
      cases eb
      rcases rd with rd | ⟨y, rd⟩ <;> (rw [hf] at rd; cases rd)
    | _ => cases e2
  · rw [if_neg c] at h; exact h.elim
end

theorem PS.or {X : Cx} {st : Stmt} {t t' : TS} (h : PS X st t) (h' : PS X st t') : PS X st fun D σ H => t D σ H ∨ t' D σ H :=
  ⟨fun pins s σ H D I q => q.elim (h.run pins s σ H D I) (h'.run pins s σ H D I)⟩
abbrev Ends.lock (a : Addr) (od : Obj) (u : HO) (D : Ends) : Ends := ⟨fun σ' H' => H' a = some (.frz od u) ∧ D.nx σ' (upd H' a u), fun v H' => H' a = some (.frz od u) ∧ D.rt v (upd H' a u), fun σ' H' => H' a = some (.frz od u) ∧ D.bk σ' (upd H' a u), fun σ' H' => H' a = some (.frz od u) ∧ D.ct σ' (upd H' a u)⟩
section
variable {K : PySem.W.Frag} {P0 : Pr} {O W U : List Nat} {E : EK} {ρ : Y.Env} {σ : L2.St} {H : Hp} {m : SM} {D : Ends} {a : Addr} {u : HO}
theorem tSt_lock (S : Sim K P0 O W ρ σ H) {x : Fl × Y.Env} (e : m ρ = .ok x) (h : ∀ σ' H', Sim K P0 O W x.2 σ' H' → Tr O U σ H σ' H' → σ'.length = σ.length → Fin K P0 O H D σ' H' x.1) (hu : DicU u) (ha : H a = some u) (n : ¬ FA P0 O σ a) (od : Obj) : tSt K P0 O W U E m (Ends.lock a od u D) σ (upd H a (.frz od u)) := by
  have S1 : Sim K P0 O W ρ σ (upd H a (.frz od u)) := S.rd hu (fun b h => upd_ne h) (.inl ha) (.inr ⟨od, upd_same⟩) n
  refine ⟨ρ, S1, ?_⟩
  rw [e]
  intro σ' H' S' t l
  have na : ∀ P : Addr → Prop, (∀ b, P b → FA P0 O σ b) → ¬ P a := fun P h z => n (h a z)
  have fr : H' a = some (.frz od u) := t.keep a _ upd_same fun z => n (.inr z)
  have noa : ¬ OA O σ' a := fun z => (t.own a z).elim (fun z => n (.inr z)) fun z => by rw [upd_same] at z; cases z
  have n' : ¬ FA P0 O σ' a := fun z => z.elim (fun z => n (.inl z)) noa
  have k : ∀ b, b ≠ a → upd H' a u b = H' b := fun b h => upd_ne h
  have r1 : Rd H' a u := .inr ⟨od, fr⟩
  have r2 : Rd (upd H' a u) a u := .inl upd_same
  have S2 : Sim K P0 O W x.2 σ' (upd H' a u) := S'.rd hu k r1 r2 n'
  have t2 : Tr O U σ H σ' (upd H' a u) := ⟨fun b o e1 e2 => by
      by_cases hb : b = a
      · rw [hb] at e1 ⊢; rw [upd_same, ← ha, e1]
      · rw [upd_ne hb]; exact t.keep b o (by rw [upd_ne hb]; exact e1) e2, fun b e1 => by
      by_cases hb : b = a
      · rw [hb, upd_same]; intro z; cases z
      · rw [upd_ne hb]; exact t.some b (by rw [upd_ne hb]; exact e1), fun b z => by
      by_cases hb : b = a
      · rw [hb] at z; exact absurd z noa
      · exact (t.own b z).imp id fun q => by rw [upd_ne hb] at q; exact q, t.unch⟩
  have q := h σ' _ S2 t2 l
  obtain ⟨f, ρ'⟩ := x
  cases f with
  | nx => exact ⟨fr, q⟩
  | bk => exact ⟨fr, q⟩
  | ct => exact ⟨fr, q⟩
  | rt hd =>
    intro v r
    refine ⟨fr, q v ?_⟩
    cases hd with
    | fr d => exact ⟨r.1.rd hu k r1 r2, fun m b e => by
        have := r.2 m b e
        by_cases hb : b = a
        · rw [hb, upd_same] at this; cases this
        · rw [upd_ne hb] at this; exact this⟩
    | vl d => exact Rep.rd hu k r1 r2 r
    | ow i => exact r
end
section
variable {X : Cx} {P0 : Pr} {O W U : List Nat} {E : EK} {m : SM}
theorem cs_forItems {i : Nat} {x : Str} {tm : GM} {is vs U' : List Nat} {xs : List Stmt} {p ap cp pos tp : Pos} {elts : List Expr} {kk : Nat} (hp : PassesOwn (model X.prog X.w) X.A X.env X.xe) (hc : X.calm = true) (hg : CG X P0 O W (.Tuple elts kk tp) tm is) (hb : CSs X P0 O W U' E xs m) (hi : i ∉ O := by decide) (ho : ∀ i ∈ is, i ∉ O := by decide) (hu : ∀ i ∈ U', i ∈ O := by decide) (hu' : ∀ i ∈ U, i ∈ U' := by decide)
    (hN : X.N[i]? = some x := by rfl) (hv : Vis X.env.scope x := by first | exact Or.inl rfl | exact Or.inr (Or.inl rfl) | exact Or.inr (Or.inr rfl)) (hd : (x == ("__debug__" : Str)) = false := by decide) (hcd : (x == ("__classdict__" : Str)) = false := by decide)
    (hbase : attributeBase (.Name x p) "items" X.env (eval (.Name x p) X.env) = eval (.Name x p) X.env := by rfl) (hline : (ap.endLine == cp.line) = true := by rfl) (hs : ∀ y, foldedSetIterable (.Call (.Attribute (.Name x p) "items" ap) [] [] cp) X.env y = pure y := by intro _; rfl) :
    CS X P0 O W U E (.For (.Tuple elts kk tp) (.Call (.Attribute (.Name x p) "items" ap) [] [] cp) xs [] pos) (sForD (sFor U' (cItems i) tm m vs)) := by
  have p1 := ps_for hp hc (pi_items (pe_var (i := i) hN hv hd hcd) hbase hline) hg hb hs (pos := pos)
  have p2 := ps_for hp hc (pi_itemsT (pe_var (i := i) hN hv hd hcd) hbase hline) hg hb hs (pos := pos)
  refine PS.imp (PS.or (PS.or p1 (ps_lock p1)) (PS.or p2 (ps_lock p2))) fun D σ H ⟨ρ, S, h⟩ => ?_
  obtain ⟨z, e, h⟩ := Res.of_nox1 h
  have e0 : sFor U' (cItems i) tm m vs ρ = .ok z := e
  unfold sFor at e
  obtain ⟨⟨⟨ds, ws⟩, ρ1⟩, e1, e⟩ := R.ok_of e
  unfold cItems at e1
  obtain ⟨d, e2, e1⟩ := R.ok_of e1
  have e2 := R.nox_of e2
  obtain ⟨ps, e3, e1⟩ := R.ok_of e1
  have e3 := R.nox_of e3
  obtain ⟨v, g1, g2⟩ := S.val i d (look_some e2) hi
  have go : ∀ (D' : Ends) (H' : Hp), tSt X.K P0 O W U E (sFor U' (cItems i) tm m vs) D' σ H' → _ := fun D' H' q => for_core (X := X) (is := is) ho hu hu' D' σ H' q
  cases d with
  | dik ks ds =>
    left
    unfold Rep at g2
    obtain ⟨a, us, rfl, n, hl, rd, rs⟩ := g2
    rcases rd with rd | ⟨od, rd⟩
    · right
      refine ⟨a, _, rd, trivial, fun od => ?_⟩
      exact items_readK hi (go _ _ (tSt_lock (u := HO.dK (ks.zip us)) S e0 h trivial rd n od)) g1 upd_same
    · left
      exact items_readK hi (go D H ⟨ρ, S, by rw [e0]; exact h⟩) g1 rd
  | dit ks ds =>
    right
    unfold Rep at g2
    obtain ⟨a, us, rfl, n, hl, rd, rs⟩ := g2
    rcases rd with rd | ⟨od, rd⟩
    · right
      refine ⟨a, _, rd, trivial, fun od => ?_⟩
      exact items_readT hi (go _ _ (tSt_lock (u := HO.dT (ks.zip us)) S e0 h trivial rd n od)) g1 upd_same
    · left
      exact items_readT hi (go D H ⟨ρ, S, by rw [e0]; exact h⟩) g1 rd
  | _ => cases e3
end
@[simp] theorem e_items {i : Nat} {ρ : Y.Env} : cItems i ρ = ((look i ρ).nox >>= fun d => (dicItems d).nox >>= fun ds => if szOk ds.length = true then R.ok ((ds, []), ρ) else .stk) := id rfl
@[simp] theorem e_forD {m : SM} {ρ : Y.Env} : sForD m ρ = (m ρ).nox := id rfl
@[simp] theorem d_itemsK {ks : List Key} {ds : List D} : dicItems (.dik ks ds) = .ok ((ks.zip ds).map fun p => .tup [keyD p.1, p.2]) := id rfl
@[simp] theorem d_itemsT {ks : List (List Key)} {ds : List D} : dicItems (.dit ks ds) = .ok ((ks.zip ds).map fun p => .tup [.tup (p.1.map keyD), p.2]) := id rfl
end Y

set_option Elab.async false
set_option linter.all false
set_option maxRecDepth 100000
namespace Y
open PySem PySem.Spec PyProof.Rows L2
/-! ### d == {}, d != {} -/
def eqZ : D → D → R D
  | .dik ks _, .dik [] _ => .ok (.bl ks.isEmpty)
  | _, _ => .stk
def neZ : D → D → R D
  | .dik ks _, .dik [] _ => .ok (.bl (!ks.isEmpty))
  | _, _ => .stk
section
variable {X : Cx} {pins : List (Addr × Obj)} {σ : L2.St} {H : Hp} {s : Shared}
theorem dic_of {P : Pr} {ks : List Key} {ds : List D} {x : V} {v : Value} (I : Inv X pins σ H s) (r : RepW X.K H (.dik ks ds) P x) (rx : RelV x v) : ∃ a vs, v = .ref a ∧ (a == sysModules) = false ∧ s.heap.DictOf (mixKind X.prog X.w) a vs ∧ vs.length = ks.length := by
  obtain ⟨a, us, rfl, hl, rd, rs⟩ := r
  obtain ⟨_, hs, vs, kv, d⟩ := rd.ok I.hok
  refine ⟨a, vs, rx, hs, d, ?_⟩
  have := Paired.length kv
  rw [List.length_zip] at this
  omega
theorem od_eqZ (hu : X.A.units < cLine) : OpR X (compareOp .Eq) (rD X.K eqZ) := by
  intro pins s σ H x y v u Q I rx ry ⟨P, dx, dy, dz, hm, r1, r2, e, out⟩
  unfold eqZ at e
  split at e
  · rename_i ks ds es
    cases e
    obtain ⟨a, vs, rfl, a1, a2, a3⟩ := dic_of I r1 rx
    obtain ⟨b, us, rfl, b1, b2, b3⟩ := dic_of I r2 ry
    have b4 : us = [] := List.eq_nil_of_length_eq_zero b3
    subst b4
    refine PySem.W.keq_eq (r := true) a1 b1 a2 b2 hu (fun z => ?_) ⟨.bl _, H, I, rfl, ?_⟩
    · have : vs = [] := List.eq_nil_of_length_eq_zero z
      subst this
      exact .nil
    · have : (vs.length == ([] : List (Key × Value)).length && true) = ks.isEmpty := by
        rw [a3]; cases ks <;> rfl
      rw [this]
      exact out.bl
  · cases e
theorem od_neZ (hu : X.A.units < cLine) : OpR X (compareOp .NotEq) (rD X.K neZ) := by
  intro pins s σ H x y v u Q I rx ry ⟨P, dx, dy, dz, hm, r1, r2, e, out⟩
  unfold neZ at e
  split at e
  · rename_i ks ds es
    cases e
    obtain ⟨a, vs, rfl, a1, a2, a3⟩ := dic_of I r1 rx
    obtain ⟨b, us, rfl, b1, b2, b3⟩ := dic_of I r2 ry
    have b4 : us = [] := List.eq_nil_of_length_eq_zero b3
    subst b4
    refine PySem.W.keq_ne (r := true) a1 b1 a2 b2 hu (fun z => ?_) ⟨.bl _, H, I, rfl, ?_⟩
    · have : vs = [] := List.eq_nil_of_length_eq_zero z
      subst this
      exact .nil
    · have : (!(vs.length == ([] : List (Key × Value)).length && true)) = !ks.isEmpty := by
        rw [a3]; cases ks <;> rfl
      rw [this]
      exact out.bl
  · cases e
end
@[simp] theorem d_eqZ {ks : List Key} {ds es : List D} : eqZ (.dik ks ds) (.dik [] es) = .ok (.bl ks.isEmpty) := id rfl
@[simp] theorem d_neZ {ks : List Key} {ds es : List D} : neZ (.dik ks ds) (.dik [] es) = .ok (.bl (!ks.isEmpty)) := id rfl
variable {ρ : Y.Env}
@[simp] theorem e_dicnew {tup : Bool} {i : Nat} : sDicNew tup i ρ = if i < ρ.length then .ok (.nx, ρ.set i (some (if tup = true then .dit [] [] else .dik [] []))) else .stk := id rfl
@[simp] theorem e_dicAtK {i : Nat} : dicAt i ρ = (match ρ[i]? with | some (some (.dik ks ds)) => .ok (.dik ks ds) | some (some (.dit ks ds)) => .ok (.dit ks ds) | _ => .stk) := id rfl
@[simp] theorem e_dput {i : Nat} {mk mv : EM} : sDPutS i mk mv ρ = (mv ρ >>= fun p => p.1.v.nox >>= fun d => (dicAt i p.2).nox >>= fun _ => mk p.2 >>= fun q => q.1.v.nox >>= fun k => (dicAt i q.2).nox >>= fun x => (putDic x k d).nox >>= fun z => R.ok (.nx, q.2.set i (some z))) := id rfl
@[simp] theorem e_din {neg : Bool} {a b : EM} : cDIn neg b a ρ = (b ρ >>= fun p => a p.2 >>= fun q => (q.1.d q.2).nox >>= fun x => (p.1.d q.2).nox >>= fun y => (getDic x y).nox >>= fun o => R.ok (.fr (.bl (if neg = true then !o.isSome else o.isSome)), q.2)) := id rfl
@[simp] theorem d_putK {ks : List Key} {ds : List D} {i : Int} {d : D} : putDic (.dik ks ds) (.int i) d = if szOk (ks.length + 1) = true then .ok (.dik (putKs ks (.inl i)) (putDs ks ds (.inl i) d)) else .stk := id rfl
@[simp] theorem d_getK {ks : List Key} {ds : List D} {i : Int} : getDic (.dik ks ds) (.int i) = .ok (findD ks ds (.inl i)) := id rfl
end Y

set_option Elab.async false
set_option linter.all false
set_option maxRecDepth 100000
set_option maxHeartbeats 4000000
namespace Y
open PySem PySem.Spec PyProof.Rows L2
/-! ### sorted(d), d a dict -/
section
variable {X : Cx} {pins : List (Addr × Obj)} {σ : L2.St} {H : Hp} {s : Shared}
theorem rawT {d : Addr} {kvs : List (List Key × V)} (I : Inv X pins σ H s) (h : Rd H d (.dT kvs)) :
    (d == sysModules) = false ∧ kvs.length ≤ sizeLine ∧ ∃ (es : Array DictEntry) (ep : Nat), s.heap.DictRaw d es ep ∧ es.size = kvs.length ∧
      ∀ (i : Nat) (hi : i < es.size) (k : List Key) (v : V), kvs[i]? = some (k, v) → ∃ q, es[i].key = .ref q ∧ H q = some (.tup (k.map kV)) ∧ RelV v es[i].val := by
  have t := h.ok I.hok
  rcases t with ⟨hz, hs, xs, pr, o', es, ep, e1, ex, dt, ent, -⟩
  have l1 : es.size = xs.length := by have := congrArg List.length ent; simpa using this
  refine ⟨hs, hz, es, ep, ⟨o', e1, ex, dt⟩, l1.trans (Paired.length pr).symm, fun i hi k v e => ?_⟩
  obtain ⟨b, eb, c1, c2, c3⟩ := paired_get pr e
  have c := congrArg (fun l => l[i]?) ent
  simp only [List.getElem?_map, eb, Option.map_some] at c
  have c4 : es[i] = entryOfKey (tupleKind (mixKind X.prog X.w)) b := by
    have c5 : es.toList[i]? = some es[i] := by rw [Array.getElem?_toList, Array.getElem?_eq_getElem hi]
    rw [c5] at c
    exact Option.some.inj c
  refine ⟨b.2.1, by rw [c4]; rfl, c2, by rw [c4]; exact c3⟩
theorem keyV_of {q : Addr} {ns : List Int} (h : H q = some (.tup (ns.map V.int))) : keyV H (.ref q) = ns := by
  show (match H q with | some (.tup ws) => ws.map intV | _ => []) = ns
  rw [h]
  exact ints_back ns
def rSortDT : List V → Hp → VK → Prop := fun vs H Q => ∃ (a : Addr) (kvs : List (List Key × V)) (ks : List (List Int)), vs = [V.ref a] ∧ Rd H a (.dT kvs) ∧ kvs.map (·.1) = ks.map (·.map Sum.inl) ∧ (2 ≤ ks.length → ∀ k ∈ ks, k ≠ []) ∧
  ∀ ys p, ys.map (keyV H) = sortL ks → (∀ y ∈ ys, ∃ t, y = V.ref t ∧ H t = some (.tup ((keyV H y).map V.int))) → H p = none → Q (.ref p) (upd H p (.lst ys))
theorem kV_ints (ns : List Int) : (ns.map (Sum.inl : Int → Key)).map kV = ns.map V.int := by rw [List.map_map]; rfl
theorem cr_sortDT (hc : X.calm = true) : CallR X (.builtin "sorted") rSortDT := by
  intro pins s σ H vs us Q I r ⟨a, kvs, ks, e0, hd, hks, hne, q⟩
  subst e0
  obtain ⟨u, e3, ru⟩ := vals1 r
  subst e3
  cases (show u = Value.ref a from ru)
  obtain ⟨hs, hz, es, ep, raw, hsz, ent⟩ := rawT I hd
  have lk : ks.length = kvs.length := by have := congrArg List.length hks; simpa using this.symm
  refine Calls.call_function_entry PyProof.Rows.kind_sorted PyProof.Rows.plain_sorted PyProof.Rows.entry_sorted (PyProof.Rows.args_sorted1 _) ?_
  unfold Builtin.«sorted»
  refine wpAny_bind (m := checkCount "sorted" 1 1 _) (wpAny_pure ?_)
  refine wpAny_bind (PySem.W.kdu_collect (A := X.A.in1) (KdlSrc.rawDict (es := es) (ep := ep) hs) (I.ok.hd hc) raw (by rw [hsz]; exact hz) fun h' tk acc hk hacc => ?_)
  have la : acc.toList.length = ks.length := by rw [Array.length_toList, hacc.1, hsz, lk]
  have I1 : Inv X pins σ H { s with heap := h', toks := tk } := I.kept hk
  -- each collected value is a key's tuple
  have each : ∀ (j : Nat) (v : Value), acc.toList[j]? = Option.some v → ∃ q, v = Value.ref q ∧ ∃ k, ks[j]? = some k ∧ H q = some (.tup (k.map V.int)) := fun j v e => by
    obtain ⟨hj, e1⟩ := hacc.2 j v (by rw [← Array.getElem?_toList]; exact e)
    have hj2 : j < kvs.length := by rw [← hsz]; exact hj
    obtain ⟨q, e2, e3, _⟩ := ent j hj kvs[j].1 kvs[j].2 (List.getElem?_eq_getElem hj2)
    have e4 : (kvs.map (·.1))[j]? = some kvs[j].1 := by rw [List.getElem?_map, List.getElem?_eq_getElem hj2]; rfl
    rw [hks, List.getElem?_map] at e4
    cases e5 : ks[j]? with
    | none => rw [e5] at e4; cases e4
    | some k =>
      rw [e5] at e4
      have e6 : k.map Sum.inl = kvs[j].1 := Option.some.inj e4
      exact ⟨q, by rw [e1, e2], k, rfl, by rw [e3, ← e6, kV_ints]⟩
  have each2 : ∀ v ∈ acc.toList, ∃ q, v = Value.ref q ∧ keyV H (backV v) ∈ ks ∧ H q = some (.tup ((keyV H (backV v)).map V.int)) := fun v hv => by
    obtain ⟨j, hj, rfl⟩ := List.mem_iff_getElem.mp hv
    obtain ⟨q, e, k, e1, e2⟩ := each j _ (List.getElem?_eq_getElem hj)
    have e3 : keyV H (backV acc.toList[j]) = k := by rw [e]; exact keyV_of e2
    rw [e3]
    exact ⟨q, e, List.mem_of_getElem? e1, e2⟩
  have keys : acc.toList.map (fun v => keyV H (backV v)) = ks := by
    refine List.ext_getElem? fun j => ?_
    rw [List.getElem?_map]
    cases e : acc.toList[j]? with
    | none =>
      rw [List.getElem?_eq_none_iff] at e
      rw [Option.map_none, List.getElem?_eq_none (by omega)]
    | some v =>
      obtain ⟨q, e1, k, e2, e3⟩ := each j v e
      rw [e2, Option.map_some, e1]
      exact congrArg some (keyV_of e3)
  refine wpAny_bind (wpAny_newList ?_ (by rw [la, lk]; exact hz))
  have hoL : (h'.push (seqObj "list" acc.toList.toArray 0)).get? h'.objs.size = some (seqObj "list" acc.toList.toArray 0) := Heap.get?_push_size _ rfl
  show wpAny _ _ _ _ _ { s with heap := h'.push (seqObj "list" acc.toList.toArray 0), toks := tk }
  refine wpAny_bind (wpAny_holding (wpAny_call_entry PyProof.Rows.slot_list_sort ⟨_, hoL, rfl⟩ PyProof.Rows.entry_list_sort
    (SrtO.list_sort_ord (ltL_swo fun v => keyV H (backV v)) hoL (by rw [la, lk]; exact hz) (fun h2 => ?_) fun out hs1 hs2 => ⟨_, rfl, ?_⟩) (PyProof.Rows.args_list_sort _)))
  · refine tup_sortable (by omega) (fun v hv => ?_) fun o e => ?_
    · obtain ⟨q, e, m, hq⟩ := each2 v hv
      refine ⟨?_, hne (by omega) _ m⟩
      obtain ⟨_, its2, r2, o, ho, hc2, n, hd2⟩ := I1.hok _ _ hq
      rw [e] at hq ⊢
      exact ⟨q, o, _, n, rfl, Heap.get?_push_of_some _ ho, hc2, hd2, by rw [List.toList_toArray]; rw [e] at r2; exact ints_vals r2⟩
    · cases e.symm.trans hoL
      exact fun c => absurd (Value.type.inj c) (by decide)
  · obtain ⟨e', he'⟩ := PyProof.Rows.sortedHeap_at (vs := acc.toList) (out := out.toArray) hoL
    have pm := hs2.perm
    have ho : ∀ u ∈ out, ∃ q, u = Value.ref q ∧ H q = some (.tup ((keyV H (backV u)).map V.int)) := fun u hu => by
      obtain ⟨q, e, _, h⟩ := each2 u (pm.mem_iff.mp hu)
      exact ⟨q, e, h⟩
    have lo : (out.map backV).length ≤ sizeLine := by rw [List.length_map, pm.length_eq, la, lk]; exact hz
    refine wpAny_pure ⟨_, rfl, .ref h'.objs.size, upd H h'.objs.size (.lst (out.map backV)), I1.laid (t' := tk) (fun b u e => ?_) (Nat.le_refl _)
      (show ObjOk X.prog X.w _ _ _ (.lst (out.map backV)) from ⟨lo, out, e', vals_back fun u hu => (ho u hu).imp fun q h => h.1, he'⟩), rfl, q _ _ ?_ (fun y hy => ?_) (I1.hok.fresh (Nat.le_refl _))⟩
    · have hb : b < h'.objs.size := Heap.lt_size e
      rw [PyProof.Rows.sortedHeap_old (Nat.ne_of_lt hb) (by rw [size_push']; exact Nat.lt_succ_of_lt hb)]
      exact Heap.get?_push_of_some _ e
    · rw [List.map_map]
      refine sortL_of ?_ (List.pairwise_map.mpr hs1)
      have := pm.map (keyV H ∘ backV)
      rw [show acc.toList.map (keyV H ∘ backV) = ks from keys] at this
      exact this
    · obtain ⟨u, hu, rfl⟩ := List.mem_map.mp hy
      obtain ⟨q, rfl, h⟩ := ho u hu
      exact ⟨q, rfl, h⟩
end
end Y

set_option Elab.async false
set_option linter.all false
set_option maxRecDepth 100000
set_option maxHeartbeats 4000000
namespace Y
open PySem PySem.Spec PyProof.Rows L2
/-! ### sorted(xs), xs a list of data of one form -/
def leP (a b : PyData) : Bool := !PySem.W.dataLt b a
def leB (a b : D) : Bool := leP (toPy a) (toPy b)
def isTP : PyData → Bool
  | .tuple (_ :: _) => true
  | _ => false
def isOP : PyData → Bool
  | .none => false
  | .tuple _ => false
  | _ => true
def sortsOk (ds : List D) : Bool := (ds.all fun a => (toPy a).canLay0 && decide ((toPy a).depth ≤ 50) && ds.all fun b => PySem.W.alike (toPy a) (toPy b)) && (ds.all (fun a => isTP (toPy a)) || ds.all fun a => isOP (toPy a))
noncomputable def sortGD : List D → R D
  | [.lst ds] => if sortsOk ds = true then .ok (.lst (ds.mergeSort leB)) else .stk
  | _ => .stk
section
variable {K : PySem.W.Frag} {X : Cx} {H : Hp} {P : Pr}
theorem zip_rep : ∀ {ds : List D} {vs : List V}, Reps K H ds P vs → ∀ p ∈ ds.zip vs, Rep K H p.1 P p.2
  | [], vs, h, p, hp => by simp at hp
  | d :: ds, vs, h, p, hp => by
    obtain ⟨v, ws, rfl, h1, h2⟩ := h.cons_iff
    rw [List.zip_cons_cons] at hp
    rcases List.mem_cons.mp hp with rfl | hp
    · exact h1
    · exact zip_rep h2 p hp
theorem reps_zip : ∀ {ps : List (D × V)}, (∀ p ∈ ps, Rep K H p.1 P p.2) → Reps K H (ps.map (·.1)) P (ps.map (·.2))
  | [], _ => Reps.nil
  | p :: ps, h => Reps.cons (h p (by simp)) (reps_zip fun q hq => h q (by simp [hq]))
theorem each_zip : ∀ {ds : List D} {vs : List V} {us : List Value}, vs.length = ds.length → Vals vs us → PySem.W.EachIs (fun u (p : D × V) => RelV p.2 u) us (ds.zip vs)
  | [], vs, us, hl, r => by
    have : vs = [] := List.eq_nil_of_length_eq_zero hl
    subst this
    cases r
    exact .nil
  | d :: ds, [], us, hl, r => by simp at hl
  | d :: ds, v :: vs, _, hl, .cons r t => .cons r (each_zip (by simpa using hl) t)
theorem each_vals : ∀ {us : List Value} {ps : List (D × V)}, PySem.W.EachIs (fun u (p : D × V) => RelV p.2 u) us ps → Vals (ps.map (·.2)) us
  | _, _, .nil => .nil
  | _, _, .cons r t => .cons r (each_vals t)
theorem each_and {α β : Type} {R S : α → β → Prop} : ∀ {as : List α} {bs : List β}, PySem.W.EachIs R as bs → (∀ a b, b ∈ bs → R a b → S a b) → PySem.W.EachIs S as bs
  | _, _, .nil, _ => .nil
  | _, _, .cons r t, h => .cons (h _ _ (by simp) r) (each_and t fun a b hb => h a b (by simp [hb]))
theorem map_fst_zip {ds : List D} {vs : List V} (hl : vs.length = ds.length) : (ds.zip vs).map (·.1) = ds := by
  have := List.map_fst_zip (l₁ := ds) (l₂ := vs) (by omega)
  exact this
theorem cd_sortG (hu : X.A.units + 65 < cLine) : CallR X (.builtin "sorted") (rDs X.K sortGD) := by
  intro pins s σ H xs us Q I r ⟨P, ds, dz, hm, rs, e, out⟩
  unfold sortGD at e
  split at e
  · rename_i ds0
    split at e
    · rename_i c
      cases e
      obtain ⟨v, rfl, r1⟩ := rs.get1
      obtain ⟨a, vs, rfl, h1, h2⟩ := r1.lst
      obtain ⟨u, e3, ru⟩ := vals1 r
      subst e3
      cases (show u = Value.ref a from ru)
      obtain ⟨its, rv, hl, hz⟩ := I.list (SqL.of h1)
      unfold sortsOk at c
      rw [Bool.and_eq_true] at c
      obtain ⟨c1, c2⟩ := c
      rw [List.all_eq_true] at c1
      have c1 : ∀ d ∈ ds0, ((toPy d).canLay0 = true ∧ (toPy d).depth ≤ 50) ∧ ∀ b ∈ ds0, PySem.W.alike (toPy d) (toPy b) = true := fun d hd => by
        have := c1 d hd
        rw [Bool.and_eq_true, Bool.and_eq_true, List.all_eq_true, decide_eq_true_eq] at this
        exact this
      have ll := h2.length
      have mem : ∀ p ∈ ds0.zip vs, p.1 ∈ ds0 := fun p hp => (List.of_mem_zip (a := p.1) (b := p.2) hp).1
      refine PySem.W.sorted_data (R := fun u (p : D × V) => RelV p.2 u) (bs := ds0.zip vs) (enc := fun p => toPy p.1) hl.isList (each_zip ll rv) (each_and (each_zip ll rv) fun u p hp ru => ?_) (fun d hd d' hd' => ?_) ?_ (by rw [List.length_zip, ll, Nat.min_self, ← ll]; exact hz) (fun p hp => ?_) fun o lo ho => ?_
      · have := (c1 p.1 (mem p hp)).1.1
        exact Dp.reads I _ _ _ (Rep.dp p.1 this (zip_rep h2 p hp)) ru
      · obtain ⟨p, hp, rfl⟩ := List.mem_map.mp hd
        obtain ⟨q, hq, rfl⟩ := List.mem_map.mp hd'
        exact (c1 _ (mem p hp)).2 _ (mem q hq)
      · rw [Bool.or_eq_true] at c2
        rcases c2 with c2 | c2
        · refine .inl fun d hd => ?_
          obtain ⟨p, hp, rfl⟩ := List.mem_map.mp hd
          have := List.all_eq_true.mp c2 _ (mem p hp)
          unfold isTP at this
          split at this
          · rename_i x y e; exact ⟨_, _, e⟩
          · cases this
        · refine .inr fun d hd => ?_
          obtain ⟨p, hp, rfl⟩ := List.mem_map.mp hd
          have := List.all_eq_true.mp c2 _ (mem p hp)
          refine ⟨fun z => ?_, fun xs z => ?_⟩ <;> (rw [z] at this; cases this)
      · have := (c1 p.1 (mem p hp)).1.2
        show X.A.units + 2 + (toPy p.1).depth < cLine
        omega
      · obtain ⟨n, hn⟩ := PyProof.Rows.sortedAll_at s.heap its o.toArray
        have hs : ∀ p ∈ (ds0.zip vs).mergeSort (PySem.W.dataLe false fun p : D × V => toPy p.1), p ∈ ds0.zip vs := fun p hp => (List.mergeSort_perm _ _).mem_iff.mp hp
        have hsl : ((ds0.zip vs).mergeSort (PySem.W.dataLe false fun p : D × V => toPy p.1)).length = ds0.length := by rw [List.length_mergeSort, List.length_zip, ll, Nat.min_self]
        have fst : ((ds0.zip vs).mergeSort (PySem.W.dataLe false fun p : D × V => toPy p.1)).map (·.1) = ds0.mergeSort leB := by
          have q := List.map_mergeSort (r := PySem.W.dataLe false fun p : D × V => toPy p.1) (s := leB) (f := Prod.fst) (l := ds0.zip vs) (fun a _ b _ => rfl)
          rw [map_fst_zip ll] at q
          exact q
        refine ⟨.ref (s.heap.objs.size + 1), upd H (s.heap.objs.size + 1) (.lst (((ds0.zip vs).mergeSort (PySem.W.dataLe false fun p : D × V => toPy p.1)).map (·.2))), I.laid (t' := s.toks) (fun _ _ e => PyProof.Rows.sortedAll_old e) (Nat.le_succ _) ⟨by rw [List.length_map, hsl, ← ll]; exact hz, o, n, each_vals ho, hn⟩, rfl, ?_⟩
        have rr := reps_zip (K := X.K) (H := H) (P := P) fun p hp => zip_rep h2 p (hs p hp)
        rw [fst] at rr
        exact out.newL hm rr (I.hok.fresh (Nat.le_succ _))
    · cases e
  · cases e
end
/-! #### sorted(d) as a datum -/
def intsK : List Key → Option (List Int)
  | [] => some []
  | .inl i :: ks => (intsK ks).map (i :: ·)
  | .inr _ :: _ => none
def intsKs : List (List Key) → Option (List (List Int))
  | [] => some []
  | k :: ks => match intsK k, intsKs ks with
    | some n, some ns => some (n :: ns)
    | _, _ => none
theorem intsK_of : ∀ {ks : List Key} {ns : List Int}, intsK ks = some ns → ks = ns.map Sum.inl
  | [], ns, e => by cases e; rfl
  | .inl i :: ks, ns, e => by
    unfold intsK at e
    cases q : intsK ks with
    | none => rw [q] at e; cases e
    | some m => rw [q] at e; cases e; rw [intsK_of q]; rfl
  | .inr _ :: _, ns, e => by cases e
theorem intsKs_of : ∀ {ks : List (List Key)} {ns : List (List Int)}, intsKs ks = some ns → ks = ns.map (·.map Sum.inl)
  | [], ns, e => by cases e; rfl
  | k :: ks, ns, e => by
    unfold intsKs at e
    cases q : intsK k with
    | none => rw [q] at e; simp at e
    | some m =>
      cases q2 : intsKs ks with
      | none => rw [q, q2] at e; simp at e
      | some ms =>
        rw [q, q2] at e
        cases e
        rw [intsK_of q, intsKs_of q2]
        rfl
def sortDD : List D → R D
  | [.dit ks _] => match intsKs ks with
    | some ns => if sortOk ns = true then .ok (.lst ((sortL ns).map fun x => D.tup (x.map D.int))) else .stk
    | none => .stk
  | [.dik ks _] => match intsK ks with
    | some ns => if ns.length < 64 then .ok (.lst ((sortI ns).map D.int)) else .stk
    | none => .stk
  | _ => .stk
section
variable {X : Cx}
theorem zip_fst {κ : Type} {ks : List κ} {vs : List V} (hl : ks.length = vs.length) : (ks.zip vs).map (·.1) = ks := by
  have := List.map_fst_zip (l₁ := ks) (l₂ := vs) (by omega)
  exact this
theorem cd_sortDD (hc : X.calm = true) : CallR X (.builtin "sorted") (rDs X.K sortDD) := by
  intro pins s σ H xs us Q I r ⟨P, ds, dz, hm, rs, e, out⟩
  unfold sortDD at e
  split at e
  · rename_i ks vs0
    cases q : intsKs ks with
    | none => rw [q] at e; cases e
    | some ns =>
      rw [q] at e
      simp only at e
      split at e
      · rename_i ok
        cases e
        obtain ⟨v, rfl, r1⟩ := rs.get1
        obtain ⟨a, vs, rfl, hl, rd, h2⟩ := r1
        have ek := intsKs_of q
        refine cr_sortDT hc pins s σ H _ us Q I r ⟨a, _, ns, rfl, rd, by rw [zip_fst hl]; exact ek, fun h2' k hk z => ?_, fun ys p es hy hp => ?_⟩
        · unfold sortOk at ok
          rw [decide_eq_false (by omega), Bool.false_or, List.all_eq_true] at ok
          have := ok k hk
          rw [z] at this
          cases this
        · have sm : Same H (upd H p (.lst ys)) := Same.new hp
          refine out _ _ sm ?_ fun _ b eb => by cases eb; exact hp
          rw [← es, List.map_map]
          refine Rep.newL hm ?_ hp
          have : ∀ (zs : List V), (∀ z ∈ zs, z ∈ ys) → Reps X.K H (zs.map ((fun x => D.tup (x.map D.int)) ∘ keyV H)) P zs := fun zs => by
            induction zs with
            | nil => intro _; exact Reps.nil
            | cons z zs ih =>
              intro hz
              obtain ⟨t, e1, e2⟩ := hy z (hz z (by simp))
              refine Reps.cons ?_ (ih fun y hy => hz y (by simp [hy]))
              show Rep X.K _ (D.tup ((keyV H z).map D.int)) P z
              unfold Rep
              exact ⟨t, _, e1, e2, reps_ints _⟩
          exact this ys fun z hz => hz
      · cases e
  · rename_i ks vs0
    cases q : intsK ks with
    | none => rw [q] at e; cases e
    | some ns =>
      rw [q] at e
      simp only at e
      split at e
      · rename_i ok
        cases e
        obtain ⟨v, rfl, r1⟩ := rs.get1
        obtain ⟨a, vs, rfl, hl, rd, h2⟩ := r1
        have ek := intsK_of q
        refine call_sortedDI hc pins s σ H _ us Q I r ⟨a, _, ns, rfl, rd, by rw [zip_fst hl]; exact ek, ok, fun ys p pm pw hp => ?_⟩
        have ey : ys = sortI ns := sortI_of pm pw
        rw [ey]
        exact out.newL hm (reps_ints _) hp
      · cases e
  · cases e
end
end Y

set_option Elab.async false
set_option linter.all false
set_option maxRecDepth 100000
namespace Y
open PySem PySem.Spec PyProof.Rows L2
/-! ### {t: None}, t a tuple -/
def D1 (p : Addr) (Q : VK) (x y : V) (H2 : Hp) : Prop := H2 p = some (.dT []) ∧ ∃ (q : Addr) (k : List Key), x = .ref q ∧ H2 q = some (.tup (k.map kV)) ∧ Q (.ref p) (upd H2 p (.dT [(k, y)]))
def D1s (p : Addr) (Q : VK) : List (V × V) → Hp → Prop
  | [(x, y)], H2 => D1 p Q x y H2
  | _, _ => False
def tDis1 (tk tv : TE) : TE := fun σ H Q => ∀ p, H p = none → tk σ (upd H p (.dT [])) fun x H1 => tv σ H1 fun y H2 => D1 p Q x y H2
theorem pe_dis1 {X : Cx} {pos : Pos} {ke ve : Expr} {tk tv : TE} (hu : X.A.units + 1 < cLine) (hk : PE X ke tk) (hv : PE X ve tv) : PE X (.Dict [some ke] [ve] pos) (tDis1 tk tv) := by
  refine ⟨fun pins s σ H Q I q => ?_⟩
  have fresh := I.hok.fresh (Nat.le_refl s.heap.objs.size)
  have J := I.laid (a := s.heap.objs.size) (o := .dT []) (h' := s.heap.push { cls := .type "dict", data := .dict #[] }) (t' := s.toks) (fun _ _ z => Heap.get?_push_of_some _ z) (Nat.le_refl _) (dt_empty s.heap I.big)
  have run := (pps_cons hk hv (pps_nil (pos := pos))).run pins _ σ _ (D1s s.heap.objs.size Q) J (q _ fresh)
  have shape : pairTrees [some ke] [ve] X.env pos = (pairTrees [some ke] [ve] X.env pos) := rfl
  obtain ⟨pairs, hp⟩ : ∃ pairs, pairTrees [some ke] [ve] X.env pos = pairs := ⟨_, rfl⟩
  have hl : pairs.length = 1 := by rw [← hp]; rfl
  have hs : (evalEachOpt [some ke] X.env).zip ((evalEach [ve] X.env).map fun v => do let x ← v; standAt pos; pure x) = pairs.map fun p => (some p.1, p.2) := by rw [← hp]; rfl
  rw [arm_eval_Dict, hs, dictDisplay_pairs pairs (by intro z; rw [z] at hl; cases hl) (by omega)]
  rw [hp] at run
  refine wpAny_bind (wpAny_standAt (wpAny_bind (wpAny_subDictH (knd := tupleKind (mixKind X.prog X.w)) (Q := fun d s' => wpAny (model X.prog X.w) X.A (pure (Value.ref d)) (EP X pins σ Q) X.xe s') (by show X.A.units < cLine; omega) (by omega) (wpAny_mono run (fun vs s1 h1 => ?_) fun _ _ e => e))))
  obtain ⟨ps, H2, I2, rel, q2⟩ := h1
  match ps, q2 with
  | [(x, y)], ⟨e, qa, k, ex, eq, q3⟩ =>
  subst ex
  cases rel with
  | @cons _ b _ bs hb ht =>
    cases ht
    obtain ⟨u, w2⟩ := b
    obtain ⟨r1, r2⟩ := hb
    cases (show u = Value.ref qa from r1)
    obtain ⟨z, hd, xs, rx, dd⟩ := dt_of I2.hok e
    cases rx
    refine ⟨[(k, qa, w2)], ⟨rfl, rfl, key_of I2.hok eq, trivial⟩, dd, fun h' tk d2 same => wpAny_pure ?_⟩
    have there : ∃ ob, h'.get? s.heap.objs.size = some ob := let ⟨ob, _, _, hob, _⟩ := d2; ⟨ob, hob⟩
    have ne : qa ≠ s.heap.objs.size := ne_of eq e (by intro z; cases z)
    obtain ⟨o, es, ep, g1, g2, g3, g4, _, g6⟩ := d2
    refine ⟨.ref s.heap.objs.size, _, d_write I2 (by rw [e]; exact True.intro) same there (show ObjOk X.prog X.w _ h' _ (.dT [(k, y)]) from ⟨(by show 1 ≤ sizeLine; decide), hd, [(k, qa, w2)], .cons ⟨rfl, by rw [upd_ne ne]; exact eq, r2⟩ .nil, o, es, ep, g1, g2, g3, g4, g6⟩), rfl, q3⟩
/-- x = {y: None}, x an own slot, y a tuple's name -/
def sDic1 (i j : Nat) : SM := fun ρ => do
  let d ← (look j ρ).nox
  match d with
  | .tup ys => match keysOf ys with
    | some k => if i < ρ.length then pure (.nx, ρ.set i (some (.dit [k] [.non]))) else .stk
    | none => .stk
  | _ => .stk
theorem cs_dic1 {X : Cx} {P0 : Pr} {O W U : List Nat} {E : EK} {i j : Nat} {x y : Str} {p py pc pd pos : Pos} {kc} (hun : X.A.units + 1 < cLine) (hN : X.N.Nodup) (hj : j ∉ O := by decide) (hi : i ∈ O := by decide) (hu : i ∉ U := by decide) (hx : X.N[i]? = some x := by rfl) (hy : X.N[j]? = some y := by rfl)
    (hv : Vis X.env.scope y := by first | exact Or.inl rfl | exact Or.inr (Or.inl rfl) | exact Or.inr (Or.inr rfl)) (hd : (y == ("__debug__" : Str)) = false := by decide) (hcd : (y == ("__classdict__" : Str)) = false := by decide) (hl : Loc X.env.scope x := by first | exact Or.inl rfl | exact Or.inr rfl)
    (hf : X.fn x = true ∨ X.env.scope.names.lookup x = some .local := by first | exact .inl rfl | exact .inr rfl)
    (hs : swapsWithSole [.Name x p] (.Dict [some (.Name y py)] [.Constant .none kc pc] pd) pos.line X.env = pure false := by rfl) (hw : swappedStores [.Name x p] (.Dict [some (.Name y py)] [.Constant .none kc pc] pd) X.env = pure none := by rfl) :
    CS X P0 O W U E (.Assign [.Name x p] (.Dict [some (.Name y py)] [.Constant .none kc pc] pd) pos) (sDic1 i j) := by
  refine PS.imp (ps_asg (pe_dis1 hun (pe_var (i := j) hy hv hd hcd) pe_non) (pg_name hN hx hl hf) hs hw) fun DD σ H ⟨ρ, S, h⟩ => fun q hq => ?_
  obtain ⟨d, e1, h⟩ := Res.of_nox h
  obtain ⟨v, g1, g2⟩ := S.val j d (look_some e1) hj
  cases d <;> first | exact h.elim | skip
  rename_i ys
  have h : Res E O σ H (match keysOf ys with | some k => if i < ρ.length then R.ok (Fl.nx, ρ.set i (some (D.dit [k] [.non]))) else .stk | none => .stk) _ := h
  cases ek : keysOf ys with
  | none => rw [ek] at h; exact h.elim
  | some k =>
    rw [ek] at h
    by_cases hlen : i < ρ.length
    · simp only [if_pos hlen] at h
      unfold Rep at g2
      obtain ⟨a, us, rfl, b1, b2⟩ := g2
      have eu := keysOf_rep b2 ek
      subst eu
      have ne : a ≠ q := ne_of_none b1 hq
      refine ⟨.ref a, g1, upd_same, a, k, rfl, by rw [upd_ne ne]; exact b1, ?_⟩
      have e2 : upd (upd H q (.dT [])) q (.dT [(k, V.non)]) = upd H q (.dT [(k, V.non)]) := upd_upd
      rw [e2]
      exact h _ _ (S.newO hi hlen hq trivial fun P => ⟨q, [V.non], rfl, rfl, upd_same, Reps.cons (by unfold Rep; rfl) Reps.nil⟩) (tr_new S hi hu hlen hq) (by simp)
    · simp only [if_neg hlen] at h; exact h.elim
@[simp] theorem e_dic1 {i j : Nat} {ρ : Y.Env} : sDic1 i j ρ = ((look j ρ).nox >>= fun d => match d with | .tup ys => (match keysOf ys with | some k => if i < ρ.length then R.ok (.nx, ρ.set i (some (.dit [k] [.non]))) else .stk | none => .stk) | _ => .stk) := by
  unfold sDic1; congr
end Y

set_option Elab.async false
set_option linter.all false
set_option maxRecDepth 100000
namespace Y
open PySem PySem.Spec PyProof.Rows L2
/-! ### x.clear(), x an own list -/
def sClear (i : Nat) : SM := fun ρ => do
  let _ ← (lstAt i ρ).nox
  pure (.nx, ρ.set i (some (.lst [])))
section
variable {K : PySem.W.Frag} {X : Cx} {P0 : Pr} {O W U : List Nat} {E : EK} {pos : Pos}
theorem cs_clear {i : Nat} {x : Str} {p ap cp : Pos} (hi : i ∈ O := by decide) (hx : X.N[i]? = some x := by rfl) (hv : Vis X.env.scope x := by first | exact Or.inl rfl | exact Or.inr (Or.inl rfl) | exact Or.inr (Or.inr rfl)) (hd : (x == ("__debug__" : Str)) = false := by decide) (hcd : (x == ("__classdict__" : Str)) = false := by decide)
    (hbase : attributeBase (.Name x p) "clear" X.env (eval (.Name x p) X.env) = eval (.Name x p) X.env := by rfl) (hline : (ap.endLine == cp.line) = true := by rfl)
    (hsw : swapsWith (.Call (.Attribute (.Name x p) "clear" ap) [] [] cp) none pos.line X.env = pure false := by rfl) :
    CS X P0 O W U E (.Expr (.Call (.Attribute (.Name x p) "clear" ap) [] [] cp) pos) (sClear i) :=
  PS.imp (ps_expr (pe_bm0 PySem.F.plainAttrs_list PySem.F.slot_list_clear PySem.F.type_list_clear mt_clear (pe_var (i := i) hx hv hd hcd) hbase hline) hsw) fun DD σ H ⟨ρ, S, h⟩ => by
    obtain ⟨ds0, e0, h⟩ := h.of_nox
    obtain ⟨l, vs0, h1, h2, _⟩ := S.lst hi (lstAt_ok e0)
    exact ⟨.ref l, h1, .inl ⟨rfl, _, SqL.of h2⟩, l, vs0, rfl, rfl, h2, h σ _ (S.lstW hi h1 h2 Reps.nil) (Tr.ownW S.sub .refl hi h1) rfl⟩
end
section
variable {X : Cx} {P0 : Pr} {O W : List Nat} {E : EK} {a b : Expr} {ma mb : EM} {pos : Pos}
theorem ct_din (hu : X.A.units + 1 < cLine) (hb : CEx X P0 O W E b mb) (ha : CEx X P0 O W E a ma) (hm : behindInMarks .In a = false := by rfl) : CT X P0 O W E (.Compare b [.In] [a] pos) (cBl (cDIn false mb ma)) := PT.imp (pt_cmp (pc_din hu hb ha) hm) fun σ H Q h => by
  obtain ⟨ρ, S, h⟩ := tM_bl σ H Q h
  refine ⟨ρ, S, h.of_bind.mono fun ⟨h2, ρ1⟩ q y H1 S1 k1 r2 => ⟨ρ1, S1, (q.keep k1).of_bind.mono fun ⟨h1, ρ2⟩ q2 x H2 S2 k2 r1 => ?_⟩⟩
  obtain ⟨dx, e1, q3⟩ := q2.of_nox
  obtain ⟨dy, e2, q4⟩ := q3.of_nox
  obtain ⟨o, e3, q5⟩ := q4.of_nox
  have rx := r1.d S2 e1
  have ry := (r2.keep S1 k2).d S2 e2
  obtain ⟨c, r, rfl, g, i, _⟩ := getDic_rep rx ry e3
  refine ⟨c, r, rfl, g, ?_⟩
  rw [i]
  exact (out_of (K := X.K) S2 (k1.trans k2) q5).bl
theorem ct_dnin (hu : X.A.units + 1 < cLine) (hb : CEx X P0 O W E b mb) (ha : CEx X P0 O W E a ma) (hm : behindInMarks .NotIn a = false := by rfl) : CT X P0 O W E (.Compare b [.NotIn] [a] pos) (cBl (cDIn true mb ma)) := PT.imp (pt_cmp (pc_dnotin hu hb ha) hm) fun σ H Q h => by
  obtain ⟨ρ, S, h⟩ := tM_bl σ H Q h
  refine ⟨ρ, S, h.of_bind.mono fun ⟨h2, ρ1⟩ q y H1 S1 k1 r2 => ⟨ρ1, S1, (q.keep k1).of_bind.mono fun ⟨h1, ρ2⟩ q2 x H2 S2 k2 r1 => ?_⟩⟩
  obtain ⟨dx, e1, q3⟩ := q2.of_nox
  obtain ⟨dy, e2, q4⟩ := q3.of_nox
  obtain ⟨o, e3, q5⟩ := q4.of_nox
  have rx := r1.d S2 e1
  have ry := (r2.keep S1 k2).d S2 e2
  obtain ⟨c, r, rfl, g, i, _⟩ := getDic_rep rx ry e3
  refine ⟨c, r, rfl, g, ?_⟩
  rw [i]
  exact (out_of (K := X.K) S2 (k1.trans k2) q5).bl
end
@[simp] theorem e_clear {i : Nat} {ρ : Y.Env} : sClear i ρ = ((lstAt i ρ).nox >>= fun _ => R.ok (.nx, ρ.set i (some (.lst [])))) := id rfl
@[simp] theorem d_sortDT {ks : List (List Int)} {ds : List D} : sortDD [.dit (ks.map (·.map (Sum.inl : Int → Key))) ds] = if sortOk ks = true then .ok (.lst ((sortL ks).map fun x => D.tup (x.map D.int))) else .stk := by
  have h1 : ∀ n : List Int, intsK (n.map (Sum.inl : Int → Key)) = some n := fun n => by
    induction n with
    | nil => rfl
    | cons x xs ih => rw [List.map_cons]; unfold intsK; rw [ih]; rfl
  have h2 : ∀ ns : List (List Int), intsKs (ns.map (·.map (Sum.inl : Int → Key))) = some ns := fun ns => by
    induction ns with
    | nil => rfl
    | cons x xs ih => rw [List.map_cons]; unfold intsKs; rw [ih, h1]
  show (match intsKs (ks.map (·.map (Sum.inl : Int → Key))) with | some ns => _ | none => _) = _
  rw [h2]
end Y

set_option Elab.async false
set_option linter.all false
set_option maxRecDepth 100000
namespace Y
open PySem PySem.Spec PyProof.Rows L2
/-! ### x = f(..); if ..: return ..; then what x holds is changed and left: f's results are all new -/
/-- only objects of A are changed, only the slots vs -/
structure Stp (A : Pr) (vs : List Nat) (σ : L2.St) (H : Hp) (σ' : L2.St) (H' : Hp) : Prop where
  keep : ∀ b o, H b = some o → ¬ A b → H' b = some o
  mu : ∀ b, A b → isMut (H' b)
  sl : ∀ j, j ∉ vs → σ'[j]? = σ[j]?
  len : σ'.length = σ.length
def tRestK (i : Nat) (R : Pr → V → Hp → Prop) (vs qs : List Nat) (u : TS) : TS := fun D σ H => ∃ A v, (∀ b, A b → isMut (H b)) ∧ σ[i]? = some (some v) ∧ R A v H ∧ (∀ j ∈ vs, j < σ.length) ∧ (∀ q ∈ qs, ∃ w, σ[q]? = some (some w)) ∧ ∀ σ' H', Stp A vs σ H σ' H' → u D σ' H'
def knownB (ρ : Y.Env) (q : Nat) : Bool := match ρ[q]? with | some (some _) => true | _ => false
noncomputable def sScr (O W : List Nat) (g : List D → R Hd) (m : AM) (i : Nat) (t : BM) (mr : EM) (tr : D → Bool) (vs qs : List Nat) (n : SM) : SM := fun ρ => do
  let (hs, ρ1) ← m ρ
  let ds ← (vsOf hs).nox
  if nls ds = true then (do
    let h ← g ds
    let d ← h.v.nox
    if tr d = true ∧ i < ρ1.length ∧ (vs.all fun j => decide (j < ρ1.length)) = true then (do
      let (k, ρ2) ← t (ρ1.set i (some d))
      if k = true then sRet mr ρ2 else if (qs.all fun q => knownB ρ2 q) = true then (do
        let _ ← (chkO O W (ρ1.set i none) (wipeE ρ2 (i :: vs))).nox
        n (wipeE ρ2 (i :: vs))) else .stk) else .stk) else .stk
section
variable {K : PySem.W.Frag} {P0 : Pr} {O W U : List Nat} {ρ ρ1 ρ2 : Y.Env} {σ σ1 σ3 : L2.St} {H H1 H2 H3 : Hp} {i : Nat} {vs : List Nat}
/-- what the state is apart from the new objects A -/
theorem Sim.apart (S1 : Sim K P0 O W ρ1 σ H1) (S2 : Sim K P0 O W ρ2 σ H2) (kp : ∀ b o, H1 b = some o → ¬ OA W σ b → H2 b = some o) {A : Pr} (hA : ∀ b, A b → H1 b = none ∧ isMut (H2 b))
    (c : ∀ (j : Nat) d, ρ2[j]? = some (some d) → (ρ1[j]? = some (some d) ∧ j ∉ W) ∨ (j ∈ O ∧ d.shallow = true) ∨ d.nl = true) : Sim K (fun b => P0 b ∨ A b) O W ρ2 σ H2 := by
  have fa : ∀ b, FA (fun b => P0 b ∨ A b) O σ b → FA P0 O σ b ∨ H1 b = none := fun b z => by
    rcases z with (z | z) | z
    · exact .inl (.inl z)
    · exact .inr (hA b z).1
    · exact .inl (.inr z)
  have kf : ∀ b o, H1 b = some o → ¬ FA P0 O σ b → H2 b = some o := fun b o e n => kp b o e fun z => n (.inr (S1.oaw z))
  refine ⟨S2.sub, S2.len, fun b z => ?_, fun j d e n => ?_, fun j d e n => ?_, S2.sep, fun a z y => ?_⟩
  · rcases z with (z | z) | z
    · exact S2.dom b (.inl z)
    · exact (hA b z).2
    · exact S2.dom b (.inr z)
  · rcases c j d e with ⟨e0, _⟩ | ⟨z, _⟩ | nl
    · obtain ⟨w, h1, h2⟩ := S1.val j d e0 n
      exact ⟨w, h1, h2.mono d S1.dom kf fa⟩
    · exact absurd z n
    · obtain ⟨w, h1, h2⟩ := S2.val j d e n
      exact ⟨w, h1, h2.nl nl⟩
  · rcases c j d e with ⟨e0, hw⟩ | ⟨_, sh⟩ | nl
    · obtain ⟨w, h1, h2⟩ := S1.own j d e0 n
      refine ⟨w, h1, h2.mono S1.dom kf fa fun a o e1 e2 => ?_⟩
      subst e1
      refine kp a o e2 fun ⟨x, hx, ex⟩ => ?_
      have := S1.sep x j a (S1.sub x hx) n ex h1
      exact hw (this ▸ hx)
    · obtain ⟨w, h1, h2⟩ := S2.own j d e n
      exact ⟨w, h1, h2.shallow sh⟩
    · obtain ⟨w, h1, h2⟩ := S2.own j d e n
      refine ⟨w, h1, ?_⟩
      cases d <;> first | exact h2 | (simp [D.nl] at nl)
  · rcases y with y | y
    · exact S2.sep0 a z y
    · have q := S1.dom a (.inr z)
      rw [(hA a y).1] at q
      exact q
/-- .. those are changed -/
theorem Sim.stp {A : Pr} (S : Sim K (fun b => P0 b ∨ A b) O W ρ2 σ H2) (st : Stp A vs σ H2 σ3 H3) (hv : ∀ j ∈ vs, j ∉ O) (hw : ∀ j ∈ vs, ρ2[j]? = some none ∨ ρ2[j]? = none) : Sim K P0 O W ρ2 σ3 H3 := by
  have sO : ∀ j ∈ O, σ3[j]? = σ[j]? := fun j hj => st.sl j fun z => hv j z hj
  have oa : ∀ b, OA O σ3 b ↔ OA O σ b := OA_of sO
  have fa : ∀ b, FA P0 O σ3 b → FA (fun b => P0 b ∨ A b) O σ b := fun b z => by
    rcases z with z | z
    · exact .inl (.inl z)
    · exact .inr ((oa b).mp z)
  have kf : ∀ b o, H2 b = some o → ¬ FA (fun b => P0 b ∨ A b) O σ b → H3 b = some o := fun b o e n => st.keep b o e fun z => n (.inl (.inr z))
  have noA : ∀ b, OA O σ b → ¬ A b := fun b z y => S.sep0 b z (.inr y)
  have nj : ∀ j d, ρ2[j]? = some (some d) → j ∉ vs := fun j d e z => by
    rcases hw j z with q | q <;> (rw [q] at e; cases e)
  refine ⟨S.sub, by rw [st.len]; exact S.len, fun b z => ?_, fun j d e n => ?_, fun j d e n => ?_, fun x y a hx hy e1 e2 => S.sep x y a hx hy (by rw [← sO x hx]; exact e1) (by rw [← sO y hy]; exact e2), fun a z y => S.sep0 a ((oa a).mp z) (.inl y)⟩
  · by_cases c : A b
    · exact st.mu b c
    · have q := S.dom b (fa b z)
      cases e : H2 b with
      | none => rw [e] at q; exact q.elim
      | some o => rw [st.keep b o e c, ← e]; exact q
  · obtain ⟨w, h1, h2⟩ := S.val j d e n
    exact ⟨w, by rw [st.sl j (nj j d e)]; exact h1, h2.mono d S.dom kf fun b z => .inl (fa b z)⟩
  · obtain ⟨w, h1, h2⟩ := S.own j d e n
    refine ⟨w, by rw [sO j n]; exact h1, h2.mono S.dom kf (fun b z => .inl (fa b z)) fun a o e1 e2 => ?_⟩
    subst e1
    exact st.keep a o e2 (noA a ⟨j, n, h1⟩)
end
/-- what must be known of the new data -/
structure Rdy (tr : D → Bool) (R : PySem.W.Frag → Pr → V → Hp → Prop) : Prop where
  of : ∀ (K : PySem.W.Frag) (H : Hp) (d : D) (v : V) (P : Pr), (∀ b, P b → isMut (H b)) → tr d = true → Rep K H d P v → R K (fun b => ¬ P b ∧ isMut (H b)) v H
section
variable {X : Cx} {P0 : Pr} {O W U : List Nat} {E : EK} {XE : XK} {c e e2 : Expr} {es : List Expr} {ms : AM} {mr : EM} {pos pos2 p p2 p3 px : Pos} {k np i : Nat} {name x : Str} {t : BM} {n : SM} {tl : List Stmt} {tr : D → Bool} {R : PySem.W.Frag → Pr → V → Hp → Prop} {vs qs : List Nat}
/-- f(..), no argument holds a list: the result, new throughout -/
def tDeep (K : PySem.W.Frag) (P0 : Pr) (O W : List Nat) (E : EK) (g : List D → Y.R Hd) (m : AM) : TE := fun σ H Q => ∃ ρ, Sim K P0 O W ρ σ H ∧
  Res E W σ H (do
    let (hs, ρ1) ← m ρ
    let ds ← (vsOf hs).nox
    if nls ds = true then (do
      let h ← g ds
      let d ← h.v.nox
      pure (d, ρ1)) else .stk) fun a => ∀ v H1 H', Sim K P0 O W a.2 σ H1 → Keep W σ H H1 → Same H1 H' → Rep K H' a.1 (fun b => isMut (H1 b)) v → Q v H'
theorem tM_deep {g : List D → Y.R Hd} (hE : ∀ c ds H, E c ds H → exE X.mg XE c ds H) (hl : ALen ms np) (σ : St) (H : Hp) (Q : VK) (h : tDeep X.K P0 O W E g ms σ H Q) : tCall (spD X.K X.mg np [] (pureF g)) [] XE (tMs X.K P0 O W E ms) σ H Q := by
  obtain ⟨ρ, S, h⟩ := h
  refine ⟨ρ, S, ?_⟩
  cases em : ms ρ with
  | stk => rw [em] at h; exact h.elim
  | er c ds => rw [em] at h; exact h
  | ok p =>
    obtain ⟨hs, ρ1⟩ := p
    rw [em] at h
    intro vs H1 S1 k1 r1
    obtain ⟨ds, e1, q⟩ := Res.of_nox (show Res E W σ H ((vsOf hs).nox >>= _) _ from h)
    by_cases nl : nls ds = true
    · have q : Res E W σ H (if nls ds = true then (do
        let h ← g ds
        let d ← h.v.nox
        pure (d, ρ1)) else .stk) _ := q
      rw [if_pos nl] at q
      have rr := (HdRs.vs r1 e1).nl (P' := fun b => isMut (H1 b)) nl
      have lv : vs.length = np := by rw [HdRs.len r1]; exact hl ρ hs ρ1 em
      rw [List.append_nil]
      refine ⟨lv, ds, fun b => isMut (H1 b), sim_args (fun _ z => z) rr, by rw [← rr.length]; exact lv, ?_⟩
      have q := q.keep k1
      unfold pureF
      cases eg : g ds with
      | stk => rw [eg] at q; exact q.elim
      | er c xs =>
        rw [eg] at q
        exact fun H' kp => hE c xs H' (q H' (Keep.same kp.nil))
      | ok hd =>
        rw [eg] at q
        intro v H2 k2 _ r2
        have sm := Keep.nil k2
        have dom : ∀ b, isMut (H1 b) → isMut (H2 b) := fun b z => by
          cases e : H1 b with
          | none => rw [e] at z; exact z.elim
          | some o => rw [sm b o e, ← e]; exact z
        cases hd with
        | ow j => exact q.elim
        | fr d => exact q v H1 H2 S1 k1 sm (r2.1.less (fun b z => dom b ((FA_nil b).mp z)) fun b z => .inl z)
        | vl d => exact q v H1 H2 S1 k1 sm (Rep.less (fun b z => dom b ((FA_nil b).mp z)) r2 fun b z => .inl z)
    · have q : Res E W σ H (if nls ds = true then (do
        let h ← g ds
        let d ← h.v.nox
        pure (d, ρ1)) else .stk) _ := q
      rw [if_neg nl] at q
      exact q.elim
theorem wipe_none : ∀ {vs : List Nat} {ρ : Y.Env} {j : Nat}, j ∈ vs → (wipeE ρ vs)[j]? = some none ∨ (wipeE ρ vs)[j]? = none
  | v :: vs, ρ, j, h => by
    show ((wipeE ρ vs).set v none)[j]? = some none ∨ ((wipeE ρ vs).set v none)[j]? = none
    by_cases c : v = j
    · subst c
      by_cases l : v < (wipeE ρ vs).length
      · exact .inl (List.getElem?_set_self l)
      · exact .inr (List.getElem?_eq_none (by simpa using l))
    · rw [List.getElem?_set_ne c]
      exact wipe_none ((List.mem_cons.mp h).resolve_left fun z => c z.symm)
theorem cs_scr {g : List D → Y.R Hd} (hN : X.N.Nodup) (G : Glo X.prog X.w X.K X.mg X.base name k np [] (pureF g)) (o : Out2 X E XE) (hr : Room k X.A) (ha : CA X P0 O W E (e :: es) ms) (hl : ALen ms np) (ht : CT X P0 O W E c t) (hret : CEx X P0 O W E e2 mr) (rdy : Rdy tr R)
    (hT : PSs X tl (tRestK i (R X.K) vs qs (tSt X.K P0 O W U E n))) (hi : i ∉ O := by decide) (hu : i ∉ U := by decide) (hv : ∀ j ∈ vs, j ∉ O := by decide) (hvu : ∀ j ∈ vs, j ∉ U := by decide) (hx : X.N[i]? = some x := by rfl) (hlx : Loc X.env.scope x := by first | exact Or.inl rfl | exact Or.inr rfl)
    (hf : X.fn x = true ∨ X.env.scope.names.lookup x = some .local := by first | exact .inl rfl | exact .inr rfl) (hg : Gl X name := by rfl) (hdb : (name == ("__debug__" : Str)) = false := by decide)
    (he : starEach (e :: es) X.env = (false, eval e X.env) :: starEach es X.env := by rfl) (hpl : (backTo pos (starEach es X.env)).any (·.1) = false := by rfl)
    (hs : swapsWithSole [.Name x px] (.Call (.Name name p) (e :: es) [] pos) pos2.line X.env = pure false := by rfl) (hw : swappedStores [.Name x px] (.Call (.Name name p) (e :: es) [] pos) X.env = pure none := by rfl) :
    CSs X P0 O W U E (.Assign [.Name x px] (.Call (.Name name p) (e :: es) [] pos) pos2 :: .If c [.Return (some e2) p2] [] p3 :: tl) (sScr O W g ms i t mr tr vs qs n) := by
  obtain ⟨f, fd, ps, hm, hk, hb, _, F⟩ := G.ex
  refine PSs.imp (pss_cons (ps_asg (PE.imp (pe_call F hr hg hm hk hb .nil o.pass ha hdb he hpl) fun σ H Q h => tM_deep o.ex hl σ H Q h) (pg_name hN hx hlx hf) hs hw) (pss_cons (ps_if ht (pss_one (ps_ret hret)) pss_nil) hT)) fun D σ H ⟨ρ, S, h⟩ => ?_
  refine ⟨ρ, S, ?_⟩
  cases em : ms ρ with
  | stk => unfold sScr at h; rw [em] at h; exact h.elim
  | er c' ds => unfold sScr at h; rw [em] at h; exact Res.down S.sub h
  | ok pp =>
    obtain ⟨hs', ρ1⟩ := pp
    unfold sScr at h
    rw [em] at h
    obtain ⟨ds, e1, q⟩ := Res.of_nox (show Res E O σ H ((vsOf hs').nox >>= _) _ from h)
    show Res E W σ H ((vsOf hs').nox >>= _) _
    rw [e1]
    by_cases nl : nls ds = true
    case neg =>
      have q : Res E O σ H (if nls ds = true then _ else .stk) _ := q
      rw [if_neg nl] at q
      exact q.elim
    have q : Res E O σ H (if nls ds = true then _ else .stk) _ := q
    rw [if_pos nl] at q
    show Res E W σ H (if nls ds = true then _ else .stk) _
    rw [if_pos nl]
    cases eg : g ds with
    | stk => rw [eg] at q; exact q.elim
    | er c' xs => rw [eg] at q; exact Res.down S.sub (show Res E O σ H (.er c' xs) _ from q)
    | ok hd =>
      rw [eg] at q
      obtain ⟨d, e2', q⟩ := Res.of_nox (show Res E O σ H (hd.v.nox >>= _) _ from q)
      show Res E W σ H (hd.v.nox >>= _) _
      rw [e2']
      by_cases tt : tr d = true ∧ i < ρ1.length ∧ (vs.all fun j => decide (j < ρ1.length)) = true
      case neg =>
        have q : Res E O σ H (if tr d = true ∧ i < ρ1.length ∧ (vs.all fun j => decide (j < ρ1.length)) = true then _ else .stk) _ := q
        rw [if_neg tt] at q
        exact q.elim
      have q : Res E O σ H (if tr d = true ∧ i < ρ1.length ∧ (vs.all fun j => decide (j < ρ1.length)) = true then _ else .stk) _ := q
      rw [if_pos tt] at q
      intro v H1 H2 S1 k1 sm r
      have iW : i ∉ W := fun z => hi (S.sub i z)
      have dom2 : ∀ b, isMut (H1 b) → isMut (H2 b) := fun b z => by
        cases e : H1 b with
        | none => rw [e] at z; exact z.elim
        | some o => rw [sm b o e, ← e]; exact z
      have S1' := S1.same sm
      have S2 := S1'.set hi (r.less dom2 fun b z => S1.dom b z)
      have oa1 : ∀ b, OA O (σ.set i (some v)) b ↔ OA O σ b := OA_of fun j hj => List.getElem?_set_ne fun (y : i = j) => hi (y ▸ hj)
      have oaW : ∀ b, OA W (σ.set i (some v)) b ↔ OA W σ b := OA_of fun j hj => List.getElem?_set_ne fun (y : i = j) => iW (y ▸ hj)
      have t1 : Tr O U σ H (σ.set i (some v)) H2 := (Tr.of S.sub (k1.trans (Keep.same sm))).trans ⟨fun _ _ e _ => e, fun _ e => e, fun b z => .inl ((oa1 b).mp z), fun j hj => List.getElem?_set_ne fun (y : i = j) => hu (y ▸ hj)⟩
      have l1 : (σ.set i (some v)).length = σ.length := by simp
      cases et : t (ρ1.set i (some d)) with
      | stk => rw [et] at q; exact q.elim
      | er c' xs =>
        rw [et] at q
        refine ⟨ρ1.set i (some d), S2, ?_⟩
        rw [et]
        exact Res.down S.sub (Res.keepT (show Res E O σ H (.er c' xs) _ from q) t1)
      | ok pr =>
      obtain ⟨kb, ρ2⟩ := pr
      rw [et] at q
      refine ⟨ρ1.set i (some d), S2, ?_⟩
      rw [et]
      intro H3 S3 k2
      have t2 : Tr O U σ H (σ.set i (some v)) H3 := t1.trans (Tr.of S.sub k2)
      have k12 : ∀ b o, H1 b = some o → ¬ OA W (σ.set i (some v)) b → H3 b = some o := fun b o e n => k2.keep b o (sm b o e) n
      cases kb with
      | true =>
        have q2 : Res E O σ H (sRet mr ρ2) _ := q
        refine ⟨ρ2, S3, (Res.down S.sub ((Res.keepT q2 t2).of_bind)).mono fun ⟨hd', ρ3⟩ q3 v' H4 S4 k4 r4 => ?_⟩
        exact q3 _ H4 S4 (t2.trans (Tr.of S.sub k4)) (by simp) v' (r4.back fun b z => t2.some b z)
      | false =>
        by_cases kq : (qs.all fun q => knownB ρ2 q) = true
        case neg =>
          have q : Res E O σ H (if (qs.all fun q => knownB ρ2 q) = true then _ else .stk) _ := q
          rw [if_neg kq] at q
          exact q.elim
        have q : Res E O σ H (if (qs.all fun q => knownB ρ2 q) = true then _ else .stk) _ := q
        rw [if_pos kq] at q
        have q2 : Res E O σ H ((chkO O W (ρ1.set i none) (wipeE ρ2 (i :: vs))).nox >>= fun _ => n (wipeE ρ2 (i :: vs))) _ := q
        obtain ⟨_, e3, q3⟩ := q2.of_nox
        have ck := chkO_ok e3
        have mu1 : ∀ b, OA W (σ.set i (some v)) b → isMut (H1 b) := fun b z => S1.dom b (.inr (S1.oaw ((oaW b).mp z)))
        have mu3 : ∀ b, isMut (H1 b) → isMut (H3 b) := fun b z => by
          by_cases c : OA W (σ.set i (some v)) b
          · exact S3.dom b (.inr (S3.oaw c))
          · cases e : H1 b with
            | none => rw [e] at z; exact z.elim
            | some o => rw [k12 b o e c, ← e]; exact z
        have r3 : Rep X.K H3 d (fun b => isMut (H1 b)) v := r.of_same dom2 fun b o e n => k2.keep b o e fun z => n (mu1 b z)
        have hA : ∀ b, (¬ isMut (H1 b) ∧ isMut (H3 b)) → H1 b = none ∧ isMut (H3 b) := fun b z => by
          refine ⟨?_, z.2⟩
          cases e : H1 b with
          | none => rfl
          | some o =>
            have : H3 b = some o := k12 b o e fun y => z.1 (mu1 b y)
            exact absurd (by rw [e, ← this]; exact z.2) z.1
        refine ⟨fun b => ¬ isMut (H1 b) ∧ isMut (H3 b), v, fun b z => z.2, List.getElem?_set_self (Nat.lt_of_lt_of_le tt.2.1 S1.len), rdy.of X.K H3 d v _ mu3 tt.1 r3, fun j hj => by
          have := of_decide_eq_true (List.all_eq_true.mp tt.2.2 j hj)
          rw [l1]
          exact Nat.lt_of_lt_of_le this S1.len, fun q' hq => ?_, fun σ' H' st => ?_⟩
        · have z := List.all_eq_true.mp kq q' hq
          unfold knownB at z
          cases ek : ρ2[q']? with
          | none => rw [ek] at z; cases z
          | some o => cases o with
            | none => rw [ek] at z; cases z
            | some dq =>
              by_cases qO : q' ∈ O
              · obtain ⟨w, h1, _⟩ := S3.own q' dq ek qO
                exact ⟨w, h1⟩
              · obtain ⟨w, h1, _⟩ := S3.val q' dq ek qO
                exact ⟨w, h1⟩
        have Sa : Sim X.K (fun b => P0 b ∨ (¬ isMut (H1 b) ∧ isMut (H3 b))) O W (wipeE ρ2 (i :: vs)) (σ.set i (some v)) H3 := Sim.apart (S1.unset hi (some v)) (S3.wipe (i :: vs)) k12 hA ck
        have Sf := Sa.stp st hv fun j hj => wipe_none (List.mem_cons_of_mem i hj)
        have kH1 : ∀ b o, H b = some o → ¬ OA O σ b → H1 b = some o := fun b o e n => k1.keep b o e fun z => n (S.oaw z)
        have t3 : Tr O U σ H σ' H' := {
          keep := fun b o e n => by
            have h1 := kH1 b o e n
            refine st.keep b o (k12 b o h1 fun z => n (S.oaw ((oaW b).mp z))) fun z => ?_
            have := (hA b z).1
            rw [h1] at this
            cases this
          some := fun b e => by
            by_cases c : ¬ isMut (H1 b) ∧ isMut (H3 b)
            · exact (st.mu b c).some
            · have := t2.some b e
              cases z : H3 b with
              | none => exact absurd z this
              | some o => rw [st.keep b o z c]; intro y; cases y
          own := fun b ⟨j, hj, z⟩ => by
            rw [st.sl j fun y => hv j y hj] at z
            exact .inl ((oa1 b).mp ⟨j, hj, z⟩)
          unch := fun j hj => by
            rw [st.sl j fun y => hvu j y hj]
            exact List.getElem?_set_ne fun (y : i = j) => hu (y ▸ hj) }
        have l3 : σ'.length = σ.length := st.len.trans l1
        refine ⟨wipeE ρ2 (i :: vs), Sf, (Res.keepT q3 t3).mono fun ⟨f2, ρ3⟩ q4 σ4 H4 S4 t4 l4 => ?_⟩
        exact (q4 σ4 H4 S4 (t3.trans t4) (l4.trans l3)).back fun b z => t3.some b z
/-! #### for y in x: y.append(c) -/
def trL : Y.D → Bool
  | .lst ds => ds.all fun e => match e with
    | .lst xs => decide (xs.length + ds.length < sizeLine)
    | _ => false
  | _ => false
def rL (K : PySem.W.Frag) (A : Pr) (v : V) (H : Hp) : Prop := ∃ a ws M, v = .ref a ∧ A a ∧ ws.length < sizeLine ∧ H a = some (.lst ws) ∧ M + ws.length ≤ sizeLine ∧ ∀ w ∈ ws, ∃ b xs, w = V.ref b ∧ A b ∧ b ≠ a ∧ H b = some (.lst xs) ∧ xs.length < M
theorem rdyL : Rdy trL rL := ⟨fun K H d v P hm ht r => by
  cases d with
  | lst ds =>
    unfold Rep at r
    obtain ⟨a, vs, rfl, ha, h1, h2⟩ := r
    have ht : ∀ e ∈ ds, ∃ xs, e = .lst xs ∧ xs.length + ds.length < sizeLine := fun e he => by
      have := List.all_eq_true.mp ht e he
      cases e with
      | lst xs => exact ⟨xs, rfl, of_decide_eq_true this⟩
      | _ => cases this
    have hl := h2.length
    by_cases hz : vs.length ≤ sizeLine
    · have hz1 : vs.length < sizeLine := by
        cases vs with
        | nil => show 0 < sizeLine; decide
        | cons w ws =>
          obtain ⟨d', e1, r1⟩ := h2.getV (i := 0) (v := w) rfl
          obtain ⟨xs, _, hx⟩ := ht d' (List.mem_of_getElem? e1)
          omega
      refine ⟨a, vs, sizeLine - vs.length, rfl, ⟨ha, by rw [h1]; trivial⟩, hz1, h1, by omega, fun w hw => ?_⟩
      obtain ⟨k, hk, e⟩ := List.getElem_of_mem hw
      obtain ⟨d', e1, r1⟩ := h2.getV (show vs[k]? = some w by rw [List.getElem?_eq_getElem hk, e])
      obtain ⟨xs, rfl, hx⟩ := ht d' (List.mem_of_getElem? e1)
      unfold Rep at r1
      obtain ⟨b, us, rfl, hb, h3, h4⟩ := r1
      refine ⟨b, us, rfl, ⟨fun z => hb (.inl z), by rw [h3]; trivial⟩, fun z => hb (.inr z), h3, ?_⟩
      rw [h4.length]
      omega
    · exfalso
      cases vs with
      | nil => simp at hz
      | cons w ws =>
        obtain ⟨d', e1, r1⟩ := h2.getV (i := 0) (v := w) rfl
        obtain ⟨xs, _, hx⟩ := ht d' (List.mem_of_getElem? e1)
        omega
  | _ => cases ht⟩
/-- behind the loop: x's own list may be given more -/
def tEnd (i : Nat) (u : TS) : TS := fun D σ H => ∃ a ws, ∃ A : Pr, σ[i]? = some (some (V.ref a)) ∧ H a = some (.lst ws) ∧ ws.length < sizeLine ∧ A a ∧ (∀ b, A b → isMut (H b)) ∧ ∀ H', (∀ b o, H b = some o → ¬ A b → H' b = some o) → (∀ b, A b → isMut (H' b)) → u D σ H'
theorem te_nil {rest : List Stmt} {u : TS} (h : PSs X rest u) : PSs X rest (tEnd i u) := PSs.imp h fun D σ H ⟨a, ws, A, _, _, _, _, mu, q⟩ => q H (fun _ _ e _ => e) mu
theorem te_app {p1 p5 ap cp pos3 : Pos} {rest : List Stmt} {u : TS} (hx : X.N[i]? = some x) (hvx : Vis X.env.scope x) (hd : (x == ("__debug__" : Str)) = false) (hcd : (x == ("__classdict__" : Str)) = false) (hrest : PSs X rest u)
    (he : starEach [.List [] p5] X.env = (false, eval (.List [] p5) X.env) :: starEach [] X.env := by rfl) (hpl : (backTo cp (starEach [] X.env)).any (·.1) = false := by rfl) (hbase : attributeBase (.Name x p1) "append" X.env (eval (.Name x p1) X.env) = eval (.Name x p1) X.env := by rfl) (hline : (ap.endLine == cp.line) = true := by rfl)
    (hfew : Few X cp [.List [] p5] := by rfl) (hsw : swapsWith (.Call (.Attribute (.Name x p1) "append" ap) [.List [] p5] [] cp) none pos3.line X.env = pure false := by rfl) :
    PSs X (.Expr (.Call (.Attribute (.Name x p1) "append" ap) [.List [] p5] [] cp) pos3 :: rest) (tEnd i u) :=
  PSs.imp (pss_cons (ps_expr (pe_bm PySem.F.plainAttrs_list PySem.F.slot_list_append PySem.F.type_list_append mt_append (pe_var (i := i) hx hvx hd hcd) (pa_cons (pe_lst pa_nil) pa_nil he) hbase hfew hline he hpl) hsw) hrest) fun D σ H ⟨a, ws, A, h1, h2, h3, h4, mu, q⟩ =>
    ⟨.ref a, h1, .inl ⟨rfl, ws, SqL.of h2⟩, by show 0 ≤ sizeLine; decide, fun p hp => by
      have ne : a ≠ p := ne_of_none h2 hp
      refine ⟨a, ws, .ref p, rfl, rfl, by rw [upd_ne ne]; exact h2, h3, q _ (fun b o e n => ?_) fun b hb => ?_⟩
      · rw [upd_ne fun z => n (by rw [z]; exact h4), upd_ne (ne_of_none e hp)]; exact e
      · by_cases c : b = a
        · rw [c, upd_same]; trivial
        · rw [upd_ne c]
          by_cases c2 : b = p
          · rw [c2, upd_same]; trivial
          · rw [upd_ne c2]; exact mu b hb⟩
theorem ts_each {j : Nat} {y : Str} {cI : Int} {ck : Nat} {py p1 p4 p5 ap cp pos3 pos4 : Pos} {rest : List Stmt} {u : TS} (hN : X.N.Nodup) (hp : PassesOwn (model X.prog X.w) X.A X.env X.xe) (hc : X.calm = true) (hij : i ≠ j) (hx : X.N[i]? = some x) (hvx : Vis X.env.scope x) (hy : X.N[j]? = some y) (hvy : Vis X.env.scope y) (hly : Loc X.env.scope y) (hfy : X.fn y = true ∨ X.env.scope.names.lookup y = some .local)
    (hd : (x == ("__debug__" : Str)) = false) (hcd : (x == ("__classdict__" : Str)) = false) (hdy : (y == ("__debug__" : Str)) = false) (hcdy : (y == ("__classdict__" : Str)) = false)
    (hrest : PSs X rest (tEnd i u))
    (hs : ∀ z, foldedSetIterable (.Name x p1) X.env z = pure z := by intro _; rfl)
    (he : starEach [.Constant (.int cI) ck p5] X.env = (false, eval (.Constant (.int cI) ck p5) X.env) :: starEach [] X.env := by rfl) (hpl : (backTo cp (starEach [] X.env)).any (·.1) = false := by rfl) (hbase : attributeBase (.Name y p4) "append" X.env (eval (.Name y p4) X.env) = eval (.Name y p4) X.env := by rfl) (hline : (ap.endLine == cp.line) = true := by rfl)
    (hfew : Few X cp [.Constant (.int cI) ck p5] := by rfl) (hsw : swapsWith (.Call (.Attribute (.Name y p4) "append" ap) [.Constant (.int cI) ck p5] [] cp) none pos3.line X.env = pure false := by rfl) :
    PSs X (.For (.Name y py) (.Name x p1) [.Expr (.Call (.Attribute (.Name y p4) "append" ap) [.Constant (.int cI) ck p5] [] cp) pos3] [] pos4 :: rest) (tRestK i (rL X.K) [j] [] u) := by
  refine PSs.imp (pss_cons (ps_for hp hc (pi_list (pe_var (i := i) hx hvx hd hcd)) (pg_name hN hy hly hfy) (pss_one (ps_expr (pe_bm PySem.F.plainAttrs_list PySem.F.slot_list_append PySem.F.type_list_append mt_append (pe_var (i := j) hy hvy hdy hcdy) (pa_cons pe_int pa_nil he) hbase hfew hline he hpl) hsw)) hs) hrest) fun D σ H h => ?_
  obtain ⟨A, v, hA, hv, ⟨a, ws, M, rfl, Aa, wl, ha, hz, hw⟩, hj, _, done⟩ := h
  refine ⟨.ref a, hv, a, rfl, ⟨ws, SqL.of ha⟩, fun t k σx Hx => k = ws.length - t ∧ t ≤ ws.length ∧ Stp A [j] σ H σx Hx ∧ Hx a = some (.lst ws) ∧ ∀ w ∈ ws, ∃ b xs, w = V.ref b ∧ A b ∧ b ≠ a ∧ Hx b = some (.lst xs) ∧ xs.length < M + t, ⟨ws.length, by simp, Nat.zero_le _, ⟨fun _ _ e _ => e, hA, fun _ _ => rfl, rfl⟩, ha, hw⟩, ?_⟩
  rintro t k σx Hx ⟨rfl, ht, st, hax, hwx⟩
  by_cases c : t < ws.length
  · right
    refine ⟨⟨ws, ws[t], SqL.of hax, List.getElem?_eq_getElem c⟩, fun σ' H' => t + 1 ≤ ws.length ∧ Stp A [j] σ H σ' H' ∧ H' a = some (.lst ws) ∧ ∀ w ∈ ws, ∃ b xs, w = V.ref b ∧ A b ∧ b ≠ a ∧ H' b = some (.lst xs) ∧ xs.length < M + (t + 1), fun σ' H' ⟨q1, q2, q3, q4⟩ => ⟨ws.length - (t + 1), by omega, rfl, q1, q2, q3, q4⟩, fun z H' ⟨e1, e2⟩ => ?_⟩
    subst e1
    have ez := e2 ws (SqL.of hax)
    rw [List.getElem?_eq_getElem c] at ez
    cases ez
    obtain ⟨b, xs, eb, Ab, nb, hb, lb⟩ := hwx ws[t] (List.getElem_mem c)
    have lj : j < σx.length := by rw [st.len]; exact hj j (by simp)
    refine ⟨ws[t], List.getElem?_set_self lj, ?_, b, xs, .int cI, eb, rfl, hb, by omega, by omega, ?_, ?_, ?_⟩
    · rw [eb]; exact .inl ⟨rfl, xs, SqL.of hb⟩
    · refine ⟨fun b' o e n => ?_, fun b' hb' => ?_, fun j' hj' => ?_, by rw [List.length_set, st.len]⟩
      · rw [upd_ne fun z => n (by rw [z]; exact Ab)]
        exact st.keep b' o e n
      · by_cases q : b' = b
        · rw [q, upd_same]; trivial
        · rw [upd_ne q]; exact st.mu b' hb'
      · rw [List.getElem?_set_ne fun z => hj' (by simp [z])]
        exact st.sl j' hj'
    · rw [upd_ne (Ne.symm nb)]; exact hax
    · intro w hw'
      obtain ⟨b2, xs2, e3, A2, n2, h2, l2⟩ := hwx w hw'
      by_cases q : b2 = b
      · subst q
        rw [hb] at h2
        cases h2
        exact ⟨b2, _, e3, A2, n2, upd_same, by rw [List.length_append, List.length_singleton]; omega⟩
      · exact ⟨b2, xs2, e3, A2, n2, by rw [upd_ne q]; exact h2, by omega⟩
  · left
    have e : t = ws.length := by omega
    exact ⟨⟨ws, SqL.of hax, by omega⟩, a, ws, A, by rw [st.sl i (by simpa using hij)]; exact hv, hax, wl, Aa, st.mu, fun H' k1 m1 => done σx H' ⟨fun b o e n => k1 b o (st.keep b o e n) n, m1, st.sl, st.len⟩⟩
/-! #### x[0].append(..), x[1].clear(): x a pair of lists -/
def trT : Y.D → Bool
  | .tup [.lst xs, .lst ys] => decide (xs.length + 4 < sizeLine) && decide (ys.length + 4 < sizeLine)
  | _ => false
def rT (K : PySem.W.Frag) (A : Pr) (v : V) (H : Hp) : Prop := ∃ a b0 b1 x0 x1, v = .ref a ∧ H a = some (.tup [.ref b0, .ref b1]) ∧ A b0 ∧ A b1 ∧ H b0 = some (.lst x0) ∧ H b1 = some (.lst x1) ∧ x0.length + 4 < sizeLine ∧ x1.length + 4 < sizeLine
theorem rdyT : Rdy trT rT := ⟨fun K H d v P hm ht r => by
  unfold trT at ht
  split at ht
  · rename_i xs ys
    rw [Bool.and_eq_true, decide_eq_true_eq, decide_eq_true_eq] at ht
    unfold Rep at r
    obtain ⟨a, vs, rfl, h1, h2⟩ := r
    obtain ⟨v0, w0, rfl, r0, h2⟩ := h2.cons_iff
    obtain ⟨v1, w1, rfl, r1, h2⟩ := h2.cons_iff
    obtain rfl := h2.nil_iff
    unfold Rep at r0 r1
    obtain ⟨b0, u0, rfl, n0, g0, l0⟩ := r0
    obtain ⟨b1, u1, rfl, n1, g1, l1⟩ := r1
    exact ⟨a, b0, b1, u0, u1, rfl, h1, ⟨n0, by rw [g0]; trivial⟩, ⟨n1, by rw [g1]; trivial⟩, g0, g1, by rw [l0.length]; exact ht.1, by rw [l1.length]; exact ht.2⟩
  · cases ht⟩
/-- x[k]'s list is given other items, few more -/
def tMut (i : Nat) (k : Nat) (qs : List Nat) : TS := fun D σ H => ∃ a vs b xs, σ[i]? = some (some (V.ref a)) ∧ H a = some (.tup vs) ∧ vs[k]? = some (.ref b) ∧ H b = some (.lst xs) ∧ xs.length < sizeLine ∧ (∀ q ∈ qs, ∃ w, σ[q]? = some (some w)) ∧
  ∀ zs : List V, zs.length ≤ xs.length + 1 → D.nx σ (upd H b (.lst zs))
theorem tMut_ix {D : Ends} {σ : L2.St} {H : Hp} {qs : List Nat} {k : Nat} {Q : V → Hp → Prop} (h : ∃ a vs b, σ[i]? = some (some (V.ref a)) ∧ H a = some (.tup vs) ∧ vs[k]? = some (.ref b) ∧ Q (.ref b) H) : tOp (rIx X.K) (tVar i) (tC (.int (k : Nat))) σ H Q := by
  obtain ⟨a, vs, b, h1, h2, h3, q⟩ := h
  have hk := (List.getElem?_eq_some_iff.mp h3).1
  exact ⟨.ref a, h1, .inr (.inl ⟨a, vs, (k : Nat), .ref b, rfl, rfl, SqT.of h2, atI_of (j := k) rfl h3, q⟩)⟩
theorem tm_append {qs : List Nat} {kI : Nat} {ea : Expr} {ta : TE} {p1 p4 p5 ap cp pos3 : Pos} {ck : Nat} (hx : X.N[i]? = some x) (hvx : Vis X.env.scope x) (hd : (x == ("__debug__" : Str)) = false) (hcd : (x == ("__classdict__" : Str)) = false)
    (hea : PE X ea ta) (hta : ∀ σ H Q, (∀ q ∈ qs, ∃ w, σ[q]? = some (some w)) → (∀ w, Q w H) → ta σ H Q)
    (he : starEach [ea] X.env = (false, eval ea X.env) :: starEach [] X.env := by rfl) (hpl : (backTo cp (starEach [] X.env)).any (·.1) = false := by rfl) (hbase : attributeBase (.Subscript (.Name x p1) (.Constant (.int (kI : Nat)) ck p5) p4) "append" X.env (eval (.Subscript (.Name x p1) (.Constant (.int (kI : Nat)) ck p5) p4) X.env) = eval (.Subscript (.Name x p1) (.Constant (.int (kI : Nat)) ck p5) p4) X.env := by rfl) (hline : (ap.endLine == cp.line) = true := by rfl)
    (hfew : Few X cp [ea] := by rfl) (hsw : swapsWith (.Call (.Attribute (.Subscript (.Name x p1) (.Constant (.int (kI : Nat)) ck p5) p4) "append" ap) [ea] [] cp) none pos3.line X.env = pure false := by rfl) :
    PS X (.Expr (.Call (.Attribute (.Subscript (.Name x p1) (.Constant (.int (kI : Nat)) ck p5) p4) "append" ap) [ea] [] cp) pos3) (tMut i kI qs) :=
  PS.imp (ps_expr (pe_bm PySem.F.plainAttrs_list PySem.F.slot_list_append PySem.F.type_list_append mt_append (pe_ix ix_seq (pe_var (i := i) hx hvx hd hcd) pe_int fun _ _ => rfl) (pa_cons hea pa_nil he) hbase hfew hline he hpl) hsw) fun D σ H ⟨a, vs, b, xs, h1, h2, h3, h4, h5, h6, q⟩ =>
    tMut_ix (D := D) (qs := qs) ⟨a, vs, b, h1, h2, h3, .inl ⟨rfl, xs, SqL.of h4⟩, hta σ H _ h6 fun w => ⟨b, xs, w, rfl, rfl, h4, h5, q _ (by simp)⟩⟩
theorem ta_int {qs : List Nat} {z : Int} : ∀ (σ : L2.St) (H : Hp) (Q : VK), (∀ q ∈ qs, ∃ w, σ[q]? = some (some w)) → (∀ w, Q w H) → tC (.int z) σ H Q := fun σ H Q _ h => h _
theorem ta_var {qs : List Nat} {j : Nat} (hj : j ∈ qs) : ∀ (σ : L2.St) (H : Hp) (Q : VK), (∀ q ∈ qs, ∃ w, σ[q]? = some (some w)) → (∀ w, Q w H) → tVar j σ H Q := fun σ H Q h1 h => let ⟨w, e⟩ := h1 j hj; ⟨w, e, h w⟩
theorem tm_clear {qs : List Nat} {kI : Nat} {p1 p4 p5 ap cp pos3 : Pos} {ck : Nat} (hx : X.N[i]? = some x) (hvx : Vis X.env.scope x) (hd : (x == ("__debug__" : Str)) = false) (hcd : (x == ("__classdict__" : Str)) = false)
    (hbase : attributeBase (.Subscript (.Name x p1) (.Constant (.int (kI : Nat)) ck p5) p4) "clear" X.env (eval (.Subscript (.Name x p1) (.Constant (.int (kI : Nat)) ck p5) p4) X.env) = eval (.Subscript (.Name x p1) (.Constant (.int (kI : Nat)) ck p5) p4) X.env := by rfl) (hline : (ap.endLine == cp.line) = true := by rfl)
    (hsw : swapsWith (.Call (.Attribute (.Subscript (.Name x p1) (.Constant (.int (kI : Nat)) ck p5) p4) "clear" ap) [] [] cp) none pos3.line X.env = pure false := by rfl) :
    PS X (.Expr (.Call (.Attribute (.Subscript (.Name x p1) (.Constant (.int (kI : Nat)) ck p5) p4) "clear" ap) [] [] cp) pos3) (tMut i kI qs) :=
  PS.imp (ps_expr (pe_bm0 PySem.F.plainAttrs_list PySem.F.slot_list_clear PySem.F.type_list_clear mt_clear (pe_ix ix_seq (pe_var (i := i) hx hvx hd hcd) pe_int fun _ _ => rfl) hbase hline) hsw) fun D σ H ⟨a, vs, b, xs, h1, h2, h3, h4, h5, h6, q⟩ =>
    tMut_ix (D := D) (qs := qs) ⟨a, vs, b, h1, h2, h3, .inl ⟨rfl, xs, SqL.of h4⟩, b, xs, rfl, rfl, h4, q _ (by simp)⟩
theorem ts_two {qs : List Nat} {st1 st2 : Stmt} {rest : List Stmt} {u : TS} (h1 : PS X st1 (tMut i 0 qs)) (h2 : PS X st2 (tMut i 1 qs)) (hrest : PSs X rest u) : PSs X (st1 :: st2 :: rest) (tRestK i (rT X.K) [] qs u) := by
  refine PSs.imp (pss_cons h1 (pss_cons h2 hrest)) fun D σ H ⟨A, v, hA, hv, ⟨a, b0, b1, x0, x1, ev, ha, A0, A1, g0, g1, l0, l1⟩, _, hq, done⟩ => ?_
  subst ev
  have nt : ∀ b, A b → b ≠ a := fun b z e => by
    have := hA b z
    rw [e, ha] at this
    exact this
  refine ⟨a, _, b0, x0, hv, ha, rfl, g0, by omega, hq, fun z0 hz0 => ?_⟩
  obtain ⟨y1, e1, ly⟩ : ∃ y1, upd H b0 (.lst z0) b1 = some (.lst y1) ∧ y1.length + 2 < sizeLine := by
    by_cases c : b1 = b0
    · rw [c, upd_same]; exact ⟨z0, rfl, by omega⟩
    · rw [upd_ne c]; exact ⟨x1, g1, by omega⟩
  refine ⟨a, _, b1, y1, hv, by rw [upd_ne (Ne.symm (nt b0 A0))]; exact ha, rfl, e1, by omega, hq, fun z1 hz1 => done _ _ ⟨fun b o e n => ?_, fun b hb => ?_, fun _ _ => rfl, rfl⟩⟩
  · rw [upd_ne fun z => n (by rw [z]; exact A1), upd_ne fun z => n (by rw [z]; exact A0)]
    exact e
  · by_cases c : b = b1
    · rw [c, upd_same]; trivial
    · rw [upd_ne c]
      by_cases c2 : b = b0
      · rw [c2, upd_same]; trivial
      · rw [upd_ne c2]; exact hA b hb
end
@[simp] theorem e_scr {O W : List Nat} {g : List D → Y.R Hd} {m : AM} {i : Nat} {t : BM} {mr : EM} {tr : D → Bool} {vs qs : List Nat} {n : SM} {ρ : Y.Env} : sScr O W g m i t mr tr vs qs n ρ = (m ρ >>= fun p => (vsOf p.1).nox >>= fun ds => if nls ds = true then (g ds >>= fun h => h.v.nox >>= fun d => if tr d = true ∧ i < p.2.length ∧ (vs.all fun j => decide (j < p.2.length)) = true then (t (p.2.set i (some d)) >>= fun q => if q.1 = true then sRet mr q.2 else if (qs.all fun k => knownB q.2 k) = true then ((chkO O W (p.2.set i none) (wipeE q.2 (i :: vs))).nox >>= fun _ => n (wipeE q.2 (i :: vs))) else .stk) else .stk) else .stk) := id rfl
end Y

set_option Elab.async false
set_option linter.all false
set_option maxRecDepth 100000
namespace Y
open PySem PySem.Spec PyProof.Rows L2
/-! ### d.setdefault(k, x), k a tuple -/
section
variable {X : Cx} {pins : List (Addr × Obj)} {σ : L2.St} {H : Hp} {s : Shared} {a b : Addr} {r : Value} {d : V} {k : List Key} {A : Around} {E : Value → Shared → Prop}
theorem d_setdT {kvs : List (List Key × V)} {Q : Value → Shared → Prop} (hu : A.units + 1 < cLine) (I : Inv X pins σ H s) (e : H a = some (.dT kvs)) (eb : H b = some (.tup (k.map kV))) (rd : RelV d r) (hl : kvs.length < sizeLine)
    (h1 : ∀ v, valV kvs k = some v → ∀ (w' : Value) (s' : Shared), Inv X pins σ H s' → RelV v w' → Q w' s') (h2 : valV kvs k = none → ∀ (w' : Value) (s' : Shared), Inv X pins σ (upd H a (.dT (putK kvs k d))) s' → RelV d w' → Q w' s') :
    wpAny (model X.prog X.w) A (call (.builtin "dict.setdefault") [.ref a, .ref b, r]) Q E s := by
  obtain ⟨z, hd, xs, rel, dd⟩ := dt_of I.hok e
  have hz : xs.length ≤ sizeLine := by rw [← Paired.length rel]; exact z
  refine call_setdefault_heap (hsz := hz) (tupleKind_room_in1 hu) (key_of I.hok eb) hd dd (fun p hp => ?_) fun hn h' dd' hs => ?_
  · have q := rel.val k
    rw [hp] at q
    cases q0 : valV kvs k with
    | none => rw [q0] at q; exact (show False from q).elim
    | some v0 => rw [q0] at q; exact h1 v0 q0 _ _ (I.tok _) q
  · have q := rel.val k
    rw [hn] at q
    cases q0 : valV kvs k with
    | some v0 => rw [q0] at q; exact (show False from q).elim
    | none =>
      have hl2 : (putK kvs k d).length ≤ sizeLine := by have := length_putK kvs k d; omega
      refine h2 q0 _ _ ?_ rd
      obtain ⟨q, es, ep, hq, h2, h3, h4, _, h5⟩ := dd'
      refine d_write I (by rw [e]; exact True.intro) hs ⟨q, hq⟩ ⟨hl2, hd, _, (rel.put k eb rd).keeps fun c ys ec => ?_, q, es, ep, hq, h2, h3, h4, h5⟩
      rw [upd_ne (ne_of ec e (fun z => nomatch z))]
      exact ec
end
def tDSetdT (td ty tx : TE) : TE := fun σ H Q => td σ H fun x H1 => ∃ a, x = .ref a ∧ IsD H1 a ∧ ty σ H1 fun y H2 => tx σ H2 fun z H3 => ∃ (kvs : List (List Key × V)) (k : List Key) (b : Addr), H3 a = some (.dT kvs) ∧ y = .ref b ∧ H3 b = some (.tup (k.map kV)) ∧ kvs.length < sizeLine ∧
  (∀ v, valV kvs k = some v → Q v H3) ∧ (valV kvs k = none → Q z (upd H3 a (.dT (putK kvs k z))))
section
variable {X : Cx} {o e f : Expr} {td ty tx : TE} {apos cpos : Pos}
theorem pe_dsetdT (hu : X.A.units + 1 < cLine) (ho : PE X o td) (he : PE X e ty) (hf : PE X f tx) (m : M2 X o "setdefault" apos e f cpos) : PE X (.Call (.Attribute o "setdefault" apos) [e, f] [] cpos) (tDSetdT td ty tx) := by
  refine ⟨fun pins s σ H Q I h => ?_⟩
  refine wpAny_Call_method m.base m.few m.line PySem.F.plainAttrs_dict PySem.F.slot_dict_setdefault PySem.F.type_dict_setdefault (thn (ho.run pins s σ H _ I h) fun u s1 ⟨x, H1, I1, rx, a, ex, d, q1⟩ => ?_)
  subst ex
  obtain rfl : u = Value.ref a := rx
  obtain ⟨t1, t2, _⟩ := isD_at I1 d
  refine ⟨t1, t2, ?_⟩
  rw [m.trees]
  refine Calls.callWith_builtin rfl (Calls.evalArgs_plain (Calls.spliced_cons (thn (he.run pins s1 σ H1 _ I1 q1) fun iv s2 ⟨y, H2, I2, ry, q2⟩ =>
    Calls.spliced_cons (thn (hf.run pins s2 σ H2 _ I2 q2) fun fv s3 ⟨z, H3, I3, rz, kvs, k, b, ea, ey, eb, hl, q3, q4⟩ => Calls.spliced_nil ?_))))
  subst ey
  obtain rfl : iv = Value.ref b := ry
  exact d_setdT hu I3 ea eb rz hl (fun v hv w' s4 I4 rw' => ⟨v, _, I4, rw', q3 v hv⟩) fun hn w' s4 I4 rw' => ⟨z, _, I4, rw', q4 hn⟩
end
/-! ### for a, b, s in ..: d.setdefault((a, b), []).append(s) -/
abbrev Grp := List (List Key × List Int)
def gAdd (k : List Key) (s : Int) : Grp → Grp
  | [] => [(k, [s])]
  | (k', l) :: g => if k' = k then (k', l ++ [s]) :: g else (k', l) :: gAdd k s g
def grp (ts : List (List Key × Int)) : Grp := ts.foldl (fun g t => gAdd t.1 t.2 g) []
def dGrp (g : Grp) : D := .dit (g.map (·.1)) (g.map fun p => .lst (p.2.map D.int))
def trip : D → Option (List Key × Int)
  | .tup [.int a, .int b, .int s] => some ([.inl a, .inl b], s)
  | _ => none
def trips : List D → Option (List (List Key × Int))
  | [] => some []
  | d :: ds => match trip d, trips ds with
    | some t, some ts => some (t :: ts)
    | _, _ => none
theorem trips_get : ∀ {ds : List D} {ts : List (List Key × Int)} {i : Nat} {d : D}, trips ds = some ts → ds[i]? = some d → ∃ t, ts[i]? = some t ∧ trip d = some t
  | [], ts, i, d, _, e => by simp at e
  | x :: ds, ts, i, d, h, e => by
    unfold trips at h
    cases q : trip x with
    | none => rw [q] at h; simp at h
    | some t =>
      cases q2 : trips ds with
      | none => rw [q, q2] at h; simp at h
      | some ts' =>
        rw [q, q2] at h
        cases h
        cases i with
        | zero => simp at e; subst e; exact ⟨t, rfl, q⟩
        | succ i => simpa using trips_get (i := i) q2 (by simpa using e)
theorem trips_len : ∀ {ds : List D} {ts : List (List Key × Int)}, trips ds = some ts → ts.length = ds.length
  | [], ts, h => by cases h; rfl
  | x :: ds, ts, h => by
    unfold trips at h
    cases q : trip x with
    | none => rw [q] at h; simp at h
    | some t =>
      cases q2 : trips ds with
      | none => rw [q, q2] at h; simp at h
      | some ts' => rw [q, q2] at h; cases h; simp [trips_len q2]
/-- the groups lie in objects of their own, new since H1 -/
def GOk (H1 Hx : Hp) : Grp → List Addr → Prop
  | [], bs => bs = []
  | (_, l) :: g, bs => ∃ b r, bs = b :: r ∧ H1 b = none ∧ Hx b = some (.lst (l.map V.int)) ∧ b ∉ r ∧ GOk H1 Hx g r
def kvG : Grp → List Addr → List (List Key × V)
  | (k, _) :: g, b :: bs => (k, .ref b) :: kvG g bs
  | _, _ => []
section
variable {H1 Hx Hy : Hp}
theorem GOk.keep : ∀ {g : Grp} {bs : List Addr}, GOk H1 Hx g bs → (∀ b ∈ bs, Hy b = Hx b) → GOk H1 Hy g bs
  | [], bs, h, _ => h
  | (_, l) :: g, bs, ⟨b, r, e, h1, h2, h3, h4⟩, k => ⟨b, r, e, h1, by rw [k b (by simp [e])]; exact h2, h3, h4.keep fun c hc => k c (by simp [e, hc])⟩
theorem GOk.mem : ∀ {g : Grp} {bs : List Addr}, GOk H1 Hx g bs → ∀ b ∈ bs, H1 b = none ∧ ∃ l, Hx b = some (.lst l)
  | [], bs, h, b, hb => by
    have h : bs = [] := h
    rw [h] at hb
    cases hb
  | (_, l) :: g, bs, ⟨b0, r, e, h1, h2, h3, h4⟩, b, hb => by
    rw [e] at hb
    rcases List.mem_cons.mp hb with rfl | hb
    · exact ⟨h1, _, h2⟩
    · exact h4.mem b hb
theorem GOk.get {k : List Key} {s : Int} : ∀ {g : Grp} {bs : List Addr} {v : V}, GOk H1 Hx g bs → valV (kvG g bs) k = some v → ∃ b l, v = .ref b ∧ b ∈ bs ∧ Hx b = some (.lst (l.map V.int)) ∧ (∃ k', (k', l) ∈ g) ∧ GOk H1 (upd Hx b (.lst (l.map V.int ++ [.int s]))) (gAdd k s g) bs ∧ kvG (gAdd k s g) bs = kvG g bs
  | [], bs, v, h, e => by cases e
  | (k', l) :: g, bs, v, ⟨b, r, eb, h1, h2, h3, h4⟩, e => by
    subst eb
    unfold gAdd
    by_cases c : k' = k
    · have e : valV ((k', V.ref b) :: kvG g r) k = some v := e
      rw [valV_pos c] at e
      cases e
      rw [if_pos c]
      refine ⟨b, l, rfl, by simp, h2, ⟨k', by simp⟩, ⟨b, r, rfl, h1, by rw [upd_same, List.map_append]; rfl, h3, h4.keep fun c hc => upd_ne fun z => h3 (by rw [← z]; exact hc)⟩, rfl⟩
    · have e : valV ((k', V.ref b) :: kvG g r) k = some v := e
      rw [valV_neg c] at e
      obtain ⟨b2, l2, e1, e2, e3, ⟨k2, ek⟩, e4, e5⟩ := h4.get (s := s) e
      rw [if_neg c]
      refine ⟨b2, l2, e1, by simp [e2], e3, ⟨k2, by simp [ek]⟩, ⟨b, r, rfl, h1, by rw [upd_ne fun z => h3 (by rw [z]; exact e2)]; exact h2, h3, e4⟩, ?_⟩
      show (k', V.ref b) :: kvG (gAdd k s g) r = (k', V.ref b) :: kvG g r
      rw [e5]
theorem putK_cons {k k' : List Key} {v w : V} {r : List (List Key × V)} (c : ¬ k' = k) (hn : valV r k = none) : putK ((k', w) :: r) k v = (k', w) :: putK r k v := by
  have a1 : (r.any fun kv => decide (kv.1 = k)) = false := by rw [valV_any, hn]; rfl
  unfold putK
  rw [List.any_cons, a1]
  have : decide (k' = k) = false := decide_eq_false c
  simp [this]
theorem GOk.snoc {k : List Key} {s : Int} {p : Addr} (hp1 : H1 p = none) (hp : Hx p = some (.lst [.int s])) : ∀ {g : Grp} {bs : List Addr}, GOk H1 Hx g bs → p ∉ bs → valV (kvG g bs) k = none → GOk H1 Hx (gAdd k s g) (bs ++ [p]) ∧ kvG (gAdd k s g) (bs ++ [p]) = putK (kvG g bs) k (.ref p)
  | [], bs, h, np, e => by
    have h : bs = [] := h
    subst h
    exact ⟨⟨p, [], rfl, hp1, hp, by simp, rfl⟩, rfl⟩
  | (k', l) :: g, bs, ⟨b, r, eb, h1, h2, h3, h4⟩, np, e => by
    subst eb
    have c : ¬ k' = k := fun c => by
      have e : valV ((k', V.ref b) :: kvG g r) k = none := e
      rw [valV_pos c] at e
      cases e
    have e : valV ((k', V.ref b) :: kvG g r) k = none := e
    rw [valV_neg c] at e
    obtain ⟨i1, i2⟩ := GOk.snoc hp1 hp (s := s) h4 (fun z => np (by simp [z])) e
    unfold gAdd
    rw [if_neg c]
    refine ⟨⟨b, r ++ [p], rfl, h1, h2, fun z => ?_, i1⟩, ?_⟩
    · rcases List.mem_append.mp z with z | z
      · exact h3 z
      · rw [List.mem_singleton] at z
        exact np (by simp [z])
    · show (k', V.ref b) :: kvG (gAdd k s g) (r ++ [p]) = putK ((k', V.ref b) :: kvG g r) k (.ref p)
      rw [i2, putK_cons c e]
theorem GOk.len : ∀ {g : Grp} {bs : List Addr}, GOk H1 Hx g bs → (kvG g bs).length = g.length ∧ bs.length = g.length
  | [], bs, h => by
    have h : bs = [] := h
    subst h
    exact ⟨rfl, rfl⟩
  | (k, l) :: g, bs, ⟨b, r, e, _, _, _, h⟩ => by
    subst e
    have := h.len
    exact ⟨by show (kvG g r).length + 1 = _; rw [this.1]; rfl, by simp [this.2]⟩
theorem kvG_zip : ∀ {g : Grp} {bs : List Addr}, bs.length = g.length → kvG g bs = (g.map (·.1)).zip (bs.map V.ref)
  | [], bs, h => by cases bs <;> rfl
  | (k, l) :: g, [], h => by simp at h
  | (k, l) :: g, b :: bs, h => by
    show (k, V.ref b) :: kvG g bs = _
    rw [kvG_zip (by simpa using h), List.map_cons, List.map_cons, List.zip_cons_cons]
theorem GOk.reps {K : PySem.W.Frag} {P : Pr} (hP : ∀ b, P b → H1 b ≠ none) : ∀ {g : Grp} {bs : List Addr}, GOk H1 Hx g bs → Reps K Hx (g.map fun p => .lst (p.2.map D.int)) P (bs.map V.ref)
  | [], bs, h => by
    have h : bs = [] := h
    subst h
    exact Reps.nil
  | (k, l) :: g, bs, ⟨b, r, e, h1, h2, _, h⟩ => by
    subst e
    refine Reps.cons ?_ (h.reps hP)
    unfold Rep
    exact ⟨b, _, rfl, fun z => hP b z h1, h2, reps_ints l⟩
end
theorem gAdd_len {k : List Key} {s : Int} : ∀ {g : Grp}, (gAdd k s g).length ≤ g.length + 1
  | [] => by simp [gAdd]
  | (k', l) :: g => by
    unfold gAdd
    split
    · simp
    · simpa using gAdd_len (g := g)
theorem gAdd_le {k : List Key} {s : Int} {m : Nat} : ∀ {g : Grp}, (∀ p ∈ g, p.2.length ≤ m) → ∀ p ∈ gAdd k s g, p.2.length ≤ m + 1
  | [], _, p, hp => by simp [gAdd] at hp; subst hp; simp
  | (k', l) :: g, h, p, hp => by
    unfold gAdd at hp
    split at hp
    · rcases List.mem_cons.mp hp with rfl | hp
      · have := h (k', l) (by simp)
        simpa using this
      · have := h p (by simp [hp])
        omega
    · rcases List.mem_cons.mp hp with rfl | hp
      · have := h (k', l) (by simp)
        exact Nat.le_succ_of_le this
      · exact gAdd_le (fun q hq => h q (by simp [hq])) p hp
theorem grp_snoc {ts : List (List Key × Int)} {i : Nat} {t : List Key × Int} (h : ts[i]? = some t) : grp (ts.take (i + 1)) = gAdd t.1 t.2 (grp (ts.take i)) := by
  unfold grp
  rw [List.take_add_one, h, List.foldl_append]
  rfl
section
variable {K : PySem.W.Frag} {P0 : Pr} {O W U : List Nat} {ρ : Y.Env} {σ σ3 : L2.St} {H1 H3 : Hp} {i : Nat} {sl : List Nat}
/-- an own slot's object was changed, all else that stood stands -/
theorem Sim.group (S : Sim K P0 O W ρ σ H1) {dd : Addr} (hi : i ∈ O) (hdd : σ[i]? = some (some (.ref dd))) (kp : ∀ b o, H1 b = some o → b ≠ dd → H3 b = some o) (mu : isMut (H3 dd)) (hsl : ∀ j ∈ sl, j ∉ O) (hσ : ∀ j, j ∉ sl → σ3[j]? = σ[j]?) (hl : σ3.length = σ.length)
    (o : Option D) (ho : ∀ d, o = some d → RepO K H3 d (FA P0 O σ) (.ref dd)) : Sim K P0 O W (wipeE (ρ.set i o) sl) σ3 H3 := by
  have sO : ∀ j ∈ O, σ3[j]? = σ[j]? := fun j hj => hσ j fun z => hsl j z hj
  have oa : ∀ b, OA O σ3 b ↔ OA O σ b := OA_of sO
  have fa : ∀ b, FA P0 O σ3 b ↔ FA P0 O σ b := fun b => or_congr Iff.rfl (oa b)
  have ddA : FA P0 O σ dd := .inr ⟨i, hi, hdd⟩
  have kf : ∀ b o, H1 b = some o → ¬ FA P0 O σ b → H3 b = some o := fun b o e n => kp b o e fun z => n (by rw [z]; exact ddA)
  have get : ∀ j d, (wipeE (ρ.set i o) sl)[j]? = some (some d) → j ∉ sl ∧ ((j = i ∧ o = some d) ∨ (j ≠ i ∧ ρ[j]? = some (some d))) := fun j d e => by
    obtain ⟨e1, e2⟩ := wipeE_some e
    refine ⟨e2, ?_⟩
    by_cases c : i = j
    · subst c
      have h1 : i < ρ.length := by have := (List.getElem?_eq_some_iff.mp e1).1; simpa using this
      rw [List.getElem?_set_self h1] at e1
      exact .inl ⟨rfl, by simpa using e1⟩
    · rw [List.getElem?_set_ne c] at e1
      exact .inr ⟨fun z => c z.symm, e1⟩
  refine ⟨S.sub, by rw [wipeE_length, List.length_set, hl]; exact S.len, fun b z => ?_, fun j d e n => ?_, fun j d e n => ?_, fun x y a hx hy e1 e2 => S.sep x y a hx hy (by rw [← sO x hx]; exact e1) (by rw [← sO y hy]; exact e2), fun a z y => S.sep0 a ((oa a).mp z) y⟩
  · have z := (fa b).mp z
    by_cases c : b = dd
    · rw [c]; exact mu
    · have q := S.dom b z
      cases e : H1 b with
      | none => rw [e] at q; exact q.elim
      | some o => rw [kp b o e c, ← e]; exact q
  · obtain ⟨e2, e3⟩ := get j d e
    rcases e3 with ⟨rfl, _⟩ | ⟨_, e3⟩
    · exact absurd hi n
    · obtain ⟨v, h1, h2⟩ := S.val j d e3 n
      exact ⟨v, by rw [hσ j e2]; exact h1, h2.mono d S.dom kf fun b z => .inl ((fa b).mp z)⟩
  · obtain ⟨e2, e3⟩ := get j d e
    rcases e3 with ⟨rfl, e3⟩ | ⟨ne, e3⟩
    · refine ⟨.ref dd, by rw [hσ j e2]; exact hdd, (ho d e3).mono (fun b z => ?_) (fun _ _ e _ => e) (fun b z => .inl ((fa b).mp z)) fun _ _ _ e => e⟩
      by_cases c : b = dd
      · rw [c]; exact mu
      · have q := S.dom b z
        cases e : H1 b with
        | none => rw [e] at q; exact q.elim
        | some o => rw [kp b o e c, ← e]; exact q
    · obtain ⟨v, h1, h2⟩ := S.own j d e3 n
      refine ⟨v, by rw [hσ j e2]; exact h1, h2.mono S.dom kf (fun b z => .inl ((fa b).mp z)) fun a o e4 e5 => kp a o e5 fun z => ?_⟩
      subst e4
      exact ne (S.sep j i a n hi h1 (by rw [z]; exact hdd))
end
noncomputable def sGroup (i : Nat) (im : IM) (sl : List Nat) : SM := fun ρ => do
  let ((ds, ws), ρ1) ← im ρ
  match ws, ρ1[i]?, trips ds with
  | [], some (some (.dit [] [])), some ts => if ts.length < 1000000 ∧ (sl.all fun j => decide (j < ρ1.length)) = true then pure (.nx, wipeE (ρ1.set i (some (dGrp (grp ts)))) sl) else .stk
  | _, _, _ => .stk
section
variable {X : Cx} {P0 : Pr} {O W U : List Nat} {E : EK} {tg iter : Expr} {pos pos3 p1 p2 p3 p4 p5 ap ap2 cp cp2 : Pos} {x ya yb ys : Str}
theorem set3 {ρ : Y.Env} {a b s : Nat} {x y z : D} (hnd : [a, b, s].Nodup) (la : a < ρ.length) (lb : b < ρ.length) (ls : s < ρ.length) : (setAll ρ [a, b, s] [x, y, z])[a]? = some (some x) ∧ (setAll ρ [a, b, s] [x, y, z])[b]? = some (some y) ∧ (setAll ρ [a, b, s] [x, y, z])[s]? = some (some z) := by
  simp only [List.nodup_cons, List.mem_cons, List.not_mem_nil, or_false, not_or, List.nodup_nil] at hnd
  obtain ⟨⟨n1, n2⟩, n3, _⟩ := hnd
  show (((ρ.set a (some x)).set b (some y)).set s (some z))[a]? = _ ∧ (((ρ.set a (some x)).set b (some y)).set s (some z))[b]? = _ ∧ (((ρ.set a (some x)).set b (some y)).set s (some z))[s]? = _
  refine ⟨?_, ?_, ?_⟩
  · rw [List.getElem?_set_ne (Ne.symm n2), List.getElem?_set_ne (Ne.symm n1), List.getElem?_set_self la]
  · rw [List.getElem?_set_ne (Ne.symm n3), List.getElem?_set_self (by simpa using lb)]
  · rw [List.getElem?_set_self (by simpa using ls)]
theorem trip_of {d : D} {t : List Key × Int} (h : trip d = some t) : ∃ A B S : Int, d = .tup [.int A, .int B, .int S] ∧ t = ([.inl A, .inl B], S) := by
  unfold trip at h
  split at h
  · cases h; exact ⟨_, _, _, rfl, rfl⟩
  · cases h
theorem cs_group {i a b s tk : Nat} {im : IM} {posE pq : Pos} (hu : X.A.units + 1 < cLine) (hp : PassesOwn (model X.prog X.w) X.A X.env X.xe) (hc : X.calm = true) (hi : CI X P0 O W E tg iter im) (hg : CG X P0 O W tg (tmTup [a, b, s]) [a, b, s])
    (hx : X.N[i]? = some x) (hvx : Vis X.env.scope x) (ha : X.N[a]? = some ya) (hva : Vis X.env.scope ya) (hb : X.N[b]? = some yb) (hvb : Vis X.env.scope yb) (hs' : X.N[s]? = some ys) (hvs : Vis X.env.scope ys)
    (hd : (x == ("__debug__" : Str)) = false) (hcd : (x == ("__classdict__" : Str)) = false) (hda : (ya == ("__debug__" : Str)) = false) (hcda : (ya == ("__classdict__" : Str)) = false) (hdb : (yb == ("__debug__" : Str)) = false) (hcdb : (yb == ("__classdict__" : Str)) = false) (hds : (ys == ("__debug__" : Str)) = false) (hcds : (ys == ("__classdict__" : Str)) = false)
    (hiO : i ∈ O := by decide) (hiU : i ∉ U := by decide) (ho : ∀ j ∈ [a, b, s], j ∉ O := by decide) (hu' : ∀ j ∈ U, j ∈ O := by decide) (hnd : [a, b, s].Nodup := by decide)
    (hs : ∀ z, foldedSetIterable iter X.env z = pure z := by intro _; rfl)
    (m : M2 X (.Name x p1) "setdefault" ap (.Tuple [.Name ya p2, .Name yb p3] tk p4) (.List [] p5) cp := by exact ⟨rfl, rfl, rfl, rfl⟩)
    (he : starEach [.Name ys pq] X.env = (false, eval (.Name ys pq) X.env) :: starEach [] X.env := by rfl) (hpl : (backTo cp2 (starEach [] X.env)).any (·.1) = false := by rfl)
    (hbase : attributeBase (.Call (.Attribute (.Name x p1) "setdefault" ap) [.Tuple [.Name ya p2, .Name yb p3] tk p4, .List [] p5] [] cp) "append" X.env (eval (.Call (.Attribute (.Name x p1) "setdefault" ap) [.Tuple [.Name ya p2, .Name yb p3] tk p4, .List [] p5] [] cp) X.env) = eval (.Call (.Attribute (.Name x p1) "setdefault" ap) [.Tuple [.Name ya p2, .Name yb p3] tk p4, .List [] p5] [] cp) X.env := by rfl)
    (hline : (ap2.endLine == cp2.line) = true := by rfl) (hfew : Few X cp2 [.Name ys pq] := by rfl)
    (he1 : starEach [.Name ya p2, .Name yb p3] X.env = (false, eval (.Name ya p2) X.env) :: starEach [.Name yb p3] X.env := by rfl) (he2 : starEach [.Name yb p3] X.env = (false, eval (.Name yb p3) X.env) :: starEach [] X.env := by rfl)
    (hsw : swapsWith (.Call (.Attribute (.Call (.Attribute (.Name x p1) "setdefault" ap) [.Tuple [.Name ya p2, .Name yb p3] tk p4, .List [] p5] [] cp) "append" ap2) [.Name ys pq] [] cp2) none posE.line X.env = pure false := by rfl) :
    CS X P0 O W U E (.For tg iter [.Expr (.Call (.Attribute (.Call (.Attribute (.Name x p1) "setdefault" ap) [.Tuple [.Name ya p2, .Name yb p3] tk p4, .List [] p5] [] cp) "append" ap2) [.Name ys pq] [] cp2) posE] [] pos) (sGroup i im [a, b, s]) := by
  refine PS.imp (ps_for hp hc hi hg (pss_one (ps_expr (pe_bm PySem.F.plainAttrs_list PySem.F.slot_list_append PySem.F.type_list_append mt_append
    (pe_dsetdT hu (pe_var (i := i) hx hvx hd hcd) (pe_tup (pa_cons (pe_var (i := a) ha hva hda hcda) (pa_cons (pe_var (i := b) hb hvb hdb hcdb) pa_nil he2) he1)) (pe_lst pa_nil) m)
    (pa_cons (pe_var (i := s) hs' hvs hds hcds) pa_nil he) hbase hfew hline he hpl) hsw)) hs) fun D σ H ⟨ρ, S, h⟩ => ?_
  refine ⟨ρ, S, (h.of_bind.down S.sub).mono fun ⟨⟨ds, ws⟩, ρ1⟩ q J H1 Ok S1 k1 src ok hz => ?_⟩
  cases ws with
  | cons _ _ => exact q.elim
  | nil =>
  cases e1 : ρ1[i]? with
  | none => simp only [e1] at q; exact q.elim
  | some o1 =>
  by_cases eo : o1 = some (.dit [] [])
  case neg =>
    exfalso
    simp only [e1] at q
    cases o1 with
    | none => exact q
    | some d1 =>
      cases d1 with
      | dit ks vs =>
        cases ks with
        | nil =>
          cases vs with
          | nil => exact eo rfl
          | cons _ _ => exact q
        | cons _ _ => exact q
      | _ => exact q
  subst eo
  cases e2 : trips ds with
  | none => simp only [e1, e2] at q; exact q.elim
  | some ts =>
  simp only [e1, e2] at q
  by_cases c : ts.length < 1000000 ∧ ([a, b, s].all fun j => decide (j < ρ1.length)) = true
  case neg => rw [if_neg c] at q; exact q.elim
  rw [if_pos c] at q
  have lt : ∀ j ∈ [a, b, s], j < ρ1.length := fun j hj => of_decide_eq_true (List.all_eq_true.mp c.2 j hj)
  have tl := trips_len e2
  obtain ⟨v, hv, dd, vs, rfl, hvl, hdd, _⟩ := S1.own i _ e1 hiO
  have hdd : H1 dd = some (.dT []) := by rw [hdd]; rfl
  have ddA : OA O σ dd := ⟨i, hiO, hv⟩
  have q : ∀ σ' H', Sim X.K P0 O W (wipeE (ρ1.set i (some (dGrp (grp ts)))) [a, b, s]) σ' H' → Tr O U σ H σ' H' → σ'.length = σ.length → D.nx σ' H' := q
  let I : Nat → L2.St → Hp → Prop := fun t σx Hx => t ≤ ds.length ∧ (∀ j, j ∉ [a, b, s] → σx[j]? = σ[j]?) ∧ σx.length = σ.length ∧ (∀ b o, H1 b = some o → b ≠ dd → Hx b = some o) ∧
    ∃ bs, GOk H1 Hx (grp (ts.take t)) bs ∧ Hx dd = some (.dT (kvG (grp (ts.take t)) bs)) ∧ (grp (ts.take t)).length ≤ t ∧ ∀ p ∈ grp (ts.take t), p.2.length ≤ t
  refine ⟨fun t k σx Hx => k = ds.length - t ∧ I t σx Hx, ⟨ds.length, by simp, Nat.zero_le _, fun _ _ => rfl, rfl, fun _ _ e _ => e, [], rfl, hdd, Nat.le_refl _, fun p hp => by simp [grp] at hp⟩, ?_⟩
  rintro t k σx Hx ⟨rfl, htl, hσ, hl, kp, bs, gok, hdx, g1, g2⟩
  have Sx : Sim X.K P0 O W (wipeE (ρ1.set i none) [a, b, s]) σx Hx := S1.group hiO hv kp (by rw [hdx]; trivial) ho hσ hl none fun d e => by cases e
  have sO : ∀ j ∈ O, σx[j]? = σ[j]? := fun j hj => hσ j fun z => ho j z hj
  have okx := src.keep P0 ρ1 σ H1 (wipeE (ρ1.set i none) [a, b, s]) σx Hx S1 (fun b o e n => kp b o e fun z => n (by rw [z]; exact .inr ddA)) (fun b z => .inl (z.imp id (OA_of sO b).mp)) (fun w hw => nomatch hw) ok
  by_cases hlt : t < ds.length
  · right
    refine ⟨src.go P0 t _ σx Hx Sx okx hlt, I (t + 1), fun σ' H' p' => ⟨ds.length - (t + 1), by omega, rfl, p'⟩, fun x' H' y => ?_⟩
    have gd : ds[t]? = some ds[t] := List.getElem?_eq_getElem hlt
    obtain ⟨sm, rx⟩ := src.yld P0 t _ σx Hx x' H' ds[t] Sx okx gd y
    obtain ⟨tt, et, etr⟩ := trips_get e2 gd
    obtain ⟨A, B, Sg, ed, ett⟩ := trip_of etr
    rw [ed] at rx
    subst ett
    have lρ : (wipeE (ρ1.set i none) [a, b, s]).length = ρ1.length := by rw [wipeE_length, List.length_set]
    refine ⟨wipeE (ρ1.set i none) [a, b, s], .tup [.int A, .int B, .int Sg], setAll (wipeE (ρ1.set i none) [a, b, s]) [a, b, s] [.int A, .int B, .int Sg], Sx.same sm, rx, rfl, fun σ2 S2 l2 ag => ?_⟩
    obtain ⟨ga, gb, gs⟩ := set3 (x := .int A) (y := .int B) (z := .int Sg) hnd (by rw [lρ]; exact lt a (by simp)) (by rw [lρ]; exact lt b (by simp)) (by rw [lρ]; exact lt s (by simp))
    obtain ⟨va, ea, ra⟩ := S2.val a _ ga (ho a (by simp))
    obtain ⟨vb, eb, rb⟩ := S2.val b _ gb (ho b (by simp))
    obtain ⟨vs, es, rs⟩ := S2.val s _ gs (ho s (by simp))
    unfold Rep at ra rb rs
    subst ra rb rs
    have ni : i ∉ [a, b, s] := fun z => ho i z hiO
    have hv2 : σ2[i]? = some (some (.ref dd)) := by rw [ag i ni, hσ i ni]; exact hv
    have hd' : H' dd = some (.dT (kvG (grp (ts.take t)) bs)) := sm dd _ hdx
    have gl := gok.len
    have gm := gok.mem
    refine ⟨.ref dd, hv2, dd, rfl, .inr ⟨_, .inl hd'⟩, .int A, ea, .int B, eb, by show 2 ≤ sizeLine; decide, fun q1 hq1 => ⟨by show 0 ≤ sizeLine; decide, fun q2 hq2 => ?_⟩⟩
    have n1 : dd ≠ q1 := ne_of_none hd' hq1
    have hq2' : H' q2 = none := by
      by_cases z : q2 = q1
      · rw [z]; exact hq1
      · rwa [upd_ne z] at hq2
    have n2 : dd ≠ q2 := ne_of_none hd' hq2'
    have n12 : q1 ≠ q2 := fun z => by rw [← z, upd_same] at hq2; cases hq2
    have old : ∀ c o, H' c = some o → upd (upd H' q1 (.tup [.int A, .int B])) q2 (.lst []) c = some o := fun c o e => by
      rw [upd_ne (ne_of_none e hq2'), upd_ne (ne_of_none e hq1)]; exact e
    have sz : sizeLine = 16777216 := by decide
    have hH1 : ∀ c, H1 c ≠ none → c ≠ dd → H' c ≠ none := fun c hc nc => by
      cases z : H1 c with
      | none => exact absurd z hc
      | some o => rw [sm c o (kp c o z nc)]; intro y; cases y
    have hq1n : H1 q1 = none := Classical.byContradiction fun z => hH1 q1 z (Ne.symm n1) hq1
    have hq2n : H1 q2 = none := Classical.byContradiction fun z => hH1 q2 z (Ne.symm n2) hq2'
    have bdd : ∀ c ∈ bs, c ≠ dd := fun c hc z => by
      have := (gm c hc).1
      rw [z, hdd] at this
      cases this
    have ts1 : ts[t]? = some ([.inl A, .inl B], Sg) := et
    have snoc := grp_snoc ts1
    have kpH : ∀ (Hn : Hp), (∀ c o, H' c = some o → H1 c ≠ none → c ≠ dd → Hn c = some o) → ∀ c o, H1 c = some o → c ≠ dd → Hn c = some o := fun Hn hk c o e nc => hk c o (sm c o (kp c o e nc)) (by rw [e]; intro z; cases z) nc
    refine ⟨kvG (grp (ts.take t)) bs, [.inl A, .inl B], q1, old dd _ hd', rfl, by rw [upd_ne n12, upd_same]; rfl, by rw [gl.1, sz]; omega, fun w hw => ?_, fun hn => ?_⟩
    · obtain ⟨b0, l0, rfl, b1, b2, ⟨k0, hk0⟩, _, _⟩ := gok.get (s := Sg) hw
      have gokP : GOk H1 (upd (upd H' q1 (.tup [.int A, .int B])) q2 (.lst [])) (grp (ts.take t)) bs := gok.keep fun c hc => by
        obtain ⟨_, l, e⟩ := gm c hc
        rw [e]; exact old c _ (sm c _ e)
      obtain ⟨b0', l0', eb0, b1', b2', ⟨k0', hk0'⟩, g3, g4⟩ := gokP.get (s := Sg) hw
      cases eb0
      have ll := g2 _ hk0'
      refine ⟨.inl ⟨rfl, _, SqL.of b2'⟩, .int Sg, es, b0, _, .int Sg, rfl, rfl, b2', by rw [List.length_map, sz]; have := ll; simp only at this; omega, ?_⟩
      refine ⟨by omega, fun j hj => by rw [ag j hj, hσ j hj], by rw [l2, hl], kpH _ fun c o e hc nc => ?_, bs, by rw [snoc]; exact g3, ?_, ?_, ?_⟩
      · rw [upd_ne fun z => hc (by rw [z]; exact (gm b0 b1).1)]
        exact old c o e
      · rw [snoc, g4, upd_ne (Ne.symm (bdd b0 b1))]
        exact old dd _ hd'
      · rw [snoc]; exact Nat.le_trans gAdd_len (by omega)
      · rw [snoc]; exact gAdd_le g2
    · have e4 : upd (upd (upd H' q1 (.tup [.int A, .int B])) q2 (.lst [])) dd (.dT (putK (kvG (grp (ts.take t)) bs) [.inl A, .inl B] (.ref q2))) q2 = some (.lst []) := by rw [upd_ne (Ne.symm n2), upd_same]
      refine ⟨.inl ⟨rfl, _, SqL.of e4⟩, .int Sg, es, q2, [], .int Sg, rfl, rfl, e4, by show 0 < sizeLine; decide, ?_⟩
      have gokP : GOk H1 (upd (upd (upd (upd H' q1 (.tup [.int A, .int B])) q2 (.lst [])) dd (.dT (putK (kvG (grp (ts.take t)) bs) [.inl A, .inl B] (.ref q2)))) q2 (.lst ([] ++ [.int Sg]))) (grp (ts.take t)) bs := gok.keep fun c hc => by
        obtain ⟨_, l, e⟩ := gm c hc
        rw [e, upd_ne (ne_of_none (sm c _ e) hq2'), upd_ne (bdd c hc)]
        exact old c _ (sm c _ e)
      have nq : q2 ∉ bs := fun z => by
        obtain ⟨_, l, e⟩ := gm q2 z
        rw [sm q2 _ e] at hq2'
        cases hq2'
      obtain ⟨g3, g4⟩ := GOk.snoc (k := [.inl A, .inl B]) (s := Sg) hq2n (by rw [upd_same]; rfl) gokP nq hn
      refine ⟨by omega, fun j hj => by rw [ag j hj, hσ j hj], by rw [l2, hl], kpH _ fun c o e hc nc => ?_, bs ++ [q2], by rw [snoc]; exact g3, ?_, ?_, ?_⟩
      · rw [upd_ne (ne_of_none e hq2'), upd_ne nc]
        exact old c o e
      · rw [snoc, g4, upd_ne n2, upd_same]
      · rw [snoc]; exact Nat.le_trans gAdd_len (by omega)
      · rw [snoc]; exact gAdd_le g2
  · left
    have et : t = ds.length := by omega
    have tk' : ts.take t = ts := List.take_of_length_le (by omega)
    rw [tk'] at gok hdx
    refine ⟨by rw [et]; exact src.stop P0 _ σx Hx Sx (by rw [et] at *; exact okx), ?_⟩
    have Sf : Sim X.K P0 O W (wipeE (ρ1.set i (some (dGrp (grp ts)))) [a, b, s]) σx Hx := S1.group hiO hv kp (by rw [hdx]; trivial) ho hσ hl _ fun d e => by
      cases e
      have gl := gok.len
      refine ⟨dd, bs.map V.ref, rfl, by rw [List.length_map, List.length_map, gl.2], by rw [hdx, kvG_zip gl.2], gok.reps fun b z => ?_⟩
      have := S1.dom b z
      intro y
      rw [y] at this
      exact this
    refine q σx Hx Sf ((Tr.of S.sub k1).trans ⟨fun b o e n => kp b o e fun z => n (by rw [z]; exact ddA), fun b e => ?_, fun b z => .inl ((OA_of sO b).mp z), fun j hj => sO j (hu' j hj)⟩) hl
    by_cases z : b = dd
    · rw [z, hdx]; intro y; cases y
    · cases w : H1 b with
      | none => exact absurd w e
      | some o => rw [kp b o w z]; intro y; cases y
end
@[simp] theorem e_group {i : Nat} {im : IM} {sl : List Nat} {ρ : Y.Env} : sGroup i im sl ρ = (im ρ >>= fun p => match p.1.2, p.2[i]?, trips p.1.1 with | [], some (some (.dit [] [])), some ts => if ts.length < 1000000 ∧ (sl.all fun j => decide (j < p.2.length)) = true then R.ok (.nx, wipeE (p.2.set i (some (dGrp (grp ts)))) sl) else .stk | _, _, _ => .stk) := id rfl
end Y

set_option Elab.async false
set_option linter.all false
set_option maxRecDepth 100000
namespace Y
open PySem PySem.Spec PyProof.Rows L2
/-! ### while a refusal is handled: a list's end, a comprehension of ints, sum -/
section
variable {prog : Program} {w : World} {A : Around} {E : Value → Shared → Prop} {s : Shared}
theorem list_done_hot {it l x1 : Addr} {i : Nat} {items : Array Value} {Q : Option Value → Shared → Prop} (hot : HotX.HotAt A x1 s.heap) (ne : x1 ≠ it) (hi : s.heap.IsListIter it l i) (hl : s.heap.IsList l items) (hx : items[i]? = none)
    (q : ∀ h', (∀ b o, b ≠ it → s.heap.get? b = some o → h'.get? b = some o) → Q none { s with heap := h' }) : wpAny (model prog w) A (pyNext (.ref it)) Q E s := by
  obtain ⟨hh, oe, ve, ge, de, ce⟩ := hot
  obtain ⟨oi, gi, ci, di⟩ := id hi
  obtain ⟨ol, gl, _, n, dl⟩ := hl
  unfold pyNext
  refine wpAny_bind (wpAny_attempt (wpAny_callSpecial?_slot (name := Str.ofString "__next__") hi.typeIs slot_listiter_next (wpAny_call_entry slot_listiter_next hi.typeIs entry_listiter_next ?_ (args_listiter_next _))))
  show wpAny _ _ (field (.ref it) 0 >>= _) _ _ s
  refine wpAny_bind (wpAny_field gi di (x := .ref l) rfl ?_)
  show wpAny _ _ (if (Value.ref l == Value.none) = true then _ else _) _ _ s
  rw [if_neg (show ¬ ((Value.ref l == Value.none) = true) from Bool.false_ne_true)]
  show wpAny _ _ (field (.ref it) 1 >>= _) _ _ s
  refine wpAny_bind (wpAny_field gi di (x := .int i 0) rfl ?_)
  show wpAny _ _ (seqItems? (.ref l) >>= _) _ _ s
  refine wpAny_bind (wpAny_seqItems gl dl ?_)
  simp only [Int.toNat_natCast, hx]
  refine wpAny_bind (wpAny_rule (wpAny_bind (wpAny_setField gi di (by simp) ?_)))
  show wpAny _ _ (newExc (.type "StopIteration") [] >>= _) _ _ _
  refine wpAny_bind ?_
  simp only [newExc, newTuple]
  refine wpAny_bind (wpAny_newObj_type ?_ (by size_fits))
  refine wpAny_bind (m := firstArgMember _ _) (wpAny_of_eq (a := Value.none) (by first | rfl | (simp only [firstArgMember]; rfl)) ?_)
  refine wpAny_newObj_type ?_ (by size_fits)
  have gx := (Heap.get?_update_other s.heap (Obj.mapFields fun x => x.setIfInBounds 0 Value.none) (fun z : it = x1 => ne z.symm)).trans ge
  refine HotX.raiseNew_hot ⟨hh, oe, ve, Heap.get?_push_of_some _ (Heap.get?_push_of_some _ gx), de, ce⟩ (Nat.ne_of_lt (Heap.lt_size (Heap.get?_push_of_some _ gx))) (Heap.get?_push_size _ rfl) rfl (by first | (simp; done) | (simp; omega) | (simp only [Array.size_append]; simp; omega)) ?_
  refine wpAny_bind (wpAny_isInstance (T := "StopIteration") (b := true) ⟨_, Heap.get?_update_self _ (Heap.get?_push_size _ rfl) rfl, rfl⟩ isSubtype_stop ?_)
  refine wpAny_pure (q _ fun b o nb e => ?_)
  have e1 := (Heap.get?_update_other s.heap (Obj.mapFields fun x => x.setIfInBounds 0 Value.none) (fun z : it = b => nb z.symm)).trans e
  rw [Heap.get?_update_other _ _ (Nat.ne_of_gt (Heap.lt_size (Heap.get?_push_of_some _ e1)))]
  exact Heap.get?_push_of_some _ (Heap.get?_push_of_some _ e1)
theorem walks_hot {x1 I ax : Addr} (hh : A.handled = some (.ref x1)) (n1 : ax ≠ I) (n2 : x1 ≠ I) (items : Array Value) :
    Walks prog w A I [I, ax, x1] [I] items.size (fun i v => items[i]? = some v) (fun i h => h.IsListIter I ax i ∧ h.IsList ax items ∧ ∃ (o : Obj) (vs : Array Value), h.get? x1 = some o ∧ o.data = .fields vs ∧ vs[2]? = some .none) where
  sub := fun b hb => by
    have e : b = I := by simpa using hb
    rw [e]; exact List.mem_cons_self
  frame := fun _ _ _ ⟨a, b, o, vs, g, d, c⟩ hk => ⟨a.at fun o e => hk I (by simp) o e, b.at fun o e => hk ax (by simp) o e, o, vs, hk x1 (by simp) o g, d, c⟩
  item := fun i s Q E hi ⟨a, b, o, vs, g, d, c⟩ q => by
    refine wpAny_pyNext_list_item a b (x := items[i]) (by simp [hi]) fun h' a' sb => ?_
    exact q _ h' s.toks (by simp [hi]) ⟨a', b.extBut sb.extBut n1, o, vs, sb.extBut x1 o n2 g, d, c⟩ fun b o hb e => sb.extBut b o (fun h => hb (by simp [h])) e
  done := fun s Q E ⟨a, b, o, vs, g, d, c⟩ q => list_done_hot ⟨hh, o, vs, g, d, c⟩ n2 a b (by simp) fun h' k => q h' s.toks fun b o hb e => k b o (fun h => hb (by simp [h])) e
  self := fun _ _ _ _ st q => wpAny_pyIter_listiter st.1 q
theorem sum_hotR {x1 l : Addr} {vs : List Value} {ns : List Int} {Q : Value → Shared → Prop} (hot : HotX.HotAt A x1 s.heap) (hl : s.heap.IsList l vs.toArray) (hi : IntsAre vs ns)
    (q : ∀ h' tk t', (∀ b o, s.heap.get? b = some o → h'.get? b = some o) → Q (.int ns.sum t') { s with heap := h', toks := tk }) : wpAny (model prog w) A (call (.builtin "sum") [.ref l]) Q E s := by
  obtain ⟨hh, oe, ve, ge, de, ce⟩ := hot
  obtain ⟨xs, hx⟩ := hi.allInts.items
  have hn : numsOf vs.toArray.toList = ns := by rw [show vs.toArray.toList = vs from rfl, hi.numsOf]
  rw [hx] at hl hn
  rw [nums_intItems] at hn
  obtain ⟨ol, gl, cl, n, dl⟩ := id hl
  have n1 : l ≠ s.heap.objs.size := Nat.ne_of_lt (Heap.lt_size gl)
  have n2 : x1 ≠ s.heap.objs.size := Nat.ne_of_lt (Heap.lt_size ge)
  have hz : (intItems xs).size = xs.size := by simp [intItems]
  have W := (walks_hot (prog := prog) (w := w) (A := A.in1) (I := s.heap.objs.size) hh n1 n2 (intItems xs)).toS
  rw [hz] at W
  refine call_sum_walkAnyS (wpAny_pyIter_list hl ⟨s.heap.objs.size, _, _, _, _, _, _, numAt xs, rfl, W, ⟨⟨_, Heap.get?_push_size _ rfl, rfl, rfl⟩, hl.at fun o e => Heap.get?_push_of_some _ e, oe, ve, Heap.get?_push_of_some _ ge, de, ce⟩, fun b hb => ?_, fun i v hP => intItems_at hP, fun s' t' hm => ?_⟩)
  · rcases List.mem_cons.mp hb with rfl | hb
    · exact Heap.lt_size (Heap.get?_push_size _ rfl)
    · rcases List.mem_cons.mp hb with rfl | hb
      · exact Heap.lt_size (Heap.get?_push_of_some _ gl)
      · obtain rfl := List.mem_singleton.mp hb
        exact Heap.lt_size (Heap.get?_push_of_some _ ge)
  · obtain ⟨h', g', d', tk', os'⟩ := s'
    have e1 : g' = s.gens := hm.gens
    have e2 : d' = s.drawn := hm.drawn
    have e3 : os' = s.os := hm.os
    subst e1 e2 e3
    have z := q h' tk' t' fun b o e => hm.heap b o (fun hb => absurd (Heap.lt_size e) ((List.mem_singleton.mp hb) ▸ Nat.lt_irrefl _)) (Heap.get?_push_of_some _ e)
    rw [← hn] at z
    rw [preSum_eq, List.take_of_length_le (by simp)]
    exact z
end
section
variable {X : Cx}
theorem cd_sumH (hot : L2H.HotC X) : CallR X (.builtin "sum") (rDs X.K sumD) := by
  intro pins s σ H xs us Q I r ⟨P, ds, dz, hm, rs, e, out⟩
  obtain ⟨x1, h1⟩ := hot.at I
  unfold sumD at e
  split at e
  · split at e
    · rename_i ns c; cases e
      obtain ⟨v, rfl, r1⟩ := rs.get1
      obtain ⟨a, vs, rfl, g1, g2⟩ := r1.lst
      obtain rfl := ints_rep c g2
      obtain ⟨its, rv, hl, _⟩ := I.list (SqL.of g1)
      rw [Vals.ref1 r]
      exact sum_hotR h1 hl.isList rv.ints fun h' tk t' hk => ⟨.int _, H, I.kept hk, ⟨_, rfl⟩, out.int⟩
    · cases e
  · cases e
end
end Y

set_option Elab.async false
set_option linter.all false
set_option maxRecDepth 100000
namespace Y
open PySem PySem.Spec PyProof.Rows L2
/-! ### [int(x) for x in xs] while a refusal is handled, xs a list of truths -/
def i01 (b : Bool) : V := .int (if b then 1 else 0)
theorem SqL.laid {K : PySem.W.Frag} {H : Hp} {a D : Addr} {xs : List V} {o : HO} (h : SqL K H a xs) (n : H D = none) : SqL K (upd H D o) a xs := by
  rcases h with h | h
  · refine .inl (h.imp (fun e => ?_) fun ⟨o, e⟩ => ⟨o, ?_⟩)
    · rw [upd_ne (ne_of_none e n)]; exact e
    · rw [upd_ne (ne_of_none e n)]; exact e
  · exact .inr h
def tIntsH (K : PySem.W.Frag) (i : Nat) : TE := fun σ H Q => ∃ (a : Addr) (bs : List Bool), σ[i]? = some (some (.ref a)) ∧ SqL K H a (bs.map V.bl) ∧ ∀ D, H D = none → Q (.ref D) (upd H D (.lst (bs.map i01)))
section
variable {X : Cx} {i j : Nat}
theorem pe_intsH {elt tgt : Expr} {x y : Str} {scope : Scope} {pos p : Pos} (hot : L2H.HotC X) (hN : X.N.Nodup) (ok : BlkOk X.N X.env.scope scope [(x, j)])
    (hi : X.N[i]? = some y) (hv : Vis X.env.scope y)
    (hg : ∀ (s : Shared) (H : Hp) (C : Addr) (cl : List (Str × Addr)) (fp : List Addr), PG (X.blk s H scope (compEnvC scope cl C X.env) fp) tgt (gName j))
    (he : ∀ (s : Shared) (H : Hp) (C : Addr) (cl : List (Str × Addr)) (fp : List Addr), PE (X.blk s H scope (compEnvC scope cl C X.env) fp) elt (tCB (fun xs H Q => (∃ i, xs = [.int i] ∧ Q (.int i) H) ∨ ∃ k, xs = [.bl k] ∧ Q (i01 k) H) (tCons (tVar j) tNil)))
    (hs : ∀ v, foldedSetIterable (.Name y p) X.env v = pure v := by intro _; rfl) (hd : (y == ("__debug__" : Str)) = false := by decide) (hcd : (y == ("__classdict__" : Str)) = false := by decide) :
    PE X (.ListComp elt [⟨tgt, .Name y p, [], 0⟩] scope pos) (tIntsH X.K i) := by
  refine ⟨fun pins s σ H Q I h => ?_⟩
  obtain ⟨a, bs, ea, hq, q⟩ := h
  rw [eval_ListComp]
  have hfree : ∀ n ∈ scope.names, n.2 = .free → ∃ c, X.env.cells.lookup n.1 = some c := fun n hn e => (ok.free n hn e).elim (fun k => I.ok.has _ (.inl k)) fun k => I.ok.has _ (.inr k)
  refine wpAny_comprehension_free (use := none) rfl hs (closure_ok hfree) ok.kind (fun n hn e => by rw [ok.uniq n hn, e]) (thn ((pe_var (i := i) hi hv hd hcd).run pins s σ H (fun v H1 => v = .ref a ∧ H1 = H) I ⟨_, ea, rfl, rfl⟩) fun xv s1 ⟨v, H1, I1, r1, ev, eH⟩ => ?_)
  subst ev eH
  cases r1
  obtain ⟨its, rv, pl, hz⟩ := I1.list hq
  refine wpAny_pyIter_list pl.isList ?_
  generalize e2 : ({ s1 with heap := s1.heap.push { cls := .type "list_iterator", data := .fields #[.ref a, .int 0 0] } } : Shared) = s2
  have I2 : Inv X pins σ H1 s2 := by rw [← e2]; exact I1.kept (t' := s1.toks) fun b o e => Heap.get?_push_of_some _ e
  have it2 : s2.heap.IsListIter s1.heap.objs.size a 0 := by rw [← e2]; exact ⟨_, Heap.get?_push_size _ rfl, rfl, rfl⟩
  have fit : FpOk X pins H1 s1.heap.objs.size := I1.fpOk (Nat.le_refl _) (I1.hok.fresh (Nat.le_refl _))
  have nit : ∀ q ∈ X.pn, q.1 ≠ s1.heap.objs.size := fun q hq => fit.2.2.2.2.2 q (List.mem_append_left _ hq)
  generalize hit : s1.heap.objs.size = it at fit it2 nit ⊢
  refine wpAny_newObj_type (newEnv_comp ?_) (by show 0 ≤ sizeLine; decide)
  generalize hD : s2.heap.objs.size = D
  have nD : H1 D = none := I2.hok.fresh (Nat.le_of_eq hD)
  have lit : it < s2.heap.objs.size := by obtain ⟨o, e, _⟩ := it2; exact Heap.lt_size e
  have itD : it ≠ D := by rw [← hD]; exact Nat.ne_of_lt lit
  generalize e3 : ({ s2 with heap := s2.heap.push { cls := .type "list", data := .seq ([] : List Value).toArray } } : Shared) = s3
  have I3 : Inv X pins σ (upd H1 D (.lst [])) s3 := by
    rw [← e3]
    refine I2.laid (t' := s2.toks) (fun b o e => Heap.get?_push_of_some _ e) (Nat.le_of_eq hD) ⟨Nat.zero_le _, [], 0, .nil, ?_⟩
    rw [← hD]
    exact Heap.get?_push_size _ rfl
  have it3 : s3.heap.IsListIter it a 0 := by rw [← e3]; exact it2.at fun o e => Heap.get?_push_of_some _ e
  have l3 : it < s3.heap.objs.size := by obtain ⟨o, e, _⟩ := it3; exact Heap.lt_size e
  have f3 : ∀ b ∈ [it], FpOk X pins (upd H1 D (.lst [])) b ∧ b < s3.heap.objs.size := fun b hb => by
    obtain rfl := List.mem_singleton.mp hb
    exact ⟨⟨by rw [upd_ne itD]; exact fit.1, fit.2⟩, l3⟩
  have I4 := block_start I3 ok hN f3
  have pg := hg s3 (upd H1 D (.lst [])) s3.heap.objs.size (cellsFrom (s3.heap.objs.size + 1) scope.names (cloFrom X.env.cells scope.names [])) [it]
  have pe := he s3 (upd H1 D (.lst [])) s3.heap.objs.size (cellsFrom (s3.heap.objs.size + 1) scope.names (cloFrom X.env.cells scope.names [])) [it]
  show codeAny _ _ (.compStart (.ListComp elt [⟨tgt, .Name y p, [], 0⟩] scope pos) 0 (.ref it) (.ref D) (compEnvC scope (cellsFrom (s3.heap.objs.size + 1) scope.names (cloFrom X.env.cells scope.names [])) s3.heap.objs.size X.env)) (compPost (model X.prog X.w) X.A X.xe none _ (.ref D) s3.heap.objs.size) { s3 with heap := pushCells (s3.heap.push { cls := .type "dict", data := .dict #[] }) scope.names }
  generalize ec : compEnvC scope (cellsFrom (s3.heap.objs.size + 1) scope.names (cloFrom X.env.cells scope.names [])) s3.heap.objs.size X.env = ce at I4 pg pe ⊢
  have cL : ce.locals = s3.heap.objs.size := by subst ec; rfl
  have ex : ∀ (s' : Shared) (H' : Hp), Inv (X.blk s3 (upd H1 D (.lst [])) scope ce [it]) [] (wipe σ [j]) H' s' → Inv X pins σ H' s' := fun s' H' J =>
    I3.call' (ch := [it]) J.os J.base J.hok J.bare fun b hb => ⟨(f3 b hb).1.2.2.2.1, (f3 b hb).1.2.1, (f3 b hb).1.2.2.2.2.1, (f3 b hb).1.2.2.2.2.2⟩
  generalize e4 : ({ s3 with heap := pushCells (s3.heap.push { cls := .type "dict", data := .dict #[] }) scope.names } : Shared) = s4 at I4 ⊢
  have it4 : s4.heap.IsListIter it a 0 := by rw [← e4]; exact it3.at fun o e => pushCells_keeps _ _ _ _ (Heap.get?_push_of_some _ e)
  have uD : ∀ (k : Nat), (upd H1 D (.lst ((bs.map i01).take k))) it = none := fun k => by rw [upd_ne itD]; exact fit.1
  have fpo : ∀ {σ' : St} {s' : Shared} {k : Nat}, Inv (X.blk s3 (upd H1 D (.lst [])) scope ce [it]) [] σ' (upd H1 D (.lst ((bs.map i01).take k))) s' → ∀ b ∈ [it], FpOk (X.blk s3 (upd H1 D (.lst [])) scope ce [it]) [] (upd H1 D (.lst ((bs.map i01).take k))) b := fun {σ' s' k} J b hb => by
    obtain rfl := List.mem_singleton.mp hb
    exact ⟨uD k, (J.ok.exf b List.mem_cons_self).1, J.ok.exfs b List.mem_cons_self, .inl List.mem_cons_self, fun x c e => (J.ok.exf b List.mem_cons_self).2 x c e, fun q hq => nomatch (show q ∈ ([] : List (Addr × Obj)) from hq)⟩
  have loop : codeAny (model X.prog X.w) X.A (.compLoop (.ListComp elt [⟨tgt, .Name y p, [], 0⟩] scope pos) 0 (.ref it) (.ref D) ce) (compPost (model X.prog X.w) X.A X.xe none (fun u s' => ∃ v H', Inv X pins σ H' s' ∧ RelV v u ∧ Q v H') (.ref D) s3.heap.objs.size) s4 := by
    refine compLoop_any (fun n s' => ∃ k, n = bs.length - k ∧ k ≤ bs.length ∧ Inv (X.blk s3 (upd H1 D (.lst [])) scope ce [it]) [] (wipe σ [j]) (upd H1 D (.lst ((bs.map i01).take k))) s' ∧ s'.heap.IsListIter it a k) ?_ bs.length ⟨0, rfl, Nat.zero_le _, by simpa using I4, it4⟩
    rintro n s5 ⟨k, rfl, hk, I5, it5⟩
    have J5 := ex _ _ I5
    obtain ⟨its5, rv5, pl5, _⟩ := J5.list (SqL.laid (o := .lst ((bs.map i01).take k)) hq nD)
    have len5 := rv5.length
    rw [List.length_map] at len5
    obtain ⟨f0, f1, f2, f4, f5, f6⟩ := fpo I5 it List.mem_cons_self
    by_cases hlt : k < bs.length
    · have hx : (bs.map V.bl)[k]? = some (.bl bs[k]) := by rw [List.getElem?_map, List.getElem?_eq_getElem hlt]; rfl
      obtain ⟨u, hu, ru⟩ := rv5.get hx
      refine wpAny_pyNext_list_item it5 pl5.isList (x := u) (by simpa using hu) fun h' it6 sb => ?_
      have I6 : Inv (X.blk s3 (upd H1 D (.lst [])) scope ce [it]) [] (wipe σ [j]) (upd H1 D (.lst ((bs.map i01).take k))) { s5 with heap := h' } := I5.turned (t' := s5.toks) (fun b o hb e => (sb.2 b hb).trans e) f0 f1 f4 f5 f6
      obtain ⟨o6, g6, c6, d6⟩ := id it6
      have I6p := I6.pinned (fp := [it]) (fpo I6) fun b hb => by
        obtain rfl := List.mem_singleton.mp hb
        exact ⟨o6, g6, fun v z => by rw [d6] at z; cases z⟩
      refine go_of (s := { s5 with heap := h' }) g6 c6 d6 (by decide) ?_
      refine thnF (pg.run _ _ _ _ (.bl bs[k]) u (fun σ2 H2 => σ2 = (wipe σ [j]).set j (some (.bl bs[k])) ∧ H2 = upd H1 D (.lst ((bs.map i01).take k))) I6p ru ⟨rfl, rfl⟩) fun _ s8 ⟨σ8, H8, I8, es, eH⟩ => ?_
      subst es eH
      refine wpAny_tests_nil ?_
      simp only [if_true]
      have jl : j < (wipe σ [j]).length := by
        have e := ok.ix (x, j) List.mem_cons_self
        rw [wipe_length, I.len]
        exact (List.getElem?_eq_some_iff.mp e).1
      refine thnF (pe.run _ s8 _ _ (fun v H2 => v = i01 bs[k] ∧ H2 = upd H1 D (.lst ((bs.map i01).take k))) I8 ⟨_, List.getElem?_set_self jl, .inr ⟨_, rfl, rfl, rfl⟩⟩) fun z s10 ⟨v, H10, I10, r10, ev, eH⟩ => ?_
      subst ev eH
      have e7 : (bs.map i01).take k ++ [i01 bs[k]] = (bs.map i01).take (k + 1) := by
        rw [List.take_add_one, List.getElem?_map, List.getElem?_eq_getElem hlt]; rfl
      refine app_ok (X := X.blk s3 (upd H1 D (.lst [])) scope ce [it]) I10 upd_same (by rw [List.length_take, List.length_map]; rw [List.length_map] at hz; omega) r10 fun s11 I11 => ?_
      rw [e7, show upd (upd H1 D (.lst ((bs.map i01).take k))) D (.lst ((bs.map i01).take (k + 1))) = upd H1 D (.lst ((bs.map i01).take (k + 1))) from by funext b; unfold upd; split <;> rfl] at I11
      have st11 := I11.pin (it, o6) (List.mem_append_right _ (List.mem_append_right _ (mem_pinsAt List.mem_cons_self g6)))
      refine ⟨bs.length - (k + 1), by omega, k + 1, rfl, hlt, (I11.unpinned (pins := [])).weak (by simp) fun m v e => ?_, ⟨o6, st11.1, c6, d6⟩⟩
      rw [List.getElem?_set_ne fun z : j = m => (wipe_some e).2 (by rw [z]; exact List.mem_cons_self)]
      exact e
    · have ek : k = bs.length := by omega
      obtain ⟨pp, ⟨hh, v1, d1, c1⟩, hp⟩ := hot
      refine list_done_hot (x1 := pp.1) ⟨hh, pp.2, v1, (J5.pin pp (List.mem_append_left _ hp)).1, d1, c1⟩ (nit pp hp) it5 pl5.isList (by simp; omega) fun h' kp => ?_
      have I6 : Inv (X.blk s3 (upd H1 D (.lst [])) scope ce [it]) [] (wipe σ [j]) (upd H1 D (.lst ((bs.map i01).take k))) { s5 with heap := h' } := I5.turned (t' := s5.toks) kp f0 f1 f4 f5 f6
      have J6 := ex _ _ I6
      obtain ⟨m, hn, _⟩ := I6.loc
      have hn : h'.Ns ce.locals m := hn
      rw [cL] at hn
      have nC : (upd H1 D (.lst ((bs.map i01).take k))) s3.heap.objs.size = none := by
        have z : (upd H1 D (.lst ((bs.map i01).take k))) ce.locals = none := I6.free
        rw [cL] at z
        exact z
      have fC := I3.fpOk (Nat.le_refl _) nC
      rw [ek, List.take_of_length_le (by simp)] at J6 fC
      exact ⟨m, hn, fun h2 sb => ⟨.ref D, _, J6.turned (t' := s5.toks) (fun b o hb e => (sb.2 b hb).trans e) fC.1 fC.2.1 fC.2.2.2.1 fC.2.2.2.2.1 fC.2.2.2.2.2, rfl, q D nD⟩⟩
  exact codeAny_compStart_list loop (wpAny_pyIter_listiter it4 loop)
end
end Y

set_option Elab.async false
set_option linter.all false
set_option maxRecDepth 100000
namespace Y
open PySem PySem.Spec PyProof.Rows L2
/-! ### f(e) in a suite, e the refusal that it handles -/
/-- what f(e) tells of a refusal of the class C: the text y -/
structure FnZ (P : Program) (w : World) (K : PySem.W.Frag) (mg : Str → Option Value) (base : Heap) (k : Nat) (f : Addr) (fd : FuncData) (x : Str) (C : Addr) (y : Str) : Prop where
  run : ∀ (A : Around) (outer : List PySem.Env) (s : Shared) (H : Hp) (args : Args) (u : Value) (Q : VK) (E : XK) (p : Addr × Obj), L2H.RoomH k A → L2H.Hot1 A p → L2H.PinOk outer H s p → L2N.Zn (.ref C) none p.2 → Env0 P w K mg base A outer s H → BindsTo s fd args [(x, u)] → u = .ref p.1 →
    (∀ H', Same H H' → Q (.str y) H') → codeAny (model P w) A (.call (.ref f) args) (CR (L2N.CX P w) outer P w H s Q E) s
structure GloZ (P : Program) (w : World) (K : PySem.W.Frag) (mg : Str → Option Value) (base : Heap) (name : Str) (k : Nat) (x : Str) (cl : List Str) (kw : Str → Str) : Prop where
  ex : ∃ f fd, mg name = some (.ref f) ∧ PySem.W.keepIn K (.ref f) = true ∧ Binds K fd [x] [] ∧ ∀ cn ∈ cl, ∀ C, mg cn = some (.ref C) → FnZ P w K mg base k f fd x C (kw cn)
/-- isinstance(e, ValueError) -/
structure IsV (K : PySem.W.Frag) (mg : Str → Option Value) (es : List Str) : Prop where
  no : mg "ValueError" = none
  ex : ∀ c ∈ es, ∃ C, mg c = some (.ref C) ∧ PySem.W.kitOne K (.ref C) (.type "ValueError") = some true
theorem kit_ve {K : PySem.W.Frag} {C : Addr} (h : PySem.W.subIn K (.ref C) (.type "ValueError") = some true) : PySem.W.kitOne K (.ref C) (.type "ValueError") = some true := by
  unfold PySem.W.kitOne
  rw [if_neg (by simp)]
  show (if PySem.W.kitMeta "ValueError" = true then PySem.W.subIn K (.ref C) (.type "ValueError") else none) = some true
  rw [if_pos (by decide +kernel)]
  exact h
theorem _root_.L2H.RoomH.units65 {k : Nat} {A : Around} (r : L2H.RoomH k A) : A.units + 65 < cLine := by have := r.un; omega
theorem hot_of {A : Around} {a C : Addr} {oe : Obj} (hh : A.handled = some (.ref a)) (hz : L2N.Zn (.ref C) none oe) (hf : ∃ vs, oe.data = .fields vs) : L2H.Hot1 A (a, oe) := by
  obtain ⟨vs, d⟩ := hf
  exact ⟨hh, vs, d, hz.2.2 vs d⟩
section
variable {X : Cx} {P0 : Pr} {O W U : List Nat} {i : Nat} {ad : Addr} {a b c e : Expr} {es : List Expr} {ma mb mc : EM} {ms : AM} {bm bn : BM} {pos : Pos}
abbrev CZ (X : Cx) (P0 : Pr) (O W : List Nat) (i : Nat) (ad : Addr) (e : Expr) (m : EM) : Prop := PE X e (tZe X.K P0 O W i ad m)
abbrev CZs (X : Cx) (P0 : Pr) (O W : List Nat) (i : Nat) (ad : Addr) (es : List Expr) (m : AM) : Prop := PA X es (tZa X.K P0 O W i ad m)
def tZt (K : PySem.W.Frag) (P0 : Pr) (O W : List Nat) (i : Nat) (a : Addr) (m : BM) : TT := fun σ H Q => σ[i]? = some (some (.ref a)) ∧ tMt K P0 O W E00 m σ H Q
theorem zz_of (h : CEx X P0 O W E00 e ma) : CZ X P0 O W i ad e ma := PE.imp h fun _ _ _ q => q.2
theorem zs_nil : CZs X P0 O W i ad [] cNil := PA.imp ca_nil fun _ _ _ q => q.2
theorem zs_cons (h : CZ X P0 O W i ad e ma) (hs : CZs X P0 O W i ad es ms) (hst : starEach (e :: es) X.env = (false, eval e X.env) :: starEach es X.env := by rfl) : CZs X P0 O W i ad (e :: es) (cCons ma ms) := PA.imp (pa_cons h hs hst) fun σ H Q ⟨z, ρ, S, h⟩ =>
  ⟨z, ρ, S, h.of_bind.mono fun ⟨h1, ρ1⟩ q v H1 S1 k1 r1 => ⟨z, ρ1, S1, (q.keep k1).of_bind.mono fun ⟨hs, ρ2⟩ q2 vs H2 S2 k2 r2 => q2 _ H2 S2 (k1.trans k2) ⟨v, vs, rfl, r1.keep S1 k2, HdRs.back k1.some r2⟩⟩⟩
theorem zz_lst (h : CZs X P0 O W i ad es ms) : CZ X P0 O W i ad (.List es pos) (cLst ms) := PE.imp (pe_lst h) fun σ H Q ⟨z, ρ, S, h⟩ =>
  ⟨z, ρ, S, h.of_bind.mono fun ⟨hs, ρ1⟩ q vs H1 S1 k1 r1 => by
    obtain ⟨ds, e1, q⟩ := q.of_nox
    by_cases c : szOk ds.length = true
    · rw [if_pos c] at q
      have rr := HdRs.vs r1 e1
      exact ⟨by rw [rr.length]; exact of_decide_eq_true c, fun p hp => (out_of S1 k1 q).newL S1.dom rr hp⟩
    · rw [if_neg c] at q
      exact q.elim⟩
theorem zz_bin {op : Operator} {f : D → D → R D} (ho : OpR X (binaryOp op) (rD X.K f)) (ha : CEx X P0 O W E00 a ma) (hb : CZ X P0 O W i ad b mb) : CZ X P0 O W i ad (.BinOp a op b pos) (cOp f ma mb) := PE.imp (pe_op ho ha hb) fun σ H Q ⟨z, ρ, S, h⟩ =>
  ⟨ρ, S, h.of_bind.mono fun ⟨h1, ρ1⟩ q x H1 S1 k1 r1 => ⟨z, ρ1, S1, (q.keep k1).of_bind.mono fun ⟨h2, ρ2⟩ q2 y H2 S2 k2 r2 => by
    obtain ⟨dx, e1, q3⟩ := q2.of_nox
    obtain ⟨dy, e2, q4⟩ := q3.of_nox
    obtain ⟨dz, e3, q5⟩ := q4.of_nox
    exact ⟨FA P0 O σ, dx, dy, dz, S2.dom, (r1.keep S1 k2).d S2 e1, r2.d S2 e2, e3, out_of S2 (k1.trans k2) q5⟩⟩⟩
/-! tests -/
def cBo (b : Bool) : BM := fun ρ => .ok (b, ρ)
theorem zt_isi {k : Bool} (h : CZ X P0 O W i ad e (cC (.bl k))) (he : ∀ whole, isTrue e X.env whole = (do let v ← whole; standAt e.pos; holding [v] (truthy v)) := by intro _; rfl) : PT X e (tZt X.K P0 O W i ad (cBo k)) := PT.imp (pt_truth h he) fun σ H Q ⟨z, ρ, S, q⟩ =>
  ⟨z, ρ, S, fun v H1 S1 k1 r1 => by
    exact ⟨k, truD_ok (d := .bl k) rfl (r1.d S1 rfl), q H1 S1 k1⟩⟩
theorem zt_not (h : PT X e (tZt X.K P0 O W i ad bm)) : PT X (.UnaryOp .Not e pos) (tZt X.K P0 O W i ad (cNotT bm)) := PT.imp (pt_not h) fun σ H Q ⟨z, ρ, S, h⟩ => ⟨z, ρ, S, h.of_bind.mono fun ⟨b, ρ1⟩ q => q⟩
theorem zt_or (h : PT X a (tZt X.K P0 O W i ad bm)) (h2 : CT X P0 O W E00 b bn) : PT X (.BoolOp .Or [a, b] pos) (tZt X.K P0 O W i ad (cOrT bm bn)) := PT.imp (PW.pt (pw_or h (pw_or1 h2))) fun σ H Q ⟨z, ρ, S, h⟩ =>
  ⟨z, ρ, S, h.of_bind.mono fun ⟨k, ρ1⟩ q H1 S1 k1 => by
    cases k with
    | false => exact ⟨ρ1, S1, (q.keep k1).mono fun ⟨k2, ρ2⟩ q2 H2 S2 k3 => q2 H2 S2 (k1.trans k3)⟩
    | true => exact q H1 S1 k1⟩
theorem zs_if {sts : List Stmt} {m : SM} (hc : PT X c (tZt X.K P0 O W i ad bm)) (h1 : CSs X P0 O W U E00 sts m) : PS X (.If c sts [] pos) (tZ X.K P0 O W U i ad (sIf bm m sSkip)) := PS.imp (ps_if hc h1 (cs_nil (U := U) (E := E00))) fun D σ H ⟨z, ρ, S, h⟩ =>
  ⟨z, ρ, S, (h.of_bind.down S.sub).mono fun ⟨k, ρ1⟩ q H1 S1 k1 => by
    have q : Res E00 O σ H ((if k = true then m ρ1 else sSkip ρ1)) _ := q
    cases k with
    | true => exact (if_pos rfl).mpr ⟨ρ1, S1, (Res.keepT q (Tr.of (U := U) S.sub k1)).mono fun ⟨f2, ρ2⟩ q2 σ2 H2 S2 t2 l2 => (q2 σ2 H2 S2 ((Tr.of S.sub k1).trans t2) l2).back fun b e => k1.some b e⟩
    | false => exact (if_neg Bool.false_ne_true).mpr ⟨ρ1, S1, (Res.keepT q (Tr.of (U := U) S.sub k1)).mono fun ⟨f2, ρ2⟩ q2 σ2 H2 S2 t2 l2 => (q2 σ2 H2 S2 ((Tr.of S.sub k1).trans t2) l2).back fun b e => k1.some b e⟩⟩
/-- isinstance(e, ValueError) -/
theorem cz_isv {C : Addr} {oe : Obj} {cn nm : Str} {cl : List Str} {p q q2 : Pos} (Z : ErrZ X.K X.mg cn) (F : IsV X.K X.mg cl) (hc : cn ∈ cl) (hC : X.mg cn = some (.ref C)) (hz : Zc (.ref C) none oe) (hf : ∃ vs, oe.data = .fields vs) (hp : (ad, oe) ∈ X.pn) (hm : X.mg "isinstance" = none)
    (hN : X.N[i]? = some nm := by rfl) (hv : Vis X.env.scope nm := by first | exact Or.inl rfl | exact Or.inr (Or.inl rfl)) (hd : (nm == ("__debug__" : Str)) = false := by decide) (hcd : (nm == ("__classdict__" : Str)) = false := by decide)
    (hg : Gl X "isinstance" := by rfl) (hg2 : Gl X "ValueError" := by rfl)
    (he : starEach [.Name nm q, .Name "ValueError" q2] X.env = (false, eval (.Name nm q) X.env) :: starEach [.Name "ValueError" q2] X.env := by rfl) (hpl : (backTo pos (starEach [.Name "ValueError" q2] X.env)).any (·.1) = false := by rfl) (he2 : starEach [.Name "ValueError" q2] X.env = (false, eval (.Name "ValueError" q2) X.env) :: starEach [] X.env := by rfl) :
    CZ X P0 O W i ad (.Call (.Name "isinstance" p) [.Name nm q, .Name "ValueError" q2] [] pos) (cC (.bl true)) := by
  obtain ⟨D, hD, zD⟩ := Z.ex
  rw [hC] at hD
  cases hD
  obtain ⟨D, hD, kv⟩ := F.ex cn hc
  rw [hC] at hD
  cases hD
  refine PE.imp (pe_callB (call_isP zD hz hf hp) hg hm bo_isinstance (pa_cons (pe_var (i := i) hN hv hd hcd) (pa_cons (pe_bltn hg2 F.no (by decide +kernel) (v := .ty "ValueError") rfl) pa_nil he2) he) (by decide) (by decide) he hpl) fun σ H Q ⟨e, ρ, S, q⟩ => ?_
  exact ⟨.ref ad, e, .ty "ValueError", .type "ValueError", true, rfl, fun u r => r, kv, q (.bl true) H S .refl ⟨by unfold Rep; rfl, fun z => by cases z⟩⟩
/-- f(e) -/
theorem cz_tell {oe : Obj} {cn nm name x : Str} {k : Nat} {cl : List Str} {kw : Str → Str} {C : Addr} {p q : Pos} (G : GloZ X.prog X.w X.K X.mg X.base name k x cl kw) (hr : L2H.RoomH k X.A) (hc : cn ∈ cl) (hC : X.mg cn = some (.ref C)) (hz : L2N.Zn (.ref C) none oe) (hf : ∃ vs, oe.data = .fields vs) (hh : X.A.handled = some (.ref ad)) (hp : (ad, oe) ∈ X.pn)
    (hN : X.N[i]? = some nm := by rfl) (hv : Vis X.env.scope nm := by first | exact Or.inl rfl | exact Or.inr (Or.inl rfl)) (hd : (nm == ("__debug__" : Str)) = false := by decide) (hcd : (nm == ("__classdict__" : Str)) = false := by decide) (hg : Gl X name := by rfl) (hdb : (name == ("__debug__" : Str)) = false := by decide)
    (he : starEach [.Name nm q] X.env = (false, eval (.Name nm q) X.env) :: starEach [] X.env := by rfl) (hpl : (backTo pos (starEach [] X.env)).any (·.1) = false := by rfl) : CZ X P0 O W i ad (.Call (.Name name p) [.Name nm q] [] pos) (cC (.str (kw cn))) := by
  obtain ⟨f, fd, hm, hk, hb, F⟩ := G.ex
  refine ⟨fun pins s σ H Q I ⟨e1, ρ, S, q⟩ => ?_⟩
  refine wpAny_Call_Name_kw (ld_glob I hg hm ?_ hdb)
  refine PySem.W.callWith_K (h₀ := X.base) I.ok.mod.kin hk (thn ((pa_cons (pe_var (i := i) hN hv hd hcd) pa_nil he).run pos pins s σ H (fun vs H1 => vs = [.ref ad] ∧ H1 = H) I ⟨.ref ad, e1, rfl, rfl⟩) fun us s1 ⟨vs, H1, I1, r, ev, eH⟩ => ⟨I1.kIn, ?_⟩) he hpl
  subst ev eH
  have eu := Vals.ref1 r
  subst eu
  have b := hb s1 [.ref ad] I1.kIn rfl
  rw [List.append_nil] at b
  obtain ⟨p1, p2, p3, p4, p5⟩ := I1.pin (ad, oe) (List.mem_append_left _ hp)
  refine wpAny_call (codeAny_mono ((F cn hc C hC).run X.A X.stack s1 H1 ⟨[.ref ad], []⟩ (.ref ad) Q E0 (ad, oe) hr (hot_of hh hz hf) ⟨p1, p2, fun hm => (List.mem_cons.mp (I1.stkSub ad hm)).elim p3 p4, p5⟩ hz I1.env0 b rfl fun H' sm => ?_) fun r s' hq => ?_)
  · exact q (.str (kw cn)) H' (S.same sm) (Keep.same sm) ⟨by unfold Rep; rfl, fun z => by cases z⟩
  · cases r with
    | error e => exact passN pins σ H1 s1 e s' I1 hq
    | ok fl =>
      cases fl with
      | ret u => exact I1.after hq
      | next => exact False.elim hq
      | brk => exact False.elim hq
      | cont => exact False.elim hq
end
end Y

set_option Elab.async false
set_option linter.all false
set_option maxRecDepth 100000
namespace Y
open PySem PySem.Spec PyProof.Rows L2
/-! ### what class a refusal is: a def that is called in a suite -/
theorem _root_.L2H.RoomH.units {k : Nat} {A : Around} (r : L2H.RoomH k A) : A.units + 64 < cLine := by have := r.un; omega
/-- [int(x) for x in xs], xs a name -/
def cIntsH (i : Nat) : EM := fun ρ => do
  let d ← (look i ρ).nox
  match d with
  | .lst ds => (match blsOf ds with
    | some bs => pure (.fr (.lst (bs.map fun b => .int (if b then 1 else 0))), ρ)
    | none => .stk)
  | _ => .stk
theorem reps_i01 {K : PySem.W.Frag} {H : Hp} {P : Pr} : ∀ {bs : List Bool}, Reps K H (bs.map fun b => .int (if b then 1 else 0)) P (bs.map i01)
  | [] => Reps.nil
  | b :: bs => Reps.cons (by unfold Rep; rfl) reps_i01
section
variable {X : Cx} {P0 : Pr} {O W U : List Nat} {i j : Nat}
theorem ce_intsH {elt tgt : Expr} {x y : Str} {scope : Scope} {pos p : Pos} (hot : L2H.HotC X) (hN : X.N.Nodup) (ok : BlkOk X.N X.env.scope scope [(x, j)])
    (hg : ∀ (s : Shared) (H : Hp) (C : Addr) (cl : List (Str × Addr)) (fp : List Addr), PG (X.blk s H scope (compEnvC scope cl C X.env) fp) tgt (gName j))
    (he : ∀ (s : Shared) (H : Hp) (C : Addr) (cl : List (Str × Addr)) (fp : List Addr), PE (X.blk s H scope (compEnvC scope cl C X.env) fp) elt (tCB (fun xs H Q => (∃ i, xs = [.int i] ∧ Q (.int i) H) ∨ ∃ k, xs = [.bl k] ∧ Q (i01 k) H) (tCons (tVar j) tNil)))
    (ho : i ∉ O := by decide) (hi : X.N[i]? = some y := by rfl) (hv : Vis X.env.scope y := by first | exact Or.inl rfl | exact Or.inr (Or.inl rfl)) (hs : ∀ v, foldedSetIterable (.Name y p) X.env v = pure v := by intro _; rfl) (hd : (y == ("__debug__" : Str)) = false := by decide) (hcd : (y == ("__classdict__" : Str)) = false := by decide) :
    CEx X P0 O W E00 (.ListComp elt [⟨tgt, .Name y p, [], 0⟩] scope pos) (cIntsH i) := PE.imp (pe_intsH (i := i) hot hN ok hi hv hg he hs hd hcd) fun σ H Q ⟨ρ, S, h⟩ => by
  obtain ⟨d, e, h⟩ := h.of_nox
  obtain ⟨v, h1, h2⟩ := S.val i d (look_some e) ho
  cases d with
  | lst ds =>
    have h : Res E00 W σ H (match blsOf ds with | some bs => (R.ok (Hd.fr (.lst (bs.map fun b => .int (if b then 1 else 0))), ρ) : R (Hd × Env)) | none => .stk) _ := h
    cases c : blsOf ds with
    | none => rw [c] at h; exact h.elim
    | some bs =>
      rw [c] at h
      unfold Rep at h2
      obtain ⟨a, vs, rfl, n, g1, g2⟩ := h2
      obtain rfl := bls_rep c g2
      exact ⟨a, bs, h1, SqL.of g1, fun D hD => (out_of S .refl h).newL S.dom reps_i01 hD⟩
  | _ => exact h.elim
end
/-- the def, made ready -/
theorem gloZ_mk {P : Program} {w : World} {K : PySem.W.Frag} {mg : Str → Option Value} {base : Heap} {k n : Nat} {name x : Str} {st : Stmt} {N : List Str} {cl : List Str} {kw : Str → Str} {m : Str → SM} (F : Def K mg name st) (S : FnScope N [x] (defScope st))
    (hb : ∀ (cn : Str) (C : Addr) (f : Addr) (cdv : Value) (A : Around) (outer : List PySem.Env) (s : Shared) (H : Hp) (E : XK) (p : Addr × Obj), cn ∈ cl → mg cn = some (.ref C) → Zc (.ref C) none p.2 → (∃ vs, p.2.data = .fields vs) →
      L2H.HotC (L2H.cxH (L2N.CX P w) P w K mg base N name (defScope st) f cdv A outer s H E p) → L2H.RoomH k (A.deeper (envOfC name (defScope st) s.heap.objs.size f cdv)) → PSs (L2H.cxH (L2N.CX P w) P w K mg base N name (defScope st) f cdv A outer s H E p) (defBody st) (tZ K (fun _ => False) [] [] [0] 0 p.1 (m cn)))
    (hm : ∀ cn ∈ cl, ∃ ρ, m cn (List.replicate n none) = .ok (.rt (.vl (.str (kw cn))), ρ))
    (bi : ∀ (kV doc pm : Value) (an : Option Addr) (cdv ct : Value) (us : List Value), us.length = 1 → bindArgs (PySem.W.fnOf name name (defArgs st) (defBody st) (defScope st) .none kV doc pm an cdv ct) ⟨us, []⟩ = Pure.pure ([x].zip us)) (hn : N.length = n := by rfl) (h0 : 0 < n := by decide) : GloZ P w K mg base name (k + 1) x cl kw := by
  obtain ⟨f, fd, hmg, F⟩ := F.ex
  refine ⟨f, fd, hmg, F.kp, F.binds bi, fun cn hc C hC => ⟨fun A outer s H args u Q E p hr hot hpin hz e0 bt eu q => ?_⟩⟩
  rcases F.ex with ⟨_, _, _, _, _, _, cd, _, _, rfl, look, code⟩
  have KX : K.In s.heap := e0.mod.kin.keeps fun b o e => (e0.bs b o e).1
  have lim : s.heap.NoLimit := e0.mod.nolimit.keeps fun b o e => (e0.bs b o e).1
  have kd : ∀ y ∈ [x].zip [u], (defScope st).names.lookup y.1 = some .local ∨ ((defScope st).names.lookup y.1 = some .cell ∧ ((cellsFrom (s.heap.objs.size + 1) (defScope st).names []).lookup y.1).isSome = true) := fun ⟨n, v⟩ hy =>
    (S.par n (List.of_mem_zip hy).1).imp id fun q => ⟨q, PySem.W.cellsFrom_some _ _ _ (.inl q)⟩
  refine codeAny_call_function hr.depth (KX _ _ look) rfl S.co S.gen rfl (PySem.W.codeRec_of KX code) (bt _ _ _ _ (wpAny_newFunctionEnv_cells S.kind kd fun env he s1 xx => ?_))
  subst he
  refine ⟨lim.keeps xx.toInCall.keep, codeAny_func ?_⟩
  obtain ⟨vs, dv, _⟩ := hot.2
  have B := hb cn C f cd A outer s H E p hc hC hz.zc ⟨vs, dv⟩ ⟨p, hot, List.mem_cons_self⟩ (hr.deeper _)
  have ru : Vals [V.ref p.1] [u] := .cons eu .nil
  have I : Inv (L2H.cxH (L2N.CX P w) P w K mg base N name (defScope st) f cd A outer s H E p) [] (L2.start N [.ref p.1]) H s1 := L2H.inv_startH S hpin e0 rfl ru xx
  have lN : (L2.start N [V.ref p.1]).length = n := by
    have := S.pre
    unfold L2.start
    rw [List.length_append, List.length_map, List.length_replicate]
    simp only [List.length_singleton]
    omega
  have S0 : Sim K (fun _ => False) [] [] (List.replicate n none) (L2.start N [V.ref p.1]) H := by
    refine ⟨fun _ z => (nomatch z), by rw [lN, List.length_replicate]; exact Nat.le_refl _, fun b z => ?_, fun i d e => ?_, fun i d e => ?_, fun i j a hi => (nomatch hi), fun a z => ?_⟩
    · rcases z with z | ⟨i, hi, _⟩
      · exact z.elim
      · exact nomatch hi
    · rw [List.getElem?_replicate] at e
      split at e <;> cases e
    · rw [List.getElem?_replicate] at e
      split at e <;> cases e
    · obtain ⟨i, hi, _⟩ := z
      exact nomatch hi
  have s0 : (L2.start N [V.ref p.1])[0]? = some (some (.ref p.1)) := by
    unfold L2.start
    rfl
  obtain ⟨ρ, em⟩ := hm cn hc
  refine wpAny_mono (B.run [] s1 (L2.start N [.ref p.1]) H { nx := fun _ H' => Q .non H', rt := Q } I ⟨s0, _, S0, ?_⟩) (fun fl s' hs => ?_) fun e s' hs => hs
  · rw [em]
    intro σ' H' S' t' l' v r
    have rv : Rep K H' (.str (kw cn)) (FA (fun _ => False) [] σ') v := r
    unfold Rep at rv
    subst rv
    exact q H' fun b o e => t'.keep b o e fun ⟨i, hi, _⟩ => nomatch hi
  · cases fl with
    | ret u =>
      obtain ⟨v, σ', H', J, rv, qv⟩ := hs
      exact ⟨v, H', J.os, J.bare, J.base, J.hok, rv, qv⟩
    | next =>
      obtain ⟨σ', H', J, qv⟩ := hs
      exact ⟨V.non, H', J.os, J.bare, J.base, J.hok, rfl, qv⟩
    | brk => exact (show False from hs.choose_spec.choose_spec.2).elim
    | cont => exact (show False from hs.choose_spec.choose_spec.2).elim
theorem roomH_suite {j k : Nat} {A : Around} {h : Option Value} (r : Room k A) (l : j ≤ k := by decide) : L2H.RoomH j (A.mark h) := ⟨(r.mono l).dp, (r.mono l).un⟩
theorem mem_sub {a b : List Str} {c : Str} (m : c ∈ a) (h : (a.all fun x => decide (x ∈ b)) = true := by decide +kernel) : c ∈ b := of_decide_eq_true (List.all_eq_true.mp h c m)
/-! the words -/
def kindNs : List (Str × Str) := [("NoRule", "rule"), ("TooMany", "many"), ("NoOrder", "order"), ("NoStand", "stand"), ("NoSeen", "seen"), ("NoSwitch", "switch"), ("NoText", "text"), ("NoRow", "row"), ("NoFrame", "frame"), ("NoDen", "den"), ("NoHolds", "holds"), ("Hears", "hears")]
def kindW (c : Str) : Str := (kindNs.lookup c).getD "none of the classes"
def isB (x cn : Str) : EM := cC (.bl (isErr x cn))
def kindM (cn : Str) : SM :=
  sSeq (sAsg (cLst (cCons (isB "NoRule" cn) (cCons (isB "TooMany" cn) (cCons (isB "NoOrder" cn) (cCons (isB "NoStand" cn) cNil))))) (tmName 1))
  (sSeq (sAsg (cOp addD (cVar 1) (cLst (cCons (isB "NoSeen" cn) (cCons (isB "NoSwitch" cn) (cCons (isB "NoText" cn) (cCons (isB "NoRow" cn) cNil)))))) (tmName 1))
  (sSeq (sAsg (cOp addD (cVar 1) (cLst (cCons (isB "NoFrame" cn) (cCons (isB "NoDen" cn) (cCons (isB "NoHolds" cn) (cCons (isB "Hears" cn) cNil)))))) (tmName 1))
  (sSeq (sIf (cOrT (cNotT (cBo true)) (cBl (cOp neD (cCall sumD (cCons (cIntsH 1) cNil)) (cC (.int 1))))) (sRet (cC (.str "none of the classes"))) sSkip)
  (sSeq (sAsg (cLst (cCons (cC (.str "rule")) (cCons (cC (.str "many")) (cCons (cC (.str "order")) (cCons (cC (.str "stand")) (cCons (cC (.str "seen")) (cCons (cC (.str "switch")) (cCons (cC (.str "text")) (cCons (cC (.str "row")) (cCons (cC (.str "frame")) (cCons (cC (.str "den")) (cCons (cC (.str "holds")) (cCons (cC (.str "hears")) cNil))))))))))))) (tmName 2))
  (sRet (cIx (cVar 2) (cIndex (cVar 1) (cC (.bl true)))))))))
def kindE (cn : Str) : Env := [none, some (.lst (kindNs.map fun p => .bl (isErr p.1 cn))), some (.lst (kindNs.map fun p => .str p.2)), none]
theorem kind_all : ∀ cn ∈ kindNs.map (·.1), ∃ ρ, kindM cn (List.replicate 4 none) = .ok (.rt (.vl (.str (kindW cn))), ρ) := by
  intro cn hc
  simp only [kindNs, List.map_cons, List.map_nil, List.mem_cons, List.not_mem_nil, or_false] at hc
  rcases hc with rfl | rfl | rfl | rfl | rfl | rfl | rfl | rfl | rfl | rfl | rfl | rfl
  · exact ⟨kindE "NoRule", by kernel_rfl⟩
  · exact ⟨kindE "TooMany", by kernel_rfl⟩
  · exact ⟨kindE "NoOrder", by kernel_rfl⟩
  · exact ⟨kindE "NoStand", by kernel_rfl⟩
  · exact ⟨kindE "NoSeen", by kernel_rfl⟩
  · exact ⟨kindE "NoSwitch", by kernel_rfl⟩
  · exact ⟨kindE "NoText", by kernel_rfl⟩
  · exact ⟨kindE "NoRow", by kernel_rfl⟩
  · exact ⟨kindE "NoFrame", by kernel_rfl⟩
  · exact ⟨kindE "NoDen", by kernel_rfl⟩
  · exact ⟨kindE "NoHolds", by kernel_rfl⟩
  · exact ⟨kindE "Hears", by kernel_rfl⟩
end Y

set_option Elab.async false
set_option linter.all false
set_option maxRecDepth 100000
namespace Y
open PySem PySem.Spec PyProof.Rows L2
/-! ### for x in f(..), f gives a new dict: its keys -/
def cKeysF (m : EM) : IM := fun ρ => do
  let (h, ρ1) ← m ρ
  match h with
  | .fr (.dit ks ds) => if szOk ks.length = true then pure ((ks.map fun k => D.tup (k.map keyD), []), ρ1) else .stk
  | _ => .stk
section
variable {K : PySem.W.Frag} {O W : List Nat} {a : Addr} {o : Obj}
theorem src_keysT {ks : List (List Key)} {vs : List V} (hl : ks.length = vs.length) : Src K O W (ks.map fun k => .tup (k.map keyD)) [] (Itkt a o (ks.zip vs)) (fun P0 _ σ H => H a = some (.frz o (.dT (ks.zip vs))) ∧ ¬ FA P0 O σ a) where
  go := fun P0 i ρ σ H S ⟨h1, _⟩ hi => ⟨h1, by rw [List.length_zip]; simp at hi; omega⟩
  stop := fun P0 ρ σ H S ⟨h1, _⟩ => ⟨h1, by simp; omega⟩
  yld := fun P0 i ρ σ H x H' d S ⟨h1, h2⟩ hd' y => by
    obtain ⟨rfl, k, v, q, e1, rfl, hq⟩ := y
    obtain ⟨k1, _⟩ := zip_at e1
    rw [List.getElem?_map, k1] at hd'
    cases hd'
    exact ⟨Same.refl _, Rep.tup_of hq (reps_keys k)⟩
  keep := fun P0 ρ σ H ρ' σ' H' S k w _ ⟨h1, h2⟩ => ⟨k _ _ h1 h2, fun z => (w a z).elim h2 fun z => by rw [h1] at z; cases z⟩
  mem := fun _ _ _ _ _ w hw => nomatch hw
  grow := fun P0 P1 ρ σ H H' S w k ⟨h1, h2⟩ => ⟨k _ _ h1, fun z => by
    rcases z with z | z
    · rcases w a z with z | z
      · exact h2 (.inl z)
      · rw [h1] at z; cases z
    · exact h2 (.inr z)⟩
end
section
variable {X : Cx} {P0 : Pr} {O W U : List Nat} {E : EK} {tg e : Expr} {ma : EM}
theorem ci_keysF (ha : CEx X P0 O W E e ma) : CI X P0 O W E tg e (cKeysF ma) := by
  refine ⟨fun pins s σ H RR I ⟨ρ, S, h⟩ => ?_⟩
  cases em : ma ρ with
  | stk => unfold cKeysF at h; rw [em] at h; exact h.elim
  | er c ds =>
    unfold cKeysF at h
    rw [em] at h
    refine thn (ha.run pins s σ H (fun v H1 => False) I ⟨ρ, S, by rw [em]; exact h⟩) fun xv s1 ⟨v, H1, I1, r1, z⟩ => z.elim
  | ok p =>
    obtain ⟨hd, ρ1⟩ := p
    refine thn (ha.run pins s σ H (fun v H1 => Sim X.K P0 O W ρ1 σ H1 ∧ Keep W σ H H1 ∧ HdR X.K P0 O H σ H1 hd v) I ⟨ρ, S, by rw [em]; exact fun v H1 S1 k1 r1 => ⟨S1, k1, r1⟩⟩) fun xv s1 ⟨v, H1, I1, r1, S1, k1, r2⟩ => ?_
    unfold cKeysF at h
    rw [em] at h
    cases hd with
    | ow i => exact h.elim
    | vl d => exact h.elim
    | fr d =>
      cases d with
      | dit ks ds =>
        have h : Res E W σ H (if szOk ks.length = true then (R.ok ((ks.map fun k => D.tup (k.map keyD), []), ρ1) : R ((List D × List Nat) × Env)) else .stk) _ := h
        by_cases c : szOk ks.length = true
        · rw [if_pos c] at h
          obtain ⟨rr, fr⟩ := r2
          unfold Rep at rr
          obtain ⟨a, vs, rfl, na, hl, rd, rs⟩ := rr
          have ha0 : H a = none := fr rfl a rfl
          obtain rfl : xv = Value.ref a := r1
          obtain ⟨od, H2, e2, ke, I2⟩ : ∃ (od : Obj) (H2 : Hp), H2 a = some (.frz od (.dT (ks.zip vs))) ∧ (∀ b, b ≠ a → H2 b = H1 b) ∧ Inv X pins σ H2 s1 := by
            rcases rd with rd | ⟨od, rd⟩
            · obtain ⟨od, I2⟩ := I1.lock rd trivial
              exact ⟨od, _, upd_same, fun b hb => upd_ne hb, I2⟩
            · exact ⟨od, H1, rd, fun _ _ => rfl, I1⟩
          have S2 : Sim X.K P0 O W ρ1 σ H2 := S1.rd (u := .dT (ks.zip vs)) trivial ke rd (.inr ⟨od, e2⟩) na
          have k2 : Keep W σ H H2 := by
            refine ⟨fun b ob e n => ?_, fun b e => ?_⟩
            · rw [ke b fun z => by rw [z, ha0] at e; cases e]
              exact k1.keep b ob e n
            · rw [ke b fun z => by rw [z, ha0] at e; exact e rfl]
              exact k1.some b e
          obtain ⟨hs, hgd, hx, es, ep, hdt, hsz, ent⟩ := I2.frzT e2
          refine iter_keys hs hgd hx hdt (pi_one (tk := s1.toks) I2 _ (turn_keysT _ hdt) ⟨_, Heap.get?_push_size _ rfl, rfl, ?_⟩ (h _ H2 _ S2 k2 (src_keysT hl) ⟨e2, na⟩ (by rw [List.length_map]; exact of_decide_eq_true c)))
          rw [hsz] <;> rfl
        · rw [if_neg c] at h; exact h.elim
      | _ => exact h.elim
end
variable {ρ : Env}
@[simp] theorem e_keysF {m : EM} : cKeysF m ρ = (m ρ >>= fun p => match p.1 with | .fr (.dit ks ds) => if szOk ks.length = true then R.ok ((ks.map fun k => D.tup (k.map keyD), []), p.2) else .stk | _ => .stk) := by
  unfold cKeysF; congr
end Y

set_option Elab.async false
set_option linter.all false
set_option maxRecDepth 100000
namespace Y
open PySem PySem.Spec PyProof.Rows L2
/-! ### sum(t, ()), t a tuple of tuples -/
theorem args_sumT (a b : Value) : argsOk "sum" ⟨[a, b], []⟩ := by unfold argsOk; kernel_rfl
section
variable {prog : Program} {w : World} {A : Around} {E : Value → Shared → Prop}
theorem tup_stays {h h' : Heap} {T : Addr} {vs : Array Value} (t : IsTup h T vs) (k : ∀ o, h.get? T = some o → h'.get? T = some o) : IsTup h' T vs := by
  obtain ⟨o, e, c, d⟩ := t
  exact ⟨o, k o e, c, d⟩
theorem tup_cat {s : Shared} {t b : Addr} {vs ws : List Value} {Q : Value → Shared → Prop} {Ok : Addr → List Value → Prop} (ht : IsTup s.heap t vs.toArray) (hb : IsTup s.heap b ws.toArray) (o1 : Ok t vs) (o2 : Ok b ws) (o3 : Ok s.heap.objs.size (vs ++ ws))
    (hz : vs.length + ws.length ≤ sizeLine) (q : ∀ T h', (∀ b o, s.heap.get? b = some o → h'.get? b = some o) → IsTup h' T (vs ++ ws).toArray → Ok T (vs ++ ws) → Q (.ref T) { s with heap := h' }) : wpAny (model prog w) A (binaryOp .Add (.ref t) (.ref b)) Q E s := by
  by_cases hv : vs = []
  · subst hv
    exact cat_tup0 ht hb (q b s.heap (fun _ _ e => e) hb o2)
  · refine HT.cat_tup ht hb hv (fun hw => ?_) (fun _ => ?_) hz
    · subst hw
      rw [List.append_nil] at q
      exact q t s.heap (fun _ _ e => e) ht o1
    · exact q _ _ (fun b o e => Heap.get?_push_of_some _ e) ⟨_, Heap.get?_push_size _ rfl, rfl, _, rfl⟩ o3
theorem sum_tups_loop {I t n0 : Addr} {R : Result → Shared → Prop} {items : Array Value} {bs : List (Addr × List Value)} {Ok : Addr → List Value → Prop} (hh : A.handled = none) (nt : t ≠ I) (S : Addr) (nS : S ∉ [I, t]) (hS0 : n0 ≤ S)
    (hb : ∀ (j : Nat) (p : Addr × List Value), bs[j]? = some p → items[j]? = some (Value.ref p.1) ∧ Ok p.1 p.2 ∧ p.1 < n0) (hl : bs.length = items.size) (hI : n0 ≤ I) (okN : ∀ b acc, n0 ≤ b → Ok b acc) (hz : (bs.map (·.2)).flatten.length ≤ sizeLine) :
    ∀ (k i : Nat) (s : Shared) (T : Addr) (c : Nat) (acc : List Value), items.size - i = k → i ≤ items.size → s.heap.IsTupleIter I t i → s.heap.IsTuple t items → s.heap.get? S = some { cls := .type "list", dict := none, data := .seq #[.ref T] c, slots := #[] } →
    IsTup s.heap T acc.toArray → Ok T acc → (∀ p ∈ bs, IsTup s.heap p.1 p.2.toArray) → acc = ((bs.take i).map (·.2)).flatten →
    (∀ s' T', (∀ b o, b ∉ [S, I] → s.heap.get? b = some o → s'.heap.get? b = some o) → s'.gens = s.gens → s'.drawn = s.drawn → s'.os = s.os → IsTup s'.heap T' ((bs.map (·.2)).flatten).toArray → Ok T' (bs.map (·.2)).flatten → R (.ok (.ret (.ref T'))) s') →
    codeAny (model prog w) A (.builtin "sum.loop" ⟨[.ref I, .ref S, rawInt 2, rawInt 0], []⟩) R s := by
  have W := Walks.tuple (prog := prog) (w := w) (A := A.in1) hh I t nt items
  have nSI : S ≠ I := fun e => nS (by rw [e]; exact List.mem_cons_self)
  have nSt : S ≠ t := fun e => nS (by rw [e]; exact List.mem_cons_of_mem _ List.mem_cons_self)
  intro k
  induction k with
  | zero =>
    intro i s T c acc hk hi it tt gS tT oT tb ea hR
    have e : i = items.size := by omega
    subst e
    refine codeAny_builtin F.entry_sum_loop ?_
    rw [Around.under_plainId F.plain_sum_loop _]
    show wpAny _ A.in1 (seqItems? (.ref S) >>= _) _ _ s
    refine wpAny_bind (wpAny_seqItems gS rfl ?_)
    show wpAny _ A.in1 (tryCatch (pyNext (.ref I)) _ >>= _) _ _ s
    refine wpAny_bind (wpAny_tryCatch (W.done s _ _ ⟨it, tt⟩ fun h' tk hk' => ?_))
    rw [List.take_of_length_le (by omega)] at ea
    subst ea
    have nT : T ∉ [I] := fun e => by
      obtain rfl := List.mem_singleton.mp e
      obtain ⟨o, g, c1, _⟩ := tT
      obtain ⟨o2, g2, c2, _⟩ := it
      rw [g] at g2
      cases g2
      rw [c1] at c2
      injection c2 with z
      exact absurd z (by decide)
    exact wpAny_pure (hR _ T (fun b o nb e => hk' b o (fun z => nb (List.mem_cons_of_mem _ z)) e) rfl rfl rfl (tup_stays tT fun o e => hk' T o nT e) oT)
  | succ k ih =>
    intro i s T c acc hk hi it tt gS tT oT tb ea hR
    have lt : i < items.size := by omega
    have ib : i < bs.length := by omega
    obtain ⟨e1, ob, lb⟩ := hb i bs[i] (List.getElem?_eq_getElem ib)
    refine codeAny_builtin F.entry_sum_loop ?_
    rw [Around.under_plainId F.plain_sum_loop _]
    show wpAny _ A.in1 (seqItems? (.ref S) >>= _) _ _ s
    refine wpAny_bind (wpAny_seqItems gS rfl ?_)
    show wpAny _ A.in1 (tryCatch (pyNext (.ref I)) _ >>= _) _ _ s
    refine wpAny_bind (wpAny_tryCatch (W.item i s _ _ lt ⟨it, tt⟩ fun v h1 tk1 ev st1 k1 => ?_))
    rw [e1] at ev
    cases ev
    have nI : ∀ {b : Addr} {vs : Array Value}, IsTup s.heap b vs → b ∉ [I] := fun {b vs} tb e => by
      obtain rfl := List.mem_singleton.mp e
      obtain ⟨o, g, c1, _⟩ := tb
      obtain ⟨o2, g2, c2, _⟩ := it
      rw [g] at g2
      cases g2
      rw [c1] at c2
      injection c2 with z
      exact absurd z (by decide)
    have tT1 : IsTup h1 T acc.toArray := tup_stays tT fun o e => k1 T o (nI tT) e
    have gS1 : h1.get? S = _ := k1 S _ (fun z => nSI (List.mem_singleton.mp z)) gS
    have tb1 : ∀ p ∈ bs, IsTup h1 p.1 p.2.toArray := fun p hp => tup_stays (tb p hp) fun o e => k1 p.1 o (nI (tb p hp)) e
    have sz1 : n0 ≤ h1.objs.size := Nat.le_of_lt (Nat.lt_of_le_of_lt hS0 (Heap.lt_size gS1))
    have fl : ((bs.take (i + 1)).map (·.2)).flatten = acc ++ bs[i].2 := by
      rw [List.take_add_one, List.getElem?_eq_getElem ib, List.map_append, List.flatten_append, ← ea]
      simp
    have zz : acc.length + bs[i].2.length ≤ sizeLine := by
      have e2 := congrArg List.length fl
      rw [List.length_append] at e2
      rw [← e2]
      have e3 : ((bs.map (·.2)).flatten) = ((bs.take (i + 1)).map (·.2)).flatten ++ ((bs.drop (i + 1)).map (·.2)).flatten := by
        rw [← List.flatten_append, ← List.map_append, List.take_append_drop]
      rw [e3, List.length_append] at hz
      omega
    show wpAny _ A.in1 ((holding [Value.ref bs[i].1] (binaryOp .Add (.ref T) (.ref bs[i].1))).attempt >>= _) _ _ { s with heap := h1, toks := tk1 }
    refine wpAny_bind (wpAny_attempt (wpAny_holding (tup_cat (s := { s with heap := h1, toks := tk1 }) (Ok := Ok) tT1 (tb1 _ (List.getElem_mem ib)) oT ob (okN _ _ sz1) zz fun T2 h2 k2 t2 o2 => ?_)))
    have gS2 : h2.get? S = _ := k2 S _ gS1
    show wpAny _ A.in1 (updateSeq S (fun _ => #[.ref T2]) >>= _) _ _ _
    refine wpAny_bind (wpAny_updateSeq gS2 rfl ?_)
    have gS3 := Heap.get?_update_self (Obj.mapSeq fun _ => #[Value.ref T2]) gS2 rfl
    refine wpAny_bind (wpAny_letGo ?_)
    show wpAny _ A.in1 (updateSeq S (fun _ => #[.ref T2]) >>= _) _ _ _
    have gS4 := Heap.get?_update_self (Obj.mapSeq fun _ => #[Value.ref T2]) gS3 rfl
    have nTS : ∀ {b : Addr} {vs : Array Value}, IsTup h2 b vs → S ≠ b := fun {b vs} tb e => by
      subst e
      obtain ⟨o, g, c1, _⟩ := tb
      rw [g] at gS2
      cases gS2
      injection c1 with z
      exact absurd z (by decide)
    have k4 : ∀ b o, b ≠ S → h2.get? b = some o → ((h2.update S (Obj.mapSeq fun _ => #[Value.ref T2])).update S (Obj.mapSeq fun _ => #[Value.ref T2])).get? b = some o := fun b o nb e =>
      (Heap.get?_update_other _ _ (fun z : S = b => nb z.symm)).trans ((Heap.get?_update_other _ _ (fun z : S = b => nb z.symm)).trans e)
    refine wpAny_bind (wpAny_updateSeq gS3 rfl (wpAny_pure ⟨plainId_quiet F.plain_sum_loop _, ih (i + 1) _ T2 _ (acc ++ bs[i].2) (by omega) lt (st1.1.at fun o e => k4 I o (fun z => nSI z.symm) (k2 I o e)) (st1.2.at fun o e => k4 t o (fun z => nSt z.symm) (k2 t o e)) gS4
      (tup_stays t2 fun o e => k4 T2 o (fun z => nTS t2 z.symm) e) o2 (fun p hp => ?_) fl.symm fun s' T' k5 e5 e6 e7 t5 o5 => ?_⟩))
    · have t3 : IsTup h2 p.1 p.2.toArray := tup_stays (tb1 p hp) fun o e => k2 _ o e
      exact tup_stays t3 fun o e => k4 p.1 o (fun z => nTS t3 z.symm) e
    · exact hR s' T' (fun b o nb e => k5 b o nb (k4 b o (fun z => nb (by rw [z]; exact List.mem_cons_self)) (k2 b o (k1 b o (fun z => nb (List.mem_cons_of_mem _ z)) e)))) e5 e6 e7 t5 o5
theorem sum_tups {s : Shared} {t st : Addr} {items : Array Value} {bs : List (Addr × List Value)} {Ok : Addr → List Value → Prop} {Q : Value → Shared → Prop} (hh : A.handled = none) (ht : s.heap.IsTuple t items) (hst : IsTup s.heap st ([] : List Value).toArray) (o0 : Ok st [])
    (hb : ∀ (j : Nat) (p : Addr × List Value), bs[j]? = some p → items[j]? = some (Value.ref p.1) ∧ Ok p.1 p.2) (tb : ∀ p ∈ bs, IsTup s.heap p.1 p.2.toArray) (hl : bs.length = items.size) (okN : ∀ b acc, s.heap.objs.size ≤ b → Ok b acc) (hz : (bs.map (·.2)).flatten.length ≤ sizeLine)
    (q : ∀ h' tk T', (∀ b o, s.heap.get? b = some o → h'.get? b = some o) → IsTup h' T' ((bs.map (·.2)).flatten).toArray → Ok T' (bs.map (·.2)).flatten → Q (.ref T') { s with heap := h', toks := tk }) : wpAny (model prog w) A (call (.builtin "sum") [.ref t, .ref st]) Q E s := by
  obtain ⟨ot, gt, ct, nt, dt⟩ := id ht
  obtain ⟨os, gs, cs, ns, ds⟩ := id hst
  have lt := Heap.lt_size gt
  have ls := Heap.lt_size gs
  refine call_function_tree F.kind_sum F.plain_sum F.entry_sum (args_sumT _ _) ?_
  unfold Builtin.«sum»
  simp only [List.length_cons, List.length_nil]
  rw [if_neg (by decide)]
  refine wpAny_bind (wpAny_of_eq (show Builtin.Builtins.bindParams "sum" ["start"] 0 ⟨[.ref st], []⟩ = pure [some (.ref st)] from rfl) ?_)
  refine wpAny_bind (wpAny_pyIter_tuple ht ?_)
  have g1 : (s.heap.push { cls := .type "tuple_iterator", data := .fields #[.ref t, .int 0 0] }).get? st = some os := Heap.get?_push_of_some _ gs
  refine wpAny_bind (wpAny_pure ?_)
  simp only [List.forIn_cons, List.forIn_nil]
  refine wpAny_bind (wpAny_bind (wpAny_bind (wpAny_isInstance (T := "tuple") (b := false) ⟨_, g1, cs⟩ PySem.F.sub_tuple_str ?_)))
  simp only [Bool.false_eq_true, if_false]
  refine wpAny_pure (wpAny_bind (wpAny_bind (wpAny_isInstance (T := "tuple") (b := false) ⟨_, g1, cs⟩ PySem.F.sub_tuple_bytes ?_)))
  simp only [Bool.false_eq_true, if_false]
  refine wpAny_pure (wpAny_bind (wpAny_bind (wpAny_isInstance (T := "tuple") (b := false) ⟨_, g1, cs⟩ PySem.F.sub_tuple_bytearray ?_)))
  simp only [Bool.false_eq_true, if_false]
  refine wpAny_pure (wpAny_pure ?_)
  refine wpAny_bind (wpAny_newObj_type ?_)
  have up : ∀ b o, s.heap.get? b = some o → ((s.heap.push { cls := .type "tuple_iterator", data := .fields #[.ref t, .int 0 0] }).push { cls := .type "list", data := .seq #[.ref st] }).get? b = some o := fun b o e => Heap.get?_push_of_some _ (Heap.get?_push_of_some _ e)
  refine wpAny_pure ⟨plainId_quiet F.plain_sum_loop _, sum_tups_loop (bs := bs) (items := items) (I := s.heap.objs.size) (t := t) (n0 := s.heap.objs.size) (Ok := Ok) hh (Nat.ne_of_lt lt) (s.heap.push { cls := .type "tuple_iterator", data := .fields #[.ref t, .int 0 0] }).objs.size (fun z => ?_) (by rw [Heap.size_push]; exact Nat.le_succ _)
    (fun j p e => ⟨(hb j p e).1, (hb j p e).2, ?_⟩) hl (Nat.le_refl _) okN hz items.size 0 _ st _ [] rfl (Nat.zero_le _) ⟨_, Heap.get?_push_of_some _ (Heap.get?_push_size _ rfl), rfl, rfl⟩ (ht.at fun o e => up _ o e) (Heap.get?_push_size _ rfl)
    (tup_stays hst fun o e => up _ o e) o0 (fun p hp => tup_stays (tb p hp) fun o e => up _ o e) rfl fun s' T' k5 e5 e6 e7 t5 o5 => ?_⟩
  · rw [Heap.size_push] at z
    rcases List.mem_cons.mp z with z | z
    · exact absurd z (Nat.succ_ne_self _)
    · have z := List.mem_singleton.mp z
      rw [← z] at lt
      exact absurd lt (Nat.not_lt_of_ge (Nat.le_succ _))
  · obtain ⟨o, g, _⟩ := tb p (List.mem_of_getElem? e)
    exact Heap.lt_size g
  · obtain ⟨h', g', d', tk', os'⟩ := s'
    have e5 : g' = s.gens := e5
    have e6 : d' = s.drawn := e6
    have e7 : os' = s.os := e7
    subst e5 e6 e7
    refine q h' tk' T' (fun b o e => k5 b o (fun z => ?_) (up b o e)) t5 o5
    have lb := Heap.lt_size e
    rcases List.mem_cons.mp z with z | z
    · rw [Heap.size_push] at z
      rw [z] at lb
      exact absurd lb (Nat.not_lt_of_ge (Nat.le_succ _))
    · have z := List.mem_singleton.mp z
      rw [z] at lb
      exact absurd lb (Nat.lt_irrefl _)
end
/-- the tuples of a tuple -/
def tupsL : List D → Option (List (List D))
  | [] => some []
  | .tup xs :: ds => (tupsL ds).map (xs :: ·)
  | _ => none
def sumTD : List D → R D
  | [.tup ds, .tup []] => match tupsL ds with
    | some bs => if bs.flatten.length ≤ 16777216 then .ok (.tup bs.flatten) else .stk
    | none => .stk
  | _ => .stk
section
variable {X : Cx}
theorem tupsL_rep {K : PySem.W.Frag} {H : Hp} {P : Pr} {h : Heap} {pr : Program} {w : World} : ∀ {ds : List D} {bs : List (List D)} {vs : List V} {us : List Value} (ok : HOk pr w H h), tupsL ds = some bs → Reps K H ds P vs → Vals vs us →
    ∃ ps : List (Addr × List Value), ps.length = bs.length ∧ (∀ (j : Nat) (p : Addr × List Value), ps[j]? = some p → us[j]? = some (Value.ref p.1) ∧ IsTup h p.1 p.2.toArray ∧ ∃ ws b, bs[j]? = some b ∧ H p.1 = some (.tup ws) ∧ Reps K H b P ws ∧ Vals ws p.2) ∧ ∃ wss : List (List V), (ps.map (·.2)).length = wss.length ∧ Vals wss.flatten (ps.map (·.2)).flatten ∧ Reps K H bs.flatten P wss.flatten
  | [], bs, vs, us, ok, h, r, v => by cases h; exact ⟨[], rfl, fun j p e => by simp at e, [], rfl, .nil, Reps.nil⟩
  | d :: ds, bs, vs, us, ok, h, r, v => by
    cases d with
    | tup xs =>
      have h : (tupsL ds).map (xs :: ·) = some bs := h
      cases e : tupsL ds with
      | none => rw [e] at h; cases h
      | some cs =>
        rw [e] at h
        cases h
        obtain ⟨v1, vs1, rfl, r1, r2⟩ := r.cons_iff
        cases v with
        | cons w1 w2 =>
          obtain ⟨ps, l, q1, wss, l2, q2, q3⟩ := tupsL_rep ok e r2 w2
          unfold Rep at r1
          obtain ⟨b, ws, rfl, g1, g2⟩ := r1
          have o := ok b _ g1
          obtain ⟨hz, its, rv, it⟩ := o
          obtain rfl : _ = Value.ref b := w1
          refine ⟨(b, its) :: ps, by simp [l], fun j p ej => ?_, ws :: wss, by simpa using l2, ?_, ?_⟩
          · cases j with
            | zero => simp at ej; subst ej; exact ⟨rfl, it, ws, xs, rfl, g1, g2, rv⟩
            | succ j => simp at ej; simpa using q1 j p ej
          · rw [List.map_cons, List.flatten_cons, List.flatten_cons]; exact rv.append q2
          · rw [List.flatten_cons, List.flatten_cons]; exact g2.append q3
    | _ => cases h
theorem cd_sumT (hc : X.calm = true) : CallR X (.builtin "sum") (rDs X.K sumTD) := by
  intro pins s σ H xs us Q I r ⟨P, ds, dz, hm, rs, e, out⟩
  unfold sumTD at e
  split at e
  · rename_i es
    split at e
    · rename_i bs c
      split at e
      · rename_i hz
        cases e
        obtain ⟨v1, v2, rfl, r1, r2⟩ := rs.get2
        obtain ⟨a, vs, rfl, g1, g2⟩ := r1.tup
        obtain ⟨b, vs2, rfl, k1, k2⟩ := r2.tup
        obtain rfl := k2.nil_iff
        obtain ⟨its, rv, p1, _⟩ := I.tuple (SqT.of g1)
        obtain ⟨its2, rv2, p2, _⟩ := I.tuple (SqT.of k1)
        obtain rfl := rv2.nil_iff.mpr rfl
        obtain ⟨ps, lp, q1, wss, lw, q2, q3⟩ := tupsL_rep I.hok c g2 rv
        cases r with
        | cons ra r =>
          cases r with
          | cons rb r =>
            cases r
            obtain rfl : _ = Value.ref a := ra
            obtain rfl : _ = Value.ref b := rb
            have lq : (ps.map (·.2)).flatten.length = bs.flatten.length := by rw [← q2.length, ← q3.length]
            have lit : ps.length = its.toArray.size := by
              rw [lp, List.size_toArray, ← rv.length, g2.length]
              have : ∀ {ds : List D} {bs : List (List D)}, tupsL ds = some bs → ds.length = bs.length := fun {ds} => by
                induction ds with
                | nil => intro bs h; cases h; rfl
                | cons d ds ih =>
                  intro bs h
                  cases d with
                  | tup xs =>
                    have h : (tupsL ds).map (xs :: ·) = some bs := h
                    cases e : tupsL ds with
                    | none => rw [e] at h; cases h
                    | some cs => rw [e] at h; cases h; simp [ih e]
                  | _ => cases h
              exact (this c).symm
            refine sum_tups (items := its.toArray) (bs := ps) (Ok := fun T acc => s.heap.objs.size ≤ T ∨ ∃ ws : List V, H T = some (.tup ws) ∧ Vals ws acc) (I.ok.hd hc) p1 p2 (.inr ⟨[], k1, .nil⟩) (fun j p e => ?_) (fun p hp => ?_) lit (fun b acc h => .inl h) (by rw [lq]; exact hz) fun h' tk T' k' t' o' => ?_
            · obtain ⟨e1, e2, ws, b, e3, e4, e5, e6⟩ := q1 j p e
              exact ⟨by simpa using e1, .inr ⟨ws, e4, e6⟩⟩
            · obtain ⟨j, hj⟩ := List.getElem?_of_mem hp
              exact (q1 j p hj).2.1
            · rcases o' with o' | ⟨ws, e4, e6⟩
              · have hT : H T' = none := I.hok.fresh o'
                exact ⟨.ref T', _, I.laid (t' := tk) (o := .tup wss.flatten) k' o' ⟨by rw [q2.length, lq]; exact hz, _, q2, t'⟩, rfl, out.newT hm q3 hT⟩
              · obtain rfl := Vals.inj e6 q2
                refine ⟨.ref T', H, I.kept (t' := tk) k', rfl, out _ _ (Same.refl _) ?_ fun z => Bool.noConfusion z⟩
                unfold Rep
                exact ⟨T', _, rfl, e4, q3⟩
      · cases e
    · cases e
  · cases e
end
end Y

set_option Elab.async false
set_option linter.all false
set_option maxRecDepth 100000
namespace Y
open PySem PySem.Spec PyProof.Rows L2
/-! ### a zip whose tuples are kept, over anything -/
section
variable {prog : Program} {w : World} {A : Around} {E : Value → Shared → Prop} {s : Shared} {z TI TO T i1 i2 : Addr} {fp1 fp2 : List Addr} {n1 n2 i : Nat} {P1 P2 : Nat → Value → Prop} {St1 St2 : Nat → Heap → Prop} {f : Bool} {oT : Obj}
theorem zipH_item {Q : Value → Shared → Prop} (S : ZipSep2 z TI TO i1 i2 fp1 fp2) (D1 : Draws prog w A i1 fp1 n1 P1 St1) (D2 : Draws prog w A i2 fp2 n2 P2 St2)
    (hz : IsZipHeld s.heap z TI TO T f) (hT : s.heap.get? T = some oT) (hTI : IsTupOf2 s.heap TI (.ref i1) (.ref i2)) (st1 : St1 i s.heap) (st2 : St2 i s.heap) (lt1 : i < n1) (lt2 : i < n2)
    (q : ∀ x1 x2 h' tk, P1 i x1 → P2 i x2 → IsZipHeld h' z TI TO T true → St1 (i + 1) h' → St2 (i + 1) h' → IsTupOf2 h' s.heap.objs.size x1 x2 → (∀ c o, c ≠ z → c ≠ i1 → c ≠ i2 → s.heap.get? c = some o → h'.get? c = some o) → Q (.ref s.heap.objs.size) { s with heap := h', toks := tk }) :
    wpAny (model prog w) A (Builtin.«zip.__next__» ⟨[.ref z], []⟩) (fun fin s' => ∃ v, fin = .done (.ret v) ∧ Q v s') E s := by
  obtain ⟨hp, g, d, tk0, os⟩ := s
  show wpAny _ _ (field (.ref z) 2 >>= _) _ _ _
  refine wpAny_bind (wpAny_field hz rfl (x := .bool false) rfl ?_)
  show wpAny _ _ (field (.ref z) 3 >>= _) _ _ _
  refine wpAny_bind (wpAny_field hz rfl (x := .ref TI) rfl ?_)
  refine wpAny_bind (wpAny_seqItems hTI rfl ?_)
  show wpAny _ _ (Builtin.SmallTypes.ownedTupleIsFree (.ref z) >>= _) _ _ _
  refine wpAny_bind (wpAny_tupleHeld_zip hz hT fun g0 hz0 hs0 => ?_)
  replace hs0 : Heap.SameBut z hp g0 := hs0
  simp only [Bool.false_eq_true, if_false]
  refine wpAny_bind ?_
  rw [← Array.forIn_toList]
  simp only [List.forIn_cons, List.forIn_nil]
  refine wpAny_bind (wpAny_bind (wpAny_holding ?_))
  show wpAny _ _ (Builtin.SmallTypes.nextOf (.ref i1) >>= _) _ _ ⟨g0, g, d, tk0, os⟩
  refine wpAny_bind (D1.item i _ _ _ lt1 (D1.over st1 hs0 S.zf1) fun x1 p1 tk1 y1 sn1 hp1 => wpAny_pure ?_)
  replace hp1 : Heap.SameBut i1 g0 p1 := hp1
  refine wpAny_pure ?_
  refine wpAny_bind (wpAny_bind (wpAny_holding ?_))
  show wpAny _ _ (Builtin.SmallTypes.nextOf (.ref i2) >>= _) _ _ ⟨p1, g, d, tk1, os⟩
  refine wpAny_bind (D2.item i _ _ _ lt2 (D2.over (D2.over st2 hs0 S.zf2) hp1 S.sep1_2) fun x2 p2 tk2 y2 sn2 hp2 => wpAny_pure ?_)
  replace hp2 : Heap.SameBut i2 p1 p2 := hp2
  refine wpAny_pure (wpAny_pure ?_)
  show wpAny _ _ (newTuple [x1, x2] >>= _) _ _ ⟨p2, g, d, tk2, os⟩
  refine wpAny_bind (wpAny_newTuple ?_)
  have es : p2.objs.size = hp.objs.size := by rw [hp2.1, hp1.1, hs0.1]
  have hz3 : IsZipHeld p2 z TI TO T true := hp2.extBut _ _ S.zi2 (hp1.extBut _ _ S.zi1 hz0)
  have hk : ∀ c o, c ≠ z → c ≠ i1 → c ≠ i2 → hp.get? c = some o → p2.get? c = some o := fun c o c1 c2 c3 e => hp2.extBut _ _ c3 (hp1.extBut _ _ c2 (hs0.extBut _ _ c1 e))
  have j1 : St1 (i + 1) p2 := D1.over sn1 hp2 S.sep2_1
  refine wpAny_pure ⟨_, rfl, ?_⟩
  show Q (.ref p2.objs.size) _
  have hT2 : IsTupOf2 (p2.push { cls := .type "tuple", data := .seq #[x1, x2] }) p2.objs.size x1 x2 := Heap.get?_push_size _ rfl
  rw [es] at hT2 ⊢
  exact q x1 x2 _ tk2 y1 y2 (Heap.get?_push_of_some _ hz3) (D1.frame _ _ _ j1 fun b _ o e => Heap.get?_push_of_some _ e) (D2.frame _ _ _ sn2 fun b _ o e => Heap.get?_push_of_some _ e) hT2 fun c o c1 c2 c3 e => Heap.get?_push_of_some _ (hk c o c1 c2 c3 e)
theorem zipH_end {Q : PySem.Fin → Shared → Prop} (S : ZipSep2 z TI TO i1 i2 fp1 fp2) (D1 : Draws prog w A i1 fp1 n1 P1 St1) (D2 : Draws prog w A i2 fp2 n2 P2 St2)
    (hz : IsZipHeld s.heap z TI TO T f) (hT : s.heap.get? T = some oT) (hTI : IsTupOf2 s.heap TI (.ref i1) (.ref i2)) (st1 : St1 i s.heap) (st2 : St2 i s.heap) (le1 : i ≤ n1) (le2 : i ≤ n2) (hend : i = n1 ∨ i = n2)
    (q : ∀ h' tk e, (∀ c o, c ≠ z → c ≠ i1 → c ≠ i2 → s.heap.get? c = some o → h'.get? c = some o) → (∃ o, h'.get? e = some o ∧ o.cls = .type "StopIteration") → E (.ref e) { s with heap := h', toks := tk }) :
    wpAny (model prog w) A (Builtin.«zip.__next__» ⟨[.ref z], []⟩) Q E s := by
  obtain ⟨hp, g, d, tk0, os⟩ := s
  show wpAny _ _ (field (.ref z) 2 >>= _) _ _ _
  refine wpAny_bind (wpAny_field hz rfl (x := .bool false) rfl ?_)
  show wpAny _ _ (field (.ref z) 3 >>= _) _ _ _
  refine wpAny_bind (wpAny_field hz rfl (x := .ref TI) rfl ?_)
  refine wpAny_bind (wpAny_seqItems hTI rfl ?_)
  show wpAny _ _ (Builtin.SmallTypes.ownedTupleIsFree (.ref z) >>= _) _ _ _
  refine wpAny_bind (wpAny_tupleHeld_zip hz hT fun g0 hz0 hs0 => ?_)
  replace hs0 : Heap.SameBut z hp g0 := hs0
  simp only [Bool.false_eq_true, if_false]
  refine wpAny_bind ?_
  rw [← Array.forIn_toList]
  simp only [List.forIn_cons, List.forIn_nil]
  refine wpAny_bind (wpAny_bind (wpAny_holding ?_))
  show wpAny _ _ (Builtin.SmallTypes.nextOf (.ref i1) >>= _) _ _ ⟨g0, g, d, tk0, os⟩
  by_cases lt1 : i < n1
  · refine wpAny_bind (D1.item i _ _ _ lt1 (D1.over st1 hs0 S.zf1) fun x1 p1 tk1 y1 sn1 hp1 => wpAny_pure ?_)
    replace hp1 : Heap.SameBut i1 g0 p1 := hp1
    have e2 : i = n2 := by omega
    refine wpAny_pure ?_
    refine wpAny_bind (wpAny_bind (wpAny_holding ?_))
    show wpAny _ _ (Builtin.SmallTypes.nextOf (.ref i2) >>= _) _ _ ⟨p1, g, d, tk1, os⟩
    refine wpAny_bind (D2.done ⟨p1, g, d, tk1, os⟩ _ _ (by rw [← e2]; exact D2.over (D2.over st2 hs0 S.zf2) hp1 S.sep1_2) fun h' e hq he => ?_)
    replace hq : Heap.ExtBut i2 p1 h' := hq
    exact q h' tk1 e (fun c o c1 c2 c3 x => hq _ _ c3 (hp1.extBut _ _ c2 (hs0.extBut _ _ c1 x))) he
  · have e1 : i = n1 := by omega
    refine wpAny_bind (D1.done ⟨g0, g, d, tk0, os⟩ _ _ (by rw [← e1]; exact D1.over st1 hs0 S.zf1) fun h' e hq he => ?_)
    replace hq : Heap.ExtBut i1 g0 h' := hq
    exact q h' tk0 e (fun c o c1 c2 c3 x => hq _ _ c2 (hs0.extBut _ _ c1 x)) he
theorem next_zipH_item {Q : Option Value → Shared → Prop} (S : ZipSep2 z TI TO i1 i2 fp1 fp2) (D1 : Draws prog w A.in1 i1 fp1 n1 P1 St1) (D2 : Draws prog w A.in1 i2 fp2 n2 P2 St2)
    (hz : IsZipHeld s.heap z TI TO T f) (hT : s.heap.get? T = some oT) (hTI : IsTupOf2 s.heap TI (.ref i1) (.ref i2)) (st1 : St1 i s.heap) (st2 : St2 i s.heap) (lt1 : i < n1) (lt2 : i < n2)
    (q : ∀ x1 x2 h' tk, P1 i x1 → P2 i x2 → IsZipHeld h' z TI TO T true → St1 (i + 1) h' → St2 (i + 1) h' → IsTupOf2 h' s.heap.objs.size x1 x2 → (∀ c o, c ≠ z → c ≠ i1 → c ≠ i2 → s.heap.get? c = some o → h'.get? c = some o) → Q (some (.ref s.heap.objs.size)) { s with heap := h', toks := tk }) :
    wpAny (model prog w) A (pyNext (.ref z)) Q E s := by
  have ty : s.TypeIs (.ref z) "zip" := ⟨_, hz, rfl⟩
  unfold pyNext
  exact wpAny_bind (wpAny_attempt (wpAny_callSpecial?_slot (name := Str.ofString "__next__") ty F.slot_zip_next (wpAny_call_entry F.slot_zip_next ty F.entry_zip_next
      (zipH_item S D1 D2 hz hT hTI st1 st2 lt1 lt2 fun x1 x2 h' tk y1 y2 a b c e k => wpAny_pure (q x1 x2 h' tk y1 y2 a b c e k)) (F.args_zip_next_1 _))))
theorem next_zipH_end {Q : Option Value → Shared → Prop} (S : ZipSep2 z TI TO i1 i2 fp1 fp2) (D1 : Draws prog w A.in1 i1 fp1 n1 P1 St1) (D2 : Draws prog w A.in1 i2 fp2 n2 P2 St2)
    (hz : IsZipHeld s.heap z TI TO T f) (hT : s.heap.get? T = some oT) (hTI : IsTupOf2 s.heap TI (.ref i1) (.ref i2)) (st1 : St1 i s.heap) (st2 : St2 i s.heap) (le1 : i ≤ n1) (le2 : i ≤ n2) (hend : i = n1 ∨ i = n2)
    (q : ∀ h' tk, (∀ c o, c ≠ z → c ≠ i1 → c ≠ i2 → s.heap.get? c = some o → h'.get? c = some o) → Q none { s with heap := h', toks := tk }) : wpAny (model prog w) A (pyNext (.ref z)) Q E s := by
  have ty : s.TypeIs (.ref z) "zip" := ⟨_, hz, rfl⟩
  unfold pyNext
  refine wpAny_bind (wpAny_attempt (wpAny_callSpecial?_slot (name := Str.ofString "__next__") ty F.slot_zip_next (wpAny_call_entry F.slot_zip_next ty F.entry_zip_next
    (zipH_end S D1 D2 hz hT hTI st1 st2 le1 le2 hend fun h' tk e hk he => ?_) (F.args_zip_next_1 _))))
  obtain ⟨o, ho, hc⟩ := he
  refine wpAny_bind (wpAny_isInstance (T := "StopIteration") (b := true) ⟨o, ho, hc⟩ isSubtype_stop ?_)
  exact wpAny_pure (q _ _ hk)
end
end Y

set_option Elab.async false
set_option linter.all false
set_option maxRecDepth 100000
namespace Y
open PySem PySem.Spec PyProof.Rows L2
/-! ### list(zip(a, b)) -/
theorem zip_no_len : typeLookup (.type "zip") "__len__" = pure none := am_miss_of_fast (by decide +kernel)
theorem zip_no_hint : typeLookup (.type "zip") "__length_hint__" = pure none := am_miss_of_fast (by decide +kernel)
section
variable {prog : Program} {w : World} {A : Around} {E : Value → Shared → Prop} {s : Shared}
theorem zip_hint {r : Addr} {Q : Bool → Shared → Prop} (hT : s.TypeIs (.ref r) "zip") (h : Q true s) : wpAny (model prog w) A (Builtin.List.listLengthHint (.ref r)) Q E s := by
  unfold Builtin.List.listLengthHint
  exact wpAny_bind (wpAny_specialOf hT zip_no_len (wpAny_bind (wpAny_specialOf hT zip_no_hint (wpAny_pure h))))
end
section
variable {prog : Program} {w : World} {A : Around} {E : Value → Shared → Prop} {s : Shared} {R : Result → Shared → Prop} {z TI TO i1 i2 S : Addr} {fp1 fp2 : List Addr} {n1 n2 i : Nat} {P1 P2 : Nat → Value → Prop} {St1 St2 : Nat → Heap → Prop}
/-- i pairs are out -/
def ZSt (z TI TO i1 i2 S : Addr) (St1 St2 : Nat → Heap → Prop) (i : Nat) (h : Heap) : Prop := IsTupOf2 h TI (.ref i1) (.ref i2) ∧ St1 i h ∧ St2 i h ∧
  ((IsZip h z TI TO .none ∧ ∃ a b, IsTupOf2 h TO a b) ∨ ∃ T f oT, IsZipHeld h z TI TO T f ∧ h.get? T = some oT ∧ T ≠ z ∧ T ≠ i1 ∧ T ≠ i2 ∧ T ≠ S)
theorem ZSt.ty {h : Heap} (x : ZSt z TI TO i1 i2 S St1 St2 i h) : ∃ o, h.get? z = some o ∧ o.cls = .type "zip" := by
  rcases x.2.2.2 with ⟨e, _⟩ | ⟨T, f, oT, e, _⟩
  · exact ⟨_, e, rfl⟩
  · exact ⟨_, e, rfl⟩
theorem ZSt.stay (Sp : ZipSep2 z TI TO i1 i2 fp1 fp2) (D1 : Draws prog w A i1 fp1 n1 P1 St1) (D2 : Draws prog w A i2 fp2 n2 P2 St2) {h h' : Heap} (x : ZSt z TI TO i1 i2 S St1 St2 i h) (nz : S ≠ z) (nI : S ≠ TI) (nO : S ≠ TO) (n1' : S ∉ fp1) (n2' : S ∉ fp2)
    (k : ∀ b o, b ≠ S → h.get? b = some o → h'.get? b = some o) : ZSt z TI TO i1 i2 S St1 St2 i h' := by
  obtain ⟨a, b, c, d⟩ := x
  refine ⟨k _ _ nI.symm a, D1.frame _ _ _ b fun q hq o e => k q o (fun e2 => n1' (e2 ▸ hq)) e, D2.frame _ _ _ c fun q hq o e => k q o (fun e2 => n2' (e2 ▸ hq)) e, ?_⟩
  rcases d with ⟨d1, y1, y2, d2⟩ | ⟨T, f, oT, d1, d2, d3, d4, d5, d6⟩
  · exact .inl ⟨k _ _ nz.symm d1, y1, y2, k _ _ nO.symm d2⟩
  · exact .inr ⟨T, f, oT, k _ _ nz.symm d1, k _ _ d6 d2, d3, d4, d5, d6⟩
theorem zl_item {Q : Option Value → Shared → Prop} (Sp : ZipSep2 z TI TO i1 i2 fp1 fp2) (D1 : Draws prog w A.in1 i1 fp1 n1 P1 St1) (D2 : Draws prog w A.in1 i2 fp2 n2 P2 St2) (x : ZSt z TI TO i1 i2 S St1 St2 i s.heap) (ls : S < s.heap.objs.size) (lt1 : i < n1) (lt2 : i < n2)
    (q : ∀ x1 x2 h' tk, P1 i x1 → P2 i x2 → ZSt z TI TO i1 i2 S St1 St2 (i + 1) h' → IsTupOf2 h' s.heap.objs.size x1 x2 → (∀ c o, c ≠ z → c ≠ TO → c ≠ i1 → c ≠ i2 → s.heap.get? c = some o → h'.get? c = some o) → Q (some (.ref s.heap.objs.size)) { s with heap := h', toks := tk }) :
    wpAny (model prog w) A (pyNext (.ref z)) Q E s := by
  obtain ⟨a, b, c, d⟩ := x
  have ne : ∀ {c : Addr} {o : Obj}, s.heap.get? c = some o → s.heap.objs.size ≠ c := fun e => Nat.ne_of_gt (Heap.lt_size e)
  obtain ⟨_, l1⟩ := D1.live _ _ b
  obtain ⟨_, l2⟩ := D2.live _ _ c
  rcases d with ⟨d1, y1, y2, d2⟩ | ⟨T, f, oT, d1, d2, d3, d4, d5, d6⟩
  · refine wpAny_pyNext_zipD2_item Sp D1 D2 d1 a d2 b c lt1 lt2 fun x1 x2 h' tk p1 p2 z' O' s1 s2 t' sz k => ?_
    exact q x1 x2 h' tk p1 p2 ⟨k _ _ Sp.TIz Sp.TITO Sp.TIi1 Sp.TIi2 a, s1, s2, .inr ⟨s.heap.objs.size, false, _, z', t', ne d1, ne l1, ne l2, Nat.ne_of_gt ls⟩⟩ t' k
  · refine next_zipH_item Sp D1 D2 d1 d2 a b c lt1 lt2 fun x1 x2 h' tk p1 p2 z' s1 s2 t' k => ?_
    exact q x1 x2 h' tk p1 p2 ⟨k _ _ Sp.TIz Sp.TIi1 Sp.TIi2 a, s1, s2, .inr ⟨T, true, oT, z', k _ _ d3 d4 d5 d2, d3, d4, d5, d6⟩⟩ t' fun c o c1 _ c3 c4 e => k c o c1 c3 c4 e
theorem zl_end {Q : Option Value → Shared → Prop} (Sp : ZipSep2 z TI TO i1 i2 fp1 fp2) (D1 : Draws prog w A.in1 i1 fp1 n1 P1 St1) (D2 : Draws prog w A.in1 i2 fp2 n2 P2 St2) (x : ZSt z TI TO i1 i2 S St1 St2 i s.heap) (le1 : i ≤ n1) (le2 : i ≤ n2) (hend : i = n1 ∨ i = n2)
    (q : ∀ h' tk, (∀ c o, c ≠ z → c ≠ TO → c ≠ i1 → c ≠ i2 → s.heap.get? c = some o → h'.get? c = some o) → Q none { s with heap := h', toks := tk }) : wpAny (model prog w) A (pyNext (.ref z)) Q E s := by
  obtain ⟨a, b, c, d⟩ := x
  rcases d with ⟨d1, y1, y2, d2⟩ | ⟨T, f, oT, d1, d2, d3, d4, d5, d6⟩
  · exact wpAny_pyNext_zipD2_end Sp D1 D2 d1 a d2 b c le1 le2 hend q
  · exact next_zipH_end Sp D1 D2 d1 d2 a b c le1 le2 hend fun h' tk k => q h' tk fun c o c1 _ c3 c4 e => k c o c1 c3 c4 e
/-- the pairs that are out -/
structure ZG (P1 P2 : Nat → Value → Prop) (lo : Addr) (h : Heap) (as : List Addr) : Prop where
  rise : as.Pairwise (· < ·)
  above : ∀ a ∈ as, lo < a
  pairs : ∀ (j : Nat) (a : Addr), as[j]? = some a → ∃ x y, P1 j x ∧ P2 j y ∧ IsTupOf2 h a x y
theorem ZG.there {lo : Addr} {h : Heap} {as : List Addr} (g : ZG P1 P2 lo h as) {a : Addr} (ha : a ∈ as) : a < h.objs.size := by
  obtain ⟨j, hj⟩ := List.mem_iff_getElem?.mp ha
  obtain ⟨_, _, _, _, e⟩ := g.pairs j a hj
  exact Heap.lt_size e
theorem zl_loop (Sp : ZipSep2 z TI TO i1 i2 fp1 fp2) (D1 : Draws prog w A.in1.in1 i1 fp1 n1 P1 St1) (D2 : Draws prog w A.in1.in1 i2 fp2 n2 P2 St2) (nz : S ≠ z) (nI : S ≠ TI) (nO : S ≠ TO) (n1' : S ∉ fp1) (n2' : S ∉ fp2) {lo : Addr} (lz : z ≤ lo) (lO : TO ≤ lo) (l1 : i1 ≤ lo) (l2 : i2 ≤ lo) (lS : S ≤ lo) (hn : min n1 n2 ≤ sizeLine) (res : Value) {h₁ : Heap}
    (hR : ∀ h' tk acc c as, (∀ b o, b ≠ S → b ≠ z → b ≠ TO → b ≠ i1 → b ≠ i2 → h₁.get? b = some o → h'.get? b = some o) → h'.get? S = some { cls := .type "list", dict := none, data := .seq acc c, slots := #[] } → as.length = min n1 n2 → ZG P1 P2 lo h' as → acc.toList = as.map Value.ref → R (.ok (.ret res)) { s with heap := h', toks := tk }) :
    ∀ (k i : Nat) (h : Heap) (tk c : Nat) (acc : Array Value) (as : List Addr), min n1 n2 - i = k → i ≤ min n1 n2 → ZSt z TI TO i1 i2 S St1 St2 i h → (∀ b o, b ≠ S → b ≠ z → b ≠ TO → b ≠ i1 → b ≠ i2 → h₁.get? b = some o → h.get? b = some o) →
      h.get? S = some { cls := .type "list", dict := none, data := .seq acc c, slots := #[] } → acc.toList = as.map Value.ref → as.length = i → ZG P1 P2 lo h as → lo < h.objs.size →
      codeAny (model prog w) A (.builtin "list.extend.loop" ⟨[.ref S, .ref z, res], []⟩) R { s with heap := h, toks := tk } := by
  have nf1 : S ≠ i1 := fun e => n1' (e ▸ Sp.mem1)
  have nf2 : S ≠ i2 := fun e => n2' (e ▸ Sp.mem2)
  intro k
  induction k with
  | zero =>
    intro i h tk c acc as hk hi hst hkeep hS hacc hal hG hlo
    refine codeAny_builtin PySem.F.entry_extend_loop ?_
    rw [Around.under_plainId PySem.F.plain_extend_loop _]
    show wpAny _ A.in1 (pyNext (.ref z) >>= _) _ _ _
    refine wpAny_bind (zl_end (s := { s with heap := h, toks := tk }) (A := A.in1) Sp D1 D2 hst (by omega) (by omega) (by omega) fun h' tk' he => ?_)
    refine wpAny_pure (hR h' tk' acc c as (fun b o h1 h2 h3 h4 h5 e => he b o h2 h3 h4 h5 (hkeep b o h1 h2 h3 h4 h5 e)) (he S _ nz nO nf1 nf2 hS) (by omega) ⟨hG.rise, hG.above, fun j a hj => ?_⟩ hacc)
    obtain ⟨x, y, e1, e2, e3⟩ := hG.pairs j a hj
    have ab := hG.above a (List.mem_of_getElem? hj)
    exact ⟨x, y, e1, e2, he a _ (Nat.ne_of_gt (Nat.lt_of_le_of_lt lz ab)) (Nat.ne_of_gt (Nat.lt_of_le_of_lt lO ab)) (Nat.ne_of_gt (Nat.lt_of_le_of_lt l1 ab)) (Nat.ne_of_gt (Nat.lt_of_le_of_lt l2 ab)) e3⟩
  | succ k ih =>
    intro i h tk c acc as hk hi hst hkeep hS hacc hal hG hlo
    have hsz : acc.size = i := by rw [← Array.length_toList, hacc, List.length_map, hal]
    refine codeAny_builtin PySem.F.entry_extend_loop ?_
    rw [Around.under_plainId PySem.F.plain_extend_loop _]
    show wpAny _ A.in1 (pyNext (.ref z) >>= _) _ _ _
    refine wpAny_bind (zl_item (s := { s with heap := h, toks := tk }) (A := A.in1) Sp D1 D2 hst (Heap.lt_size hS) (by omega) (by omega) fun x1 x2 h' tk' p1 p2 hst' ht hkp => ?_)
    dsimp only at ht hkp ⊢
    have hS' := hkp S _ nz nO nf1 nf2 hS
    have up : ∀ b o, b ≠ S → h'.get? b = some o → (h'.update S (Obj.mapSeq (·.push (Value.ref h.objs.size)))).get? b = some o := fun b o hb e => (Heap.get?_update_other _ _ (Ne.symm hb)).trans e
    have hSl : S < h.objs.size := Heap.lt_size hS
    show wpAny _ A.in1 (updateSeq S (·.push (Value.ref h.objs.size)) >>= _) _ _ _
    refine wpAny_bind ?_
    refine wpAny_updateSeq hS' rfl (wpAny_pure ⟨plainId_quiet PySem.F.plain_extend_loop _, ih (i + 1) _ tk' _ (acc.push (Value.ref h.objs.size)) (as ++ [h.objs.size]) (by omega) (by omega) (hst'.stay Sp D1 D2 nz nI nO n1' n2' up)
      (fun b o h1 h2 h3 h4 h5 e => up b o h1 (hkp b o h2 h3 h4 h5 (hkeep b o h1 h2 h3 h4 h5 e))) (Heap.get?_update_self _ hS' rfl) (by rw [Array.toList_push, hacc, List.map_append]; rfl) (by rw [List.length_append, hal]; rfl) ⟨?_, ?_, ?_⟩ ?_⟩) (by rw [hsz]; omega) (by show (acc.push (Value.ref h.objs.size)).size ≤ sizeLine + 1; rw [Array.size_push, hsz]; omega)
    · refine List.pairwise_append.mpr ⟨hG.rise, List.pairwise_singleton _ _, fun a ha b hb => ?_⟩
      rw [List.mem_singleton.mp hb]
      exact hG.there ha
    · intro a ha
      rcases List.mem_append.mp ha with ha | ha
      · exact hG.above a ha
      · rw [List.mem_singleton.mp ha]; exact hlo
    · intro j b hj
      rcases Nat.lt_trichotomy j as.length with h1 | h1 | h1
      · rw [List.getElem?_append_left h1] at hj
        obtain ⟨x, y, e1, e2, e3⟩ := hG.pairs j b hj
        have ab := hG.above b (List.mem_of_getElem? hj)
        exact ⟨x, y, e1, e2, up b _ (Nat.ne_of_gt (Nat.lt_of_le_of_lt lS ab)) (hkp b _ (Nat.ne_of_gt (Nat.lt_of_le_of_lt lz ab)) (Nat.ne_of_gt (Nat.lt_of_le_of_lt lO ab)) (Nat.ne_of_gt (Nat.lt_of_le_of_lt l1 ab)) (Nat.ne_of_gt (Nat.lt_of_le_of_lt l2 ab)) e3)⟩
      · subst h1
        have hb : h.objs.size = b := by simpa using hj
        subst hb
        subst hal
        exact ⟨x1, x2, p1, p2, up _ _ (Nat.ne_of_gt hSl) ht⟩
      · have hnone : (as ++ [h.objs.size])[j]? = none := List.getElem?_eq_none (by rw [List.length_append, List.length_singleton]; omega)
        rw [hnone] at hj; cases hj
    · have e : (h'.update S (Obj.mapSeq (·.push (Value.ref h.objs.size)))).get? h.objs.size = _ := up _ _ (Nat.ne_of_gt hSl) ht
      exact Nat.lt_trans hlo (Heap.lt_size e)
theorem zl_extend (Sp : ZipSep2 z TI TO i1 i2 fp1 fp2) (D1 : Draws prog w A.in1.in1 i1 fp1 n1 P1 St1) (D2 : Draws prog w A.in1.in1 i2 fp2 n2 P2 St2) (nI : S ≠ TI) (n1' : S ∉ fp1) (n2' : S ∉ fp2) (lz : z < S) (lO : TO < S) (hn : min n1 n2 ≤ sizeLine) (res : Value)
    (hz : IsZip s.heap z TI TO .none) (hI : IsTupOf2 s.heap TI (.ref i1) (.ref i2)) (hO : ∃ a b, IsTupOf2 s.heap TO a b) (s1 : St1 0 s.heap) (s2 : St2 0 s.heap) (l1 : i1 ≤ S) (l2 : i2 ≤ S) (c₀ : Nat) (hS : s.heap.get? S = some { cls := .type "list", data := .seq #[] c₀ })
    (hR : ∀ h' tk acc c as, (∀ b o, b ≠ S → b ≠ z → b ≠ TO → b ≠ i1 → b ≠ i2 → s.heap.get? b = some o → h'.get? b = some o) → h'.get? S = some { cls := .type "list", dict := none, data := .seq acc c, slots := #[] } → as.length = min n1 n2 → ZG P1 P2 S h' as → acc.toList = as.map Value.ref → R (.ok (.ret res)) { s with heap := h', toks := tk }) :
    wpAny (model prog w) A.in1 (Builtin.List.listExtendWith (.ref S) (.ref z) res)
      (fun fin s' => match fin with | .done f => R (.ok f) s' | .again c' => c'.quiet = true ∧ codeAny (model prog w) A c' R s') (fun e s' => R (.error e) s') s := by
  have nz : S ≠ z := Nat.ne_of_gt lz
  have nO : S ≠ TO := Nat.ne_of_gt lO
  have key : ∀ (h : Heap) (c₁ tk : Nat), (∀ b o, b ≠ S → s.heap.get? b = some o → h.get? b = some o) → h.get? S = some { cls := .type "list", data := .seq #[] c₁ } → codeAny (model prog w) A (.builtin "list.extend.loop" ⟨[.ref S, .ref z, res], []⟩) R { s with heap := h, toks := tk } := by
    intro h c₁ tk hk hS₁
    have st0 : ZSt z TI TO i1 i2 S St1 St2 0 s.heap := ⟨hI, s1, s2, .inl ⟨hz, hO⟩⟩
    exact zl_loop (s := s) (h₁ := s.heap) Sp D1 D2 nz nI nO n1' n2' (lo := S) (Nat.le_of_lt lz) (Nat.le_of_lt lO) l1 l2 (Nat.le_refl _) hn res hR
      (min n1 n2) 0 h tk c₁ #[] [] (Nat.sub_zero _) (Nat.zero_le _) (st0.stay Sp D1 D2 nz nI nO n1' n2' hk) (fun b o hb _ _ _ _ e => hk b o hb e) hS₁ rfl rfl
      ⟨List.Pairwise.nil, (fun _ ha => nomatch ha), (fun j a hj => by simp at hj)⟩ (Heap.lt_size hS₁)
  have ty : s.TypeIs (.ref z) "zip" := ⟨_, hz, rfl⟩
  unfold Builtin.List.listExtendWith
  refine wpAny_bind (wpAny_typeOf (T := "zip") ty ?_)
  have h1 : Builtin.List.listSameRef (.ref S) (.ref z) = false := by simp [Builtin.List.listSameRef, nz]
  have h2 : (Value.type "zip" == Value.type "list") = false := by decide
  have h3 : (Value.type "zip" == Value.type "tuple") = false := by decide
  simp only [h1, h2, h3, Bool.or_false, Bool.false_eq_true, if_false]
  refine wpAny_bind (wpAny_pyIter_zip hz ?_)
  refine wpAny_bind (wpAny_holding (zip_hint ty ?_))
  simp only [Bool.true_or, if_true]
  refine wpAny_bind (wpAny_rule ?_)
  refine wpAny_bind ?_
  show wpAny _ _ (updateSeq S (·.push .none) >>= fun _ => updateSeq S (·.pop)) _ _ _
  refine wpAny_bind (wpAny_updateSeq hS rfl ?_)
  have hS₂ := Heap.get?_update_self (Obj.mapSeq (·.push Value.none)) hS rfl
  refine wpAny_updateSeq (hz := by seq_fits) hS₂ rfl ?_
  have hS₃ := Heap.get?_update_self (Obj.mapSeq (·.pop)) hS₂ rfl
  refine wpAny_pure ⟨plainId_quiet PySem.F.plain_extend_loop _, key _ _ _ (fun b o hb e => ?_) hS₃⟩
  exact (Heap.get?_update_other _ _ (Ne.symm hb)).trans ((Heap.get?_update_other _ _ (Ne.symm hb)).trans e)
theorem zl_call {Q : Value → Shared → Prop} (Sp : ZipSep2 z TI TO i1 i2 fp1 fp2) (D1 : Draws prog w A.in1.in1.in1 i1 fp1 n1 P1 St1) (D2 : Draws prog w A.in1.in1.in1 i2 fp2 n2 P2 St2) (f1 : ∀ b ∈ fp1, b < s.heap.objs.size) (f2 : ∀ b ∈ fp2, b < s.heap.objs.size) (hn : min n1 n2 ≤ sizeLine)
    (hz : IsZip s.heap z TI TO .none) (hI : IsTupOf2 s.heap TI (.ref i1) (.ref i2)) (hO : ∃ a b, IsTupOf2 s.heap TO a b) (s1 : St1 0 s.heap) (s2 : St2 0 s.heap)
    (hQ : ∀ h' tk acc c as, (∀ b o, b ≠ z → b ≠ TO → b ≠ i1 → b ≠ i2 → s.heap.get? b = some o → h'.get? b = some o) → h'.get? s.heap.objs.size = some { cls := .type "list", dict := none, data := .seq acc c, slots := #[] } → as.length = min n1 n2 → ZG P1 P2 s.heap.objs.size h' as →
      acc.toList = as.map Value.ref → Q (.ref s.heap.objs.size) { s with heap := h', toks := tk }) : wpAny (model prog w) A (call (.type "list") [.ref z]) Q E s := by
  refine callType_codes (Q₁ := fun obj s₁ => obj = .ref s.heap.objs.size ∧ s₁ = { s with heap := s.heap.push { cls := .type "list", data := .seq #[] } }) PySem.F.called_list (PySem.F.typeCall_list_1 _) PySem.F.entry_list_init
    (code_list_new _ ⟨rfl, rfl⟩) fun obj s₁ h₁ => ?_
  obtain ⟨rfl, rfl⟩ := h₁
  have hS : (s.heap.push { cls := .type "list", data := .seq #[] }).get? s.heap.objs.size = some { cls := .type "list", data := .seq #[] } := Heap.get?_push_size _ rfl
  have lz : z < s.heap.objs.size := Heap.lt_size hz
  have lI : TI < s.heap.objs.size := Heap.lt_size hI
  have lO : TO < s.heap.objs.size := by obtain ⟨_, _, e⟩ := hO; exact Heap.lt_size e
  have up : ∀ b o, s.heap.get? b = some o → (s.heap.push { cls := .type "list", data := .seq #[] }).get? b = some o := fun b o e => Heap.get?_push_of_some _ e
  refine ⟨⟨_, hS, rfl⟩, PySem.F.args_list_init_2 _ _, ?_⟩
  show wpAny _ _ (do let old ← Builtin.List.listItems (.ref s.heap.objs.size); Builtin.List.listUpdate (.ref s.heap.objs.size) (fun _ => #[]); letGo old.toList.reverse; Builtin.List.listExtendWith (.ref s.heap.objs.size) (.ref z) .none) _ _ _
  refine wpAny_bind ?_
  unfold Builtin.List.listItems
  refine wpAny_bind (wpAny_seqItems hS rfl (wpAny_pure ?_))
  show wpAny _ _ (updateSeq s.heap.objs.size (fun _ => #[]) >>= fun _ => letGo (#[] : Array Value).toList.reverse >>= fun _ => Builtin.List.listExtendWith (.ref s.heap.objs.size) (.ref z) .none) _ _ _
  refine wpAny_bind (wpAny_updateSeq hS rfl ?_)
  have hS₂ := Heap.get?_update_self (Obj.mapSeq (fun _ => (#[] : Array Value))) hS rfl
  have oth : ∀ b o, b ≠ s.heap.objs.size → (s.heap.push { cls := .type "list", data := .seq #[] }).get? b = some o → ((s.heap.push { cls := .type "list", data := .seq #[] }).update s.heap.objs.size (Obj.mapSeq (fun _ => (#[] : Array Value)))).get? b = some o :=
    fun b o hb e => (Heap.get?_update_other _ _ (Ne.symm hb)).trans e
  have go : ∀ b o, b < s.heap.objs.size → s.heap.get? b = some o → ((s.heap.push { cls := .type "list", data := .seq #[] }).update s.heap.objs.size (Obj.mapSeq (fun _ => (#[] : Array Value)))).get? b = some o := fun b o l e => oth b o (Nat.ne_of_lt l) (up b o e)
  refine wpAny_bind (wpAny_letGo ?_)
  obtain ⟨oa, ob, hO⟩ := hO
  refine zl_extend (A := A.in1) Sp D1 D2 (Nat.ne_of_gt lI) (fun q => Nat.lt_irrefl _ (f1 _ q)) (fun q => Nat.lt_irrefl _ (f2 _ q)) lz lO hn .none (go _ _ lz hz) (go _ _ lI hI) ⟨oa, ob, go _ _ lO hO⟩ (D1.frame _ _ _ s1 fun b hb o e => go b o (f1 b hb) e) (D2.frame _ _ _ s2 fun b hb o e => go b o (f2 b hb) e)
    (Nat.le_of_lt (f1 _ Sp.mem1)) (Nat.le_of_lt (f2 _ Sp.mem2)) _ hS₂ fun h' tk acc c as hk hS' hl hG hacc => ?_
  exact ⟨rfl, hQ h' tk acc c as (fun b o b1 b2 b3 b4 e => hk b o (Nat.ne_of_lt (Heap.lt_size e)) b1 b2 b3 b4 (go b o (Heap.lt_size e) e)) hS' hl hG hacc⟩
end
end Y

set_option Elab.async false
set_option linter.all false
set_option maxRecDepth 100000
namespace Y
open PySem PySem.Spec PyProof.Rows L2
/-! ### list(zip(a, b)): the layer's rule -/
def putP : Hp → List Addr → List (V × V) → Hp
  | H, a :: as, p :: ps => putP (upd H a (.tup [p.1, p.2])) as ps
  | H, _, _ => H
theorem putP_off {b : Addr} : ∀ {as : List Addr} {ps : List (V × V)} {H : Hp}, b ∉ as → putP H as ps b = H b
  | [], _, _, _ => rfl
  | _ :: _, [], _, _ => rfl
  | a :: as, p :: ps, H, h => (putP_off (fun z => h (List.mem_cons_of_mem _ z))).trans (upd_ne fun z => h (by rw [z]; exact List.mem_cons_self))
theorem putP_at : ∀ {as : List Addr} {ps : List (V × V)} {H : Hp} {j : Nat} {a : Addr}, as.length = ps.length → as.Nodup → as[j]? = some a → ∃ q, ps[j]? = some q ∧ putP H as ps a = some (.tup [q.1, q.2])
  | [], _, _, j, a, _, _, e => by simp at e
  | _ :: _, [], _, _, _, l, _, _ => by simp at l
  | x :: as, p :: ps, H, 0, a, l, nd, e => by
    simp at e
    subst e
    exact ⟨p, rfl, (putP_off (List.nodup_cons.mp nd).1).trans upd_same⟩
  | x :: as, p :: ps, H, j + 1, a, l, nd, e => putP_at (H := upd H x (.tup [p.1, p.2])) (by simpa using l) (List.nodup_cons.mp nd).2 (by simpa using e)
def tListZip (K : PySem.W.Frag) (ta : TA) : TE := fun σ H Q => ta σ H fun vs H1 => ∃ k1 k2 xs ys, vs = [Kd.val k1, Kd.val k2] ∧ k1.has K H1 xs ∧ k2.has K H1 ys ∧ (xs.zip ys).length ≤ sizeLine ∧
  ∀ (H' : Hp) (p : Addr) (as : List Addr), (∀ b o, H1 b = some o → H' b = some o) → H1 p = none → H' p = some (.lst (as.map V.ref)) → as.length = (xs.zip ys).length → (∀ (j : Nat) (a : Addr), as[j]? = some a → ∃ q, (xs.zip ys)[j]? = some q ∧ H' a = some (.tup [q.1, q.2])) → Q (.ref p) H'
section
variable {X : Cx} {pins : List (Addr × Obj)} {σ : L2.St} {H : Hp} {s : Shared}
theorem zip_laid {h' : Heap} {tk : Nat} {xs ys : List V} {acc : Array Value} {c : Nat} {as : List Addr} {p : Addr} (I : Inv X pins σ H s) (hp : s.heap.objs.size ≤ p) (hz : (xs.zip ys).length ≤ sizeLine) (hk : ∀ b o, s.heap.get? b = some o → h'.get? b = some o)
    (hS : h'.get? p = some { cls := .type "list", dict := none, data := .seq acc c, slots := #[] }) (hl : as.length = (xs.zip ys).length) (rise : as.Pairwise (· < ·)) (above : ∀ a ∈ as, p < a)
    (hG : ∀ (j : Nat) (a : Addr), as[j]? = some a → ∃ u v x y, IsTupOf2 h' a u v ∧ (xs.zip ys)[j]? = some (x, y) ∧ RelV x u ∧ RelV y v) (hacc : acc.toList = as.map Value.ref) :
    ∃ H' : Hp, (∀ b o, H b = some o → H' b = some o) ∧ H p = none ∧ H' p = some (.lst (as.map V.ref)) ∧ (∀ (j : Nat) (a : Addr), as[j]? = some a → ∃ q, (xs.zip ys)[j]? = some q ∧ H' a = some (.tup [q.1, q.2])) ∧ Inv X pins σ H' { s with heap := h', toks := tk } := by
  have nS : p ∉ as := fun z => Nat.lt_irrefl _ (above _ z)
  have nd : as.Nodup := rise.imp fun h => Nat.ne_of_lt h
  have new : ∀ t ∈ as, H t = none := fun t ht => I.hok.fresh (Nat.le_trans hp (Nat.le_of_lt (above t ht)))
  have newS : H p = none := I.hok.fresh hp
  have off : ∀ b, b ∉ as → b ≠ p → putP (upd H p (.lst (as.map V.ref))) as (xs.zip ys) b = H b := fun b h1 h2 => (putP_off h1).trans (upd_ne h2)
  have low : ∀ b o, s.heap.get? b = some o → b ∉ as ∧ b ≠ p := fun b o e => ⟨fun z => absurd (Nat.lt_of_lt_of_le (Heap.lt_size e) hp) (Nat.not_lt.mpr (Nat.le_of_lt (above b z))), Nat.ne_of_lt (Nat.lt_of_lt_of_le (Heap.lt_size e) hp)⟩
  have kp : ∀ b u, H b = some u → putP (upd H p (.lst (as.map V.ref))) as (xs.zip ys) b = some u := fun b u e => by
    rw [off b (fun z => by rw [new b z] at e; cases e) (fun z => by rw [z, newS] at e; cases e)]
    exact e
  have eS : putP (upd H p (.lst (as.map V.ref))) as (xs.zip ys) p = some (.lst (as.map V.ref)) := (putP_off nS).trans upd_same
  refine ⟨putP (upd H p (.lst (as.map V.ref))) as (xs.zip ys), kp, newS, eS, fun j a e => putP_at hl nd e, ?_⟩
  refine I.call' (ch := []) rfl ⟨fun b o q _ _ _ => hk b o q, fun b o q _ _ _ => ⟨o.slots, hk b o q⟩, fun b o q n _ => ?_, fun b o q _ => ⟨o, hk b o q⟩, fun b xs q => kp b _ q, fun b o u q => kp b _ q, fun b ps q => ⟨#[], by rw [kp b _ q]; simp⟩⟩ (fun b u q => ?_) I.bare fun b z => by simp at z
  · obtain ⟨z1, z2⟩ := low b o q
    rw [off b z1 z2]
    exact n
  · by_cases hb : b ∈ as
    · obtain ⟨j, e1⟩ := List.mem_iff_getElem?.mp hb
      obtain ⟨q2, e2, e3⟩ := putP_at (H := upd H p (.lst (as.map V.ref))) hl nd e1
      rw [e3] at q
      cases q
      obtain ⟨u1, u2, x, y, f1, f2, r1, r2⟩ := hG j b e1
      rw [f2] at e2
      cases e2
      exact ⟨by show 2 ≤ sizeLine; decide, [u1, u2], .cons r1 (.cons r2 .nil), ⟨_, f1, rfl, _, rfl⟩⟩
    · by_cases hb2 : b = p
      · rw [hb2] at q ⊢
        rw [eS] at q
        cases q
        refine ⟨by rw [List.length_map, hl]; exact hz, acc.toList, c, by rw [hacc]; exact LiI.vals_refs as, ?_⟩
        rw [Array.toArray_toList]
        exact hS
      · rw [off b hb hb2] at q
        exact (I.hok b u q).stay (fun d v _ y => hk d v y) (fun d y => kp d _ y) fun d xs y => kp d _ y
theorem pe_listZip {e e2 : Expr} {ta : TA} {p p2 q pos : Pos} (hc : X.calm = true) (hg : Gl X "list") (hm : X.mg "list" = none) (hg2 : Gl X "zip") (hm2 : X.mg "zip" = none) (ha : PA X [e, e2] ta)
    (hs : starEach [.Call (.Name "zip" p2) [e, e2] [] q] X.env = (false, eval (.Call (.Name "zip" p2) [e, e2] [] q) X.env) :: starEach [] X.env := by rfl)
    (hs2 : starEach [e, e2] X.env = (false, eval e X.env) :: starEach [e2] X.env := by rfl) (hpl : (backTo q (starEach [e2] X.env)).any (·.1) = false := by rfl) :
    PE X (.Call (.Name "list" p) [.Call (.Name "zip" p2) [e, e2] [] q] [] pos) (tListZip X.K ta) := by
  refine ⟨fun pins s σ H Q I h => ?_⟩
  refine wpAny_Call_Name_kw (ld_blt I hg hm bo_list ?_)
  refine PyProof.Rows.callWith_type1 ?_ hs rfl
  rw [hs]
  show wpAny _ _ (spliced ((false, eval (.Call (.Name "zip" p2) [e, e2] [] q) X.env) :: backTo pos (starEach [] X.env))) _ _ s
  refine Calls.spliced_cons ?_
  refine Call_ (ld_blt I hg2 hm2 PyProof.Rows.boot_zip (PyProof.Rows.callWith_type1 (thn (ha.run q pins s σ H _ I h) fun us s1 ⟨vs, H1, I1, r1, q1⟩ => ?_) hs2 hpl))
  obtain ⟨k1, k2, xs, ys, ex, h1, h2, hz, qq⟩ := q1
  subst ex
  obtain ⟨u1, us1, rfl, r2, r3⟩ : ∃ u us', us = u :: us' ∧ RelV k1.val u ∧ Vals [k2.val] us' := by cases r1 with | cons a b => exact ⟨_, _, rfl, a, b⟩
  obtain ⟨u2, rfl, r4⟩ := vals1 r3
  obtain ⟨o1, G1, tk1, b1, g1, l1, m1⟩ := Kd.begins I1 h1 r2
  obtain ⟨o2, G2, tk2, b2, g2, l2, m2⟩ := Kd.begins I1 h2 r4
  refine zip_begins2 b1 b2 g1 g2 fun h' hzz hI hO e1 e2 hsz hk => Calls.spliced_nil ?_
  have I2 : Inv X pins σ H1 { s1 with heap := h' } := I1.kept (t' := s1.toks) hk
  have hh : X.A.in1.in1.in1.handled = none := by simp [I1.ok.hd hc]
  have cc : Cells5 s1.heap.objs.size k1 k2 := ⟨l1, l2⟩
  obtain ⟨fp1, P1, S1, d1, s1'⟩ := Kd.draw (A := X.A.in1.in1.in1) hh I2 h1 (fun a e => ad (by have := Kd.lo_ne cc.lo1 a e; omega)) (m1 _ _ e1)
  obtain ⟨fp2, P2, S2, d2, s2'⟩ := Kd.draw (A := X.A.in1.in1.in1) hh I2 h2 (fun a e => ad (by have := Kd.lo_ne cc.lo2 a e; omega)) (m2 _ _ e2)
  have lz : (xs.zip ys).length = min xs.length ys.length := List.length_zip ..
  have f1 : ∀ b ∈ fp1, b < h'.objs.size := fun b hb => by
    rw [hsz]
    rcases d1.lo b hb with rfl | ⟨a, rfl, e⟩
    · exact Nat.lt_add_of_pos_right (by decide)
    · exact Nat.lt_of_lt_of_le (Kd.lo_ne cc.lo1 _ e) (Nat.le_add_right _ _)
  have f2 : ∀ b ∈ fp2, b < h'.objs.size := fun b hb => by
    rw [hsz]
    rcases d2.lo b hb with rfl | ⟨a, rfl, e⟩
    · exact Nat.add_lt_add_left (by decide) _
    · exact Nat.lt_of_lt_of_le (Kd.lo_ne cc.lo2 _ e) (Nat.le_add_right _ _)
  refine zl_call (s := { s1 with heap := h' }) (sep5 cc d1 d2) d1.dr d2.dr f1 f2 (by rw [← lz]; exact hz) hzz hI ⟨_, _, hO⟩ s1' s2' fun h3 tk acc c as hk3 hS3 hl3 hG3 hacc => ?_
  have kk : ∀ b o, s1.heap.get? b = some o → h3.get? b = some o := fun b o e => by
    have lb := Heap.lt_size e
    exact hk3 b o (Nat.ne_of_lt (Nat.lt_of_lt_of_le lb (Nat.le_add_right _ _))) (Nat.ne_of_lt (Nat.lt_of_lt_of_le lb (Nat.le_add_right _ _))) (Nat.ne_of_lt lb) (Nat.ne_of_lt (Nat.lt_of_lt_of_le lb (Nat.le_add_right _ _))) (hk b o e)
  obtain ⟨H', g1', g2', g3', g4', J⟩ := zip_laid (tk := tk) (xs := xs) (ys := ys) (p := h'.objs.size) I1 (by rw [hsz]; exact Nat.le_add_right _ _) hz kk hS3 (by rw [lz]; exact hl3) hG3.rise hG3.above (fun j a e => by
    obtain ⟨u, v, y1, y2, y3⟩ := hG3.pairs j a e
    obtain ⟨x, ex, rx⟩ := d1.item _ _ y1
    obtain ⟨y, ey, ry⟩ := d2.item _ _ y2
    exact ⟨u, v, x, y, y3, List.getElem?_zip_eq_some.mpr ⟨ex, ey⟩, rx, ry⟩) hacc
  exact ⟨.ref _, H', J, rfl, qq H' _ as g1' g2' g3' (by rw [lz]; exact hl3) g4'⟩
end
/-! ### .. of data -/
def cListZip (m : AM) : EM := fun ρ => do
  let (hs, ρ1) ← m ρ
  match hs with
  | [h, h2] => do
    let x ← (h.d ρ1).nox
    let y ← (h2.d ρ1).nox
    let ps ← (zipGD x y).nox
    if szOk ps.length = true then pure (.fr (.lst ps), ρ1) else .stk
  | _ => .stk
theorem reps_pairs {K : PySem.W.Frag} {H' : Hp} {P : Pr} : ∀ {ds es : List D} {xs ys : List V} {as : List Addr}, Reps K H' ds P xs → Reps K H' es P ys → as.length = (xs.zip ys).length → (∀ (j : Nat) (a : Addr), as[j]? = some a → ∃ q, (xs.zip ys)[j]? = some q ∧ H' a = some (.tup [q.1, q.2])) → Reps K H' (pairsD ds es) P (as.map V.ref) := by
  intro ds
  induction ds with
  | nil =>
    intro es xs ys as r1 r2 l h
    obtain rfl := r1.nil_iff
    have : as = [] := List.length_eq_zero_iff.mp (by rw [l]; rfl)
    subst this
    exact Reps.nil
  | cons d ds ih =>
    intro es xs ys as r1 r2 l h
    obtain ⟨v, vs, rfl, a1, a2⟩ := r1.cons_iff
    cases es with
    | nil =>
      obtain rfl := r2.nil_iff
      have : as = [] := List.length_eq_zero_iff.mp (by rw [l]; rfl)
      subst this
      exact Reps.nil
    | cons e es =>
      obtain ⟨w, ws, rfl, b1, b2⟩ := r2.cons_iff
      cases as with
      | nil => simp at l
      | cons a as =>
        obtain ⟨q, e1, e2⟩ := h 0 a rfl
        simp at e1
        subst e1
        refine Reps.cons ?_ (ih a2 b2 (by simpa using l) fun j a' e => by simpa using h (j + 1) a' (by simpa using e))
        unfold Rep
        exact ⟨a, _, rfl, e2, Reps.cons a1 (Reps.cons b1 Reps.nil)⟩
section
variable {X : Cx} {P0 : Pr} {O W : List Nat} {E : EK} {a b : Expr} {ms : AM} {pos : Pos}
theorem ce_listZip {p p2 q : Pos} (hc : X.calm = true) (hm : X.mg "list" = none) (hm2 : X.mg "zip" = none) (ha : CA X P0 O W E [a, b] ms) (hg : Gl X "list" := by rfl) (hg2 : Gl X "zip" := by rfl)
    (hs : starEach [.Call (.Name "zip" p2) [a, b] [] q] X.env = (false, eval (.Call (.Name "zip" p2) [a, b] [] q) X.env) :: starEach [] X.env := by rfl)
    (hs2 : starEach [a, b] X.env = (false, eval a X.env) :: starEach [b] X.env := by rfl) (hpl : (backTo q (starEach [b] X.env)).any (·.1) = false := by rfl) :
    CEx X P0 O W E (.Call (.Name "list" p) [.Call (.Name "zip" p2) [a, b] [] q] [] pos) (cListZip ms) := PE.imp (pe_listZip hc hg hm hg2 hm2 ha hs hs2 hpl) fun σ H Q ⟨ρ, S, h⟩ => by
  refine ⟨ρ, S, h.of_bind.mono fun ⟨hs, ρ1⟩ q vs H1 S1 k1 r1 => ?_⟩
  match hs, r1, q with
  | [h, h2], r1, q =>
    obtain ⟨v, ws, rfl, t1, t2⟩ := r1
    obtain ⟨w, us, rfl, t3, t4⟩ := t2
    have t4 : us = [] := t4
    subst t4
    obtain ⟨x, ex, q1⟩ := Res.of_nox (show Res E W σ H ((h.d ρ1).nox >>= _) _ from q)
    obtain ⟨y, ey, q2⟩ := q1.of_nox
    obtain ⟨ps, ep, q3⟩ := q2.of_nox
    clear q q1 q2
    obtain ⟨xs, ys, e1, e2, rfl⟩ := zipGD_ok ep
    by_cases c : szOk (pairsD xs ys).length = true
    · rw [if_pos c] at q3
      obtain ⟨c1, vs1, rfl, f1, g1, _⟩ := (t1.d S1 ex).kd e1
      obtain ⟨c2, vs2, rfl, f2, g2, _⟩ := (t3.d S1 ey).kd e2
      have lz : (vs1.zip vs2).length = (pairsD xs ys).length := by rw [pairsD_len, List.length_zip, g1.length, g2.length]
      refine ⟨c1, c2, vs1, vs2, rfl, f1, f2, by rw [lz]; exact of_decide_eq_true c, fun H' p as kp np hp hl hG => ?_⟩
      have sm : Same H1 H' := kp
      have m1 := g1.mono xs S1.dom (fun b o e _ => kp b o e) (P' := fun b => FA P0 O σ b ∨ b = p) (fun b z => z.elim .inl fun z => .inr (by rw [z]; exact np))
      have m2 := g2.mono ys S1.dom (fun b o e _ => kp b o e) (P' := fun b => FA P0 O σ b ∨ b = p) (fun b z => z.elim .inl fun z => .inr (by rw [z]; exact np))
      refine out_of (K := X.K) S1 k1 q3 _ _ sm ?_ fun _ a e => by cases e; exact np
      unfold Rep
      exact ⟨p, _, rfl, fun z => (S1.dom p z).some np, hp, reps_pairs m1 m2 hl hG⟩
    · rw [if_neg c] at q3
      exact q3.elim
  | [], _, q => exact q.elim
  | [_], _, q => exact q.elim
  | _ :: _ :: _ :: _, _, q => exact q.elim
end
variable {ρ : Y.Env}
@[simp] theorem e_listZip {m : AM} : cListZip m ρ = (m ρ >>= fun p => match p.1 with | [h, h2] => ((h.d p.2).nox >>= fun x => (h2.d p.2).nox >>= fun y => (zipGD x y).nox >>= fun ps => if szOk ps.length = true then R.ok (.fr (.lst ps), p.2) else .stk) | _ => .stk) := by
  unfold cListZip; congr
end Y

set_option Elab.async false
set_option linter.all false
set_option maxRecDepth 100000
namespace Y
open PySem PySem.Spec PyProof.Rows L2
/-! ### min(e), max(e), e a list or a tuple of whole numbers -/
def maxSD : List D → R D
  | [d] => match seqI d with
    | some (n :: ms) => .ok (.int (maxI n ms))
    | _ => .stk
  | _ => .stk
def minSD : List D → R D
  | [d] => match seqI d with
    | some (n :: ms) => .ok (.int (minI n ms))
    | _ => .stk
  | _ => .stk
theorem minI_fold : ∀ {ms : List Int} {n : Int}, minI n ms = ms.foldl min n
  | [], n => rfl
  | m :: ms, n => by rw [minI, List.foldl_cons]; exact minI_fold
theorem maxI_fold : ∀ {ms : List Int} {n : Int}, maxI n ms = ms.foldl max n
  | [], n => rfl
  | m :: ms, n => by rw [maxI, List.foldl_cons]; exact maxI_fold
theorem reads_ints {h : Heap} : ∀ {ns : List Int} {us : List Value}, Vals (ns.map V.int) us → ReadsAll h us (ns.map PyData.int) []
  | [], us, r => by
    rw [List.map_nil] at r
    cases r
    exact .nil
  | n :: ns, us, r => by
    rw [List.map_cons] at r
    cases r with
    | cons r t =>
      obtain ⟨k, rfl⟩ := r
      exact .cons (as := []) (.int n k) (reads_ints t)
theorem alike_ints {ns : List Int} : PySem.W.AlikeAll (ns.map PyData.int) := ⟨fun x hx y hy => by
  obtain ⟨i, _, rfl⟩ := List.mem_map.mp hx
  obtain ⟨j, _, rfl⟩ := List.mem_map.mp hy
  simp [PySem.W.alike], fun x hx z => by
  obtain ⟨i, _, rfl⟩ := List.mem_map.mp hx
  cases z⟩
theorem depth_ints : ∀ {ns : List Int}, PyData.depthAll (ns.map PyData.int) = 0
  | [] => rfl
  | n :: ns => by
    rw [List.map_cons, PyData.depthAll, depth_ints]
    rfl
section
variable {X : Cx}
def rMinT (K : PySem.W.Frag) : List V → Hp → VK → Prop := fun vs H Q => ∃ (a : Addr) (n : Int) (ns : List Int), vs = [V.ref a] ∧ SqT K H a ((n :: ns).map V.int) ∧ Q (.int (minI n ns)) H
def rMaxT (K : PySem.W.Frag) : List V → Hp → VK → Prop := fun vs H Q => ∃ (a : Addr) (n : Int) (ns : List Int), vs = [V.ref a] ∧ SqT K H a ((n :: ns).map V.int) ∧ Q (.int (maxI n ns)) H
theorem cr_minT (hc : X.calm = true) (hu : X.A.units + 1 < cLine) : CallR X (.builtin "min") (rMinT X.K) := by
  intro pins s σ H vs us Q I r h
  obtain ⟨a, n, ns, rfl, hs, q⟩ := h
  obtain ⟨its, rv, hl, _⟩ := I.tuple hs
  rw [Vals.ref1 r]
  refine PySem.W.min_tuple_data (x := .int n) (xs := ns.map PyData.int) (I.ok.hd hc) hl (by simpa using reads_ints (h := s.heap) rv) (alike_ints (ns := n :: ns)) (by
    have := depth_ints (ns := n :: ns)
    rw [List.map_cons] at this
    rw [this]; exact hu) fun i v h' tk bs _ hr hk => ?_
  rw [PySem.W.minD_ints, ← minI_fold] at hr
  cases hr
  exact ⟨.int _, H, I.kept hk, ⟨_, rfl⟩, q⟩
theorem cr_maxT (hc : X.calm = true) (hu : X.A.units + 1 < cLine) : CallR X (.builtin "max") (rMaxT X.K) := by
  intro pins s σ H vs us Q I r h
  obtain ⟨a, n, ns, rfl, hs, q⟩ := h
  obtain ⟨its, rv, hl, _⟩ := I.tuple hs
  rw [Vals.ref1 r]
  refine PySem.W.max_tuple_data (x := .int n) (xs := ns.map PyData.int) (I.ok.hd hc) hl (by simpa using reads_ints (h := s.heap) rv) (alike_ints (ns := n :: ns)) (by
    have := depth_ints (ns := n :: ns)
    rw [List.map_cons] at this
    rw [this]; exact hu) fun i v h' tk bs _ hr hk => ?_
  rw [PySem.W.maxD_ints, ← maxI_fold] at hr
  cases hr
  exact ⟨.int _, H, I.kept hk, ⟨_, rfl⟩, q⟩
theorem cd_maxS (hc : X.calm = true) (hu : X.A.units + 64 < cLine) : CallR X (.builtin "max") (rDs X.K maxSD) := by
  intro pins s σ H xs us Q I r ⟨P, ds, dz, hm, rs, e, out⟩
  unfold maxSD at e
  split at e
  · split at e
    · rename_i n ms ei
      cases e
      obtain ⟨v, rfl, r1⟩ := rs.get1
      obtain ⟨a, rfl, h1 | h1⟩ := r1.seqI ei
      · refine cr_max hc pins s σ H _ us Q I r ⟨a, n :: ms, rfl, h1, by simp, fun m hm' hb => ?_⟩
        rw [show m = maxI n ms from Int.le_antisymm (maxI_le hm') (hb _ maxI_mem)]
        exact out.int
      · exact cr_maxT hc (by omega) pins s σ H _ us Q I r ⟨a, n, ms, rfl, h1, out.int⟩
    · cases e
  · cases e
theorem cd_minS (hc : X.calm = true) (hu : X.A.units + 64 < cLine) : CallR X (.builtin "min") (rDs X.K minSD) := by
  intro pins s σ H xs us Q I r ⟨P, ds, dz, hm, rs, e, out⟩
  unfold minSD at e
  split at e
  · split at e
    · rename_i n ms ei
      cases e
      obtain ⟨v, rfl, r1⟩ := rs.get1
      obtain ⟨a, rfl, h1 | h1⟩ := r1.seqI ei
      · refine cr_min hc pins s σ H _ us Q I r ⟨a, n :: ms, rfl, h1, by simp, fun m hm' hb => ?_⟩
        rw [show m = minI n ms from Int.le_antisymm (hb _ minI_mem) (minI_le hm')]
        exact out.int
      · exact cr_minT hc (by omega) pins s σ H _ us Q I r ⟨a, n, ms, rfl, h1, out.int⟩
    · cases e
  · cases e
end
theorem d_maxS {d : D} {n : Int} {ms : List Int} (h : seqI d = some (n :: ms)) : maxSD [d] = .ok (.int (maxI n ms)) := by
  show (match seqI d with | some (n :: ms) => R.ok (D.int (maxI n ms)) | _ => .stk) = _
  rw [h]
theorem d_minS {d : D} {n : Int} {ms : List Int} (h : seqI d = some (n :: ms)) : minSD [d] = .ok (.int (minI n ms)) := by
  show (match seqI d with | some (n :: ms) => R.ok (D.int (minI n ms)) | _ => .stk) = _
  rw [h]
end Y

set_option Elab.async false
set_option linter.all false
set_option maxRecDepth 100000
namespace Y
open PySem PySem.Spec PyProof.Rows L2
/-! ### dict(zip(a, b)), b a list or a tuple, no key twice -/
section
variable {κ : Type} [DecidableEq κ]
theorem stored_nd {acc : List (κ × Value)} {k : κ} {v : Value} (h : k ∉ acc.map (·.1)) : stored acc k v = acc ++ [(k, v)] := by
  unfold stored
  rw [if_neg]
  intro z
  obtain ⟨p, hp, e⟩ := List.any_eq_true.mp z
  exact h (List.mem_map.mpr ⟨p, hp, of_decide_eq_true e⟩)
theorem merged_nd : ∀ {more acc : List (κ × Value)}, ((acc ++ more).map (·.1)).Nodup → merged acc more = acc ++ more
  | [], acc, _ => (List.append_nil acc).symm
  | p :: more, acc, h => by
    have e : acc ++ p :: more = (acc ++ [(p.1, p.2)]) ++ more := by simp
    have n1 : p.1 ∉ acc.map (·.1) := by
      rw [List.map_append, List.map_cons] at h
      have := (List.nodup_append.mp h).2.2
      exact fun z => this _ z _ List.mem_cons_self rfl
    show merged (stored acc p.1 p.2) more = _
    rw [stored_nd n1, e]
    exact merged_nd (by rw [← e]; exact h)
theorem storedH_nd {acc : List (κ × Addr × Value)} {k : κ} {b : Addr} {v : Value} (h : k ∉ acc.map (·.1)) : storedH acc k b v = acc ++ [(k, b, v)] := by
  unfold storedH
  rw [if_neg]
  intro z
  have : ∀ xs : List (κ × Addr × Value), (atKey xs k).isSome = true → k ∈ xs.map (·.1) := by
    intro xs
    induction xs with
    | nil => intro q; cases q
    | cons x xs ih =>
      intro q
      by_cases e : x.1 = k
      · rw [← e]; exact List.mem_cons_self
      · refine List.mem_cons_of_mem _ (ih ?_)
        simpa [atKey, e] using q
  exact h (this acc z)
theorem storedAllH_nd : ∀ {more acc : List (κ × Addr × Value)}, ((acc ++ more).map (·.1)).Nodup → storedAllH acc more = acc ++ more
  | [], acc, _ => (List.append_nil acc).symm
  | p :: more, acc, h => by
    have e : acc ++ p :: more = (acc ++ [(p.1, p.2.1, p.2.2)]) ++ more := by simp
    have n1 : p.1 ∉ acc.map (·.1) := by
      rw [List.map_append, List.map_cons] at h
      have := (List.nodup_append.mp h).2.2
      exact fun z => this _ z _ List.mem_cons_self rfl
    show storedAllH (storedH acc p.1 p.2.1 p.2.2) more = _
    rw [storedH_nd n1, e]
    exact storedAllH_nd (by rw [← e]; exact h)
end
theorem pairArg_zip {prog : Program} {w : World} {z TI TO i1 i2 : Addr} {fp1 fp2 : List Addr} {n1 n2 : Nat} {P1 P2 : Nat → Value → Prop} {St1 St2 : Nat → Heap → Prop} {A0 : Around} (h0 : A0.handled = none) (Sp : ZipSep2 z TI TO i1 i2 fp1 fp2)
    (D1 : ∀ A : Around, A.handled = none → Draws prog w A i1 fp1 n1 P1 St1) (D2 : ∀ A : Around, A.handled = none → Draws prog w A i2 fp2 n2 P2 St2)
    (t1 : ∀ h, St1 0 h → ∀ b ∈ fp1, ∃ o, h.get? b = some o) (t2 : ∀ h, St2 0 h → ∀ b ∈ fp2, ∃ o, h.get? b = some o) :
    PairArg prog w "zip" z (z :: TI :: TO :: (fp1 ++ fp2)) [z, TO, i1, i2] (min n1 n2) (fun i k v => P1 i k ∧ P2 i v)
      (fun h => IsZip h z TI TO .none ∧ IsTupOf2 h TI (.ref i1) (.ref i2) ∧ (∃ a b, IsTupOf2 h TO a b) ∧ St1 0 h ∧ St2 0 h) where
  type := fun s ok => ⟨_, ok.1, rfl⟩
  notDict := by decide
  keep := fun h h' ⟨hz, hI, ⟨a, b, hO⟩, s1, s2⟩ hk => ⟨hk _ _ hz, hk _ _ hI, ⟨a, b, hk _ _ hO⟩, (D1 _ h0).frame _ _ _ s1 fun q _ o e => hk q o e, (D2 _ h0).frame _ _ _ s2 fun q _ o e => hk q o e⟩
  there := fun h ⟨hz, hI, ⟨a, b, hO⟩, s1, s2⟩ q hq => by
    rcases List.mem_cons.mp hq with rfl | hq
    · exact ⟨_, hz⟩
    rcases List.mem_cons.mp hq with rfl | hq
    · exact ⟨_, hI⟩
    rcases List.mem_cons.mp hq with rfl | hq
    · exact ⟨_, hO⟩
    rcases List.mem_append.mp hq with hq | hq
    · exact t1 _ s1 _ hq
    · exact t2 _ s2 _ hq
  sub := fun b hb => by
    have hb : b = z ∨ b = TO ∨ b = i1 ∨ b = i2 := by simpa using hb
    rcases hb with rfl | rfl | rfl | rfl
    · simp
    · simp
    · have := Sp.mem1; simp [this]
    · have := Sp.mem2; simp [this]
  noKeys := fun A s Q E hA ok h => getAttrOr_miss_zip ok.1 rfl rfl rfl zip_no_keys (by decide +kernel) hA h
  iter := fun A s d Q E hA ok hd hdf h => by
    obtain ⟨hz, hI, ⟨a, b, hO⟩, s1, s2⟩ := ok
    have hA1 : A.in1.handled = none := hA
    have nz : d ≠ z := fun e => hdf (by rw [e]; simp)
    have nI : d ≠ TI := fun e => hdf (by rw [e]; simp)
    have nO : d ≠ TO := fun e => hdf (by rw [e]; simp)
    have m1 : d ∉ fp1 := fun e => hdf (by simp [e])
    have m2 : d ∉ fp2 := fun e => hdf (by simp [e])
    refine wpAny_pyIter_zip hz (h z [z, TO, i1, i2] (ZSt z TI TO i1 i2 d St1 St2) s.heap s.toks ?_ ⟨hI, s1, s2, .inl ⟨hz, a, b, hO⟩⟩ (fun _ _ e => e) fun b hb => .inl hb)
    exact {
      off := fun hm => by
        have hb : d = z ∨ d = TO ∨ d = i1 ∨ d = i2 := by simpa using hm
        rcases hb with e | e | e | e
        · exact nz e
        · exact nO e
        · exact m1 (e ▸ Sp.mem1)
        · exact m2 (e ▸ Sp.mem2)
      frame := fun i h₁ h₂ st hk => ZSt.stay Sp (D1 _ hA1) (D2 _ hA1) st nz nI nO m1 m2 hk
      item := fun i s₁ Q₁ E₁ hi st hds hQ => zl_item Sp (D1 _ hA1) (D2 _ hA1) st hds (Nat.lt_of_lt_of_le hi (Nat.min_le_left ..)) (Nat.lt_of_lt_of_le hi (Nat.min_le_right ..)) fun x1 x2 h' tk p1 p2 st' t' k =>
        hQ s₁.heap.objs.size x1 x2 h' tk ⟨p1, p2⟩ (.inl ⟨_, t', rfl, _, rfl⟩) st' fun c o hc e => k c o (fun q => hc (by simp [q])) (fun q => hc (by simp [q])) (fun q => hc (by simp [q])) (fun q => hc (by simp [q])) e
      done := fun s₁ Q₁ E₁ st hQ => zl_end Sp (D1 _ hA1) (D2 _ hA1) st (Nat.min_le_left ..) (Nat.min_le_right ..) (by omega) fun h' tk k =>
        hQ h' tk fun c o hc e => k c o (fun q => hc (by simp [q])) (fun q => hc (by simp [q])) (fun q => hc (by simp [q])) (fun q => hc (by simp [q])) e }
section
variable {X : Cx} {pins : List (Addr × Obj)} {σ : L2.St} {H : Hp} {s : Shared}
/-- .. at any depth of the stack -/
theorem Kd.drawA {k : Kd} {it : Addr} {tk : Tok} {i : Nat} {xs : List V} (I : Inv X pins σ H s) (h : k.has X.K H xs) (lo : ∀ a, k = .l a ∨ k = .t a → a ≠ it) (st : k.at it tk i s.heap) :
    ∃ fp P S, (∀ A : Around, A.handled = none → Kd.Drw X A k it tk xs fp P S) ∧ S i s.heap ∧ (∀ h, S 0 h → ∀ b ∈ fp, ∃ o, h.get? b = some o) ∧ ((∀ z, k ≠ .s z) → ∃ its, Vals xs its ∧ ∀ j v, P j v → its[j]? = some v) := by
  cases k with
  | l a =>
    obtain ⟨its, rv, p, _⟩ := I.list h
    have hl : its.toArray.size = xs.length := by simp [rv.length]
    have D := fun (A : Around) (hh : A.handled = none) => Draws.list (prog := X.prog) (w := X.w) hh it a (lo a (.inl rfl)) its.toArray
    rw [hl] at D
    refine ⟨_, _, _, fun A hh => ⟨D A hh, by simp, fun b hb => by simpa [eq_comm] using hb, fun j h z => z.1, fun j v z => by
      rw [List.getElem?_toArray] at z
      exact vals_at rv z⟩, ⟨st, p.isList⟩, fun h z b hb => ?_, fun _ => ⟨its, rv, fun j v z => by rw [List.getElem?_toArray] at z; exact z⟩⟩
    have hb : b = it ∨ b = a := by simpa using hb
    rcases hb with rfl | rfl
    · obtain ⟨o, e, _⟩ := z.1; exact ⟨o, e⟩
    · obtain ⟨o, e, _⟩ := z.2; exact ⟨o, e⟩
  | t a =>
    obtain ⟨its, rv, p, _⟩ := I.tuple h
    have hl : its.toArray.size = xs.length := by simp [rv.length]
    have D := fun (A : Around) (hh : A.handled = none) => Draws.tuple (prog := X.prog) (w := X.w) hh it a (lo a (.inr rfl)) its.toArray
    rw [hl] at D
    refine ⟨_, _, _, fun A hh => ⟨D A hh, by simp, fun b hb => by simpa [eq_comm] using hb, fun j h z => z.1, fun j v z => by
      rw [List.getElem?_toArray] at z
      exact vals_at rv z⟩, ⟨st, p⟩, fun h z b hb => ?_, fun _ => ⟨its, rv, fun j v z => by rw [List.getElem?_toArray] at z; exact z⟩⟩
    have hb : b = it ∨ b = a := by simpa using hb
    rcases hb with rfl | rfl
    · obtain ⟨o, e, _⟩ := z.1; exact ⟨o, e⟩
    · obtain ⟨o, e, _⟩ := z.2; exact ⟨o, e⟩
  | s z =>
    have h : xs = strV z := h
    have hl : z.cps.size = xs.length := by rw [h]; simp [strV]
    have D := fun (A : Around) (hh : A.handled = none) => Draws.text (prog := X.prog) (w := X.w) hh it z tk
    rw [hl] at D
    refine ⟨_, _, _, fun A hh => ⟨D A hh, by simp, fun b hb => .inl (by simpa using hb), fun j h z => z, fun j v ⟨c, u, e1, e2⟩ => by
      refine ⟨.str ⟨#[c]⟩, ?_, u, e2⟩
      rw [h, strV, List.getElem?_map, Array.getElem?_toList, e1]
      rfl⟩, st, fun h z b hb => ?_, fun n => absurd rfl (n z)⟩
    have hb : b = it := by simpa using hb
    subst hb
    obtain ⟨o, e, _⟩ := z; exact ⟨o, e⟩
end
end Y

set_option Elab.async false
set_option linter.all false
set_option maxRecDepth 100000
namespace Y
open PySem PySem.Spec PyProof.Rows L2
/-! ### dict(zip(a, b)): the layer's rule -/
def adrV : V → Addr
  | .ref a => a
  | _ => 0
def RK (kvs : List (Key × V)) (ps : List (V × V)) : Prop := Paired (fun (p : Key × V) (q : V × V) => p.2 = q.2 ∧ q.1 = kV p.1) kvs ps
def RT (H : Hp) (kvs : List (List Key × V)) (ps : List (V × V)) : Prop := Paired (fun (p : List Key × V) (q : V × V) => p.2 = q.2 ∧ ∃ b, q.1 = .ref b ∧ H b = some (.tup (p.1.map kV))) kvs ps
def tDictZip (K : PySem.W.Frag) (ta : TA) : TE := fun σ H Q => ta σ H fun vs H1 => ∃ k1 k2 xs ys, vs = [Kd.val k1, Kd.val k2] ∧ k1.has K H1 xs ∧ k2.has K H1 ys ∧ (∀ z, k2 ≠ .s z) ∧ (xs.zip ys).length ≤ sizeLine ∧
  ((∃ kvs, RK kvs (xs.zip ys) ∧ (kvs.map (·.1)).Nodup ∧ ∀ p, H1 p = none → Q (.ref p) (upd H1 p (.dK kvs))) ∨
   ∃ kvs, RT H1 kvs (xs.zip ys) ∧ (kvs.map (·.1)).Nodup ∧ ∀ p, H1 p = none → Q (.ref p) (upd H1 p (.dT kvs)))
theorem paired_len {α β : Type} {F : α → β → Prop} {l : List α} {m : List β} (h : Paired F l m) : l.length = m.length := Paired.length h
theorem paired_at {α β : Type} {F : α → β → Prop} : ∀ {l : List α} {m : List β} {j : Nat} {b : β}, Paired F l m → m[j]? = some b → ∃ a, l[j]? = some a ∧ F a b
  | _, _, _, _, .nil, e => by simp at e
  | a :: _, _, 0, _, .cons r _, e => by simp at e; subst e; exact ⟨a, rfl, r⟩
  | _ :: l, _, j + 1, _, .cons _ t, e => by simpa using paired_at (j := j) t (by simpa using e)
theorem paired_of {α β : Type} {F : α → β → Prop} : ∀ {l : List α} {m : List β}, l.length = m.length → (∀ (j : Nat) a b, l[j]? = some a → m[j]? = some b → F a b) → Paired F l m
  | [], [], _, _ => .nil
  | [], _ :: _, h, _ => by simp at h
  | _ :: _, [], h, _ => by simp at h
  | a :: l, b :: m, h, f => .cons (f 0 a b rfl rfl) (paired_of (by simpa using h) fun j x y e1 e2 => f (j + 1) x y (by simpa using e1) (by simpa using e2))
theorem keysZip {κ : Type} {kvs : List (κ × V)} {its : List Value} {n : Nat} (h1 : kvs.length = n) (h2 : n ≤ its.length) {j : Nat} {p : κ × V} {u : Value} (e : kvs[j]? = some p) (e2 : its[j]? = some u) : ((kvs.map (·.1)).zip its)[j]? = some (p.1, u) :=
  List.getElem?_zip_eq_some.mpr ⟨by rw [List.getElem?_map, e]; rfl, e2⟩
theorem fstZip {κ β : Type} {ks : List κ} {m : List β} (h : ks.length ≤ m.length) : (ks.zip m).map (·.1) = ks := by
  rw [show (fun x : κ × β => x.1) = Prod.fst from rfl, List.map_fst_zip h]
section
variable {X : Cx} {pins : List (Addr × Obj)} {σ : L2.St} {H : Hp} {s : Shared}
theorem pe_dictZip {e e2 : Expr} {ta : TA} {p p2 q pos : Pos} (hun : X.A.units + 64 < cLine) (hc : X.calm = true) (hg : Gl X "dict") (hm : X.mg "dict" = none) (hg2 : Gl X "zip") (hm2 : X.mg "zip" = none) (ha : PA X [e, e2] ta)
    (hs : starEach [.Call (.Name "zip" p2) [e, e2] [] q] X.env = (false, eval (.Call (.Name "zip" p2) [e, e2] [] q) X.env) :: starEach [] X.env := by rfl)
    (hs2 : starEach [e, e2] X.env = (false, eval e X.env) :: starEach [e2] X.env := by rfl) (hpl : (backTo q (starEach [e2] X.env)).any (·.1) = false := by rfl) :
    PE X (.Call (.Name "dict" p) [.Call (.Name "zip" p2) [e, e2] [] q] [] pos) (tDictZip X.K ta) := by
  refine ⟨fun pins s σ H Q I h => ?_⟩
  refine wpAny_Call_Name_kw (ld_blt I hg hm PyProof.Rows.boot_dict ?_)
  refine PyProof.Rows.callWith_type1 ?_ hs rfl
  rw [hs]
  show wpAny _ _ (spliced ((false, eval (.Call (.Name "zip" p2) [e, e2] [] q) X.env) :: backTo pos (starEach [] X.env))) _ _ s
  refine Calls.spliced_cons ?_
  refine Call_ (ld_blt I hg2 hm2 PyProof.Rows.boot_zip (PyProof.Rows.callWith_type1 (thn (ha.run q pins s σ H _ I h) fun us s1 ⟨vs, H1, I1, r1, q1⟩ => ?_) hs2 hpl))
  obtain ⟨k1, k2, xs, ys, ex, h1, h2, nt, hz, qq⟩ := q1
  subst ex
  obtain ⟨u1, us1, rfl, r2, r3⟩ : ∃ u us', us = u :: us' ∧ RelV k1.val u ∧ Vals [k2.val] us' := by cases r1 with | cons a b => exact ⟨_, _, rfl, a, b⟩
  obtain ⟨u2, rfl, r4⟩ := vals1 r3
  obtain ⟨o1, G1, tk1, b1, g1, l1, m1⟩ := Kd.begins I1 h1 r2
  obtain ⟨o2, G2, tk2, b2, g2, l2, m2⟩ := Kd.begins I1 h2 r4
  refine zip_begins2 b1 b2 g1 g2 fun h' hzz hI hO e1 e2 hsz hk => Calls.spliced_nil ?_
  have I2 : Inv X pins σ H1 { s1 with heap := h' } := I1.kept (t' := s1.toks) hk
  have hh : X.A.handled = none := I1.ok.hd hc
  have cc : Cells5 s1.heap.objs.size k1 k2 := ⟨l1, l2⟩
  obtain ⟨fp1, P1, S1, d1, s1', t1, _⟩ := Kd.drawA I2 h1 (fun a e => ad (by have := Kd.lo_ne cc.lo1 a e; omega)) (m1 _ _ e1)
  obtain ⟨fp2, P2, S2, d2, s2', t2, o2⟩ := Kd.drawA I2 h2 (fun a e => ad (by have := Kd.lo_ne cc.lo2 a e; omega)) (m2 _ _ e2)
  obtain ⟨its, rv, fx⟩ := o2 nt
  have lz : (xs.zip ys).length = min xs.length ys.length := List.length_zip ..
  have PA := pairArg_zip hh (sep5 cc (d1 _ hh) (d2 _ hh)) (fun A hA => (d1 A hA).dr) (fun A hA => (d2 A hA).dr) t1 t2
  have ok : IsZip h' (s1.heap.objs.size + 4) (s1.heap.objs.size + 2) (s1.heap.objs.size + 3) .none ∧ IsTupOf2 h' (s1.heap.objs.size + 2) (.ref s1.heap.objs.size) (.ref (s1.heap.objs.size + 1)) ∧ (∃ a b, IsTupOf2 h' (s1.heap.objs.size + 3) a b) ∧ S1 0 h' ∧ S2 0 h' := ⟨hzz, hI, ⟨_, _, hO⟩, s1', s2'⟩
  have low : ∀ b : Nat, b < s1.heap.objs.size → b ∉ [s1.heap.objs.size + 4, s1.heap.objs.size + 3, s1.heap.objs.size, s1.heap.objs.size + 1] := fun b hb z => by
    have z : b = s1.heap.objs.size + 4 ∨ b = s1.heap.objs.size + 3 ∨ b = s1.heap.objs.size ∨ b = s1.heap.objs.size + 1 := by simpa using z
    omega
  have big : sysModules < h'.objs.size := I2.big
  have fr : H1 h'.objs.size = none := I2.hok.fresh (Nat.le_refl _)
  have lx : xs.length = xs.length := rfl
  rcases qq with ⟨kvs, rk, nd, qq⟩ | ⟨kvs, rk, nd, qq⟩
  · have lk : kvs.length = min xs.length ys.length := by rw [paired_len rk, lz]
    have li : kvs.length ≤ its.length := by rw [lk, ← rv.length]; exact Nat.min_le_right ..
    have mf : (((kvs.map (·.1)).zip its).map (·.1)) = kvs.map (·.1) := fstZip (by rw [List.length_map]; exact li)
    refine call_dict_pairs (knd := mixKind X.prog X.w) (kvs := (kvs.map (·.1)).zip its) (s := { s1 with heap := h' }) PA hh ok ⟨by rw [List.length_zip, List.length_map, Nat.min_eq_left li, lk], fun i key v ⟨y1, y2⟩ => ?_⟩ (by rw [← lz]; exact hz) fun h3 tk hd hk3 => ?_
    · obtain ⟨x, ex, rx⟩ := (d1 _ hh).item _ _ y1
      have ev := fx _ _ y2
      obtain ⟨y, ey, _⟩ := (d2 _ hh).item _ _ y2
      obtain ⟨pq, e3, e4, e5⟩ := paired_at rk (show (xs.zip ys)[i]? = some (x, y) from List.getElem?_zip_eq_some.mpr ⟨ex, ey⟩)
      refine ⟨pq.1, keysZip rfl li e3 ev, kV_is ?_⟩
      rw [← show x = kV pq.1 from e5]; exact rx
    · have mg : merged [] ((kvs.map (·.1)).zip its) = (kvs.map (·.1)).zip its := merged_nd (acc := []) (by rw [List.nil_append, mf]; exact nd)
      have hd : h3.DictOf (mixKind X.prog X.w) h'.objs.size ((kvs.map (·.1)).zip its) := by rw [← mg]; exact hd
      have kp : ∀ b o, s1.heap.get? b = some o → h3.get? b = some o := fun b o e => hk3 b o (low b (Heap.lt_size e)) (hk b o e)
      refine ⟨.ref h'.objs.size, _, I1.laid (a := h'.objs.size) (o := .dK kvs) (h' := h3) (t' := tk) kp (by rw [hsz]; exact Nat.le_add_right _ _) ⟨by rw [lk, ← lz]; exact hz, beq_eq_false_iff_ne.mpr (Ne.symm (Nat.ne_of_lt big)), (kvs.map (·.1)).zip its, ?_, hd⟩, rfl, qq _ fr⟩
      refine paired_of (by rw [List.length_zip, List.length_map, Nat.min_eq_left li]) fun j a b ea eb => ?_
      obtain ⟨f1, f2⟩ := List.getElem?_zip_eq_some.mp eb
      rw [List.getElem?_map, ea] at f1
      simp only [Option.map_some, Option.some.injEq] at f1
      refine ⟨f1, ?_⟩
      obtain ⟨y, ey, ry⟩ := vals_at rv f2
      obtain ⟨pq, e3, e4, _⟩ : ∃ pq : V × V, (xs.zip ys)[j]? = some pq ∧ a.2 = pq.2 ∧ True := by
        have hj : j < (xs.zip ys).length := by rw [← paired_len rk]; exact (List.getElem?_eq_some_iff.mp ea).1
        obtain ⟨a2, g1, g2, _⟩ := paired_at rk (List.getElem?_eq_getElem hj)
        rw [ea] at g1; cases g1
        exact ⟨_, List.getElem?_eq_getElem hj, g2, trivial⟩
      have := (List.getElem?_zip_eq_some.mp e3).2
      rw [ey] at this
      cases this
      rw [e4]; exact ry
  · have lk : kvs.length = min xs.length ys.length := by rw [paired_len rk, lz]
    have li : kvs.length ≤ its.length := by rw [lk, ← rv.length]; exact Nat.min_le_right ..
    have lx : kvs.length ≤ (xs.map adrV).length := by rw [lk, List.length_map]; exact Nat.min_le_left ..
    have l2 : kvs.length ≤ ((xs.map adrV).zip its).length := by rw [List.length_zip]; exact Nat.le_min.mpr ⟨lx, li⟩
    have ats : ∀ (j : Nat) (x : List Key × Addr × Value), ((kvs.map (·.1)).zip ((xs.map adrV).zip its))[j]? = some x → ∃ pq, kvs[j]? = some pq ∧ x.1 = pq.1 ∧ H1 x.2.1 = some (.tup (pq.1.map kV)) ∧ RelV pq.2 x.2.2 := fun j x ex => by
      obtain ⟨f1, f2⟩ := List.getElem?_zip_eq_some.mp ex
      obtain ⟨f3, f4⟩ := List.getElem?_zip_eq_some.mp f2
      rw [List.getElem?_map] at f1 f3
      obtain ⟨pq, g1, g2⟩ := Option.map_eq_some_iff.mp f1
      obtain ⟨xv, g3, g4⟩ := Option.map_eq_some_iff.mp f3
      obtain ⟨y, ey, ry⟩ := vals_at rv f4
      obtain ⟨a2, y1, y2, b, y3, y4⟩ := paired_at rk (show (xs.zip ys)[j]? = some (xv, y) from List.getElem?_zip_eq_some.mpr ⟨g3, ey⟩)
      rw [g1] at y1; cases y1
      have y3 : xv = V.ref b := y3
      subst y3
      refine ⟨pq, g1, g2.symm, ?_, ?_⟩
      · rw [← g4]; exact y4
      · rw [show pq.2 = y from y2]; exact ry
    have mf : ((kvs.map (·.1)).zip ((xs.map adrV).zip its)).map (·.1) = kvs.map (·.1) := fstZip (by rw [List.length_map]; exact l2)
    refine call_dict_pairsH (knd := tupleKind (mixKind X.prog X.w)) (ps := (kvs.map (·.1)).zip ((xs.map adrV).zip its)) (s := { s1 with heap := h' }) PA hh (by show X.A.units + 1 + 1 < cLine; omega) ok ⟨by rw [List.length_zip, List.length_map, Nat.min_eq_left l2, lk], fun i key v ⟨y1, y2⟩ => ?_⟩ (fun hq hkq x hx => ?_) (by rw [← lz]; exact hz) fun h3 tk hd hk3 => ?_
    · obtain ⟨x, ex, rx⟩ := (d1 _ hh).item _ _ y1
      have ev := fx _ _ y2
      obtain ⟨y, ey, _⟩ := (d2 _ hh).item _ _ y2
      obtain ⟨pq, e3, e4, b, e5, e6⟩ := paired_at rk (show (xs.zip ys)[i]? = some (x, y) from List.getElem?_zip_eq_some.mpr ⟨ex, ey⟩)
      have e5 : x = V.ref b := e5
      subst e5
      refine ⟨pq.1, b, List.getElem?_zip_eq_some.mpr ⟨by rw [List.getElem?_map, e3]; rfl, List.getElem?_zip_eq_some.mpr ⟨by rw [List.getElem?_map, ex]; rfl, ev⟩⟩, rx⟩
    · obtain ⟨j, hj⟩ := List.mem_iff_getElem?.mp hx
      obtain ⟨pq, g1, g2, g3, g4⟩ := ats j x hj
      obtain ⟨_, its', r, o, w1, w2, n, w3⟩ := (show ObjOk X.prog X.w H1 h' x.2.1 (.tup (pq.1.map kV)) from I2.hok _ _ g3)
      have w0 : x.2.1 < s1.heap.objs.size := (I1.hok.lt g3)
      rw [g2]
      exact ⟨o, its'.toArray, n, hkq _ _ (Nat.ne_of_lt (Heap.lt_size w1)) (low _ w0) w1, w2, w3, by simpa using items_are r⟩
    · have mg : storedAllH [] ((kvs.map (·.1)).zip ((xs.map adrV).zip its)) = (kvs.map (·.1)).zip ((xs.map adrV).zip its) := storedAllH_nd (acc := []) (by rw [List.nil_append, mf]; exact nd)
      rw [mg] at hd
      obtain ⟨o, es, ep, w1, w2, w3, w4, _, w6⟩ := hd
      have kp : ∀ b o, s1.heap.get? b = some o → h3.get? b = some o := fun b o e => hk3 b o (low b (Heap.lt_size e)) (hk b o e)
      refine ⟨.ref h'.objs.size, _, I1.laid (a := h'.objs.size) (o := .dT kvs) (h' := h3) (t' := tk) kp (by rw [hsz]; exact Nat.le_add_right _ _) ⟨by rw [lk, ← lz]; exact hz, beq_eq_false_iff_ne.mpr (Ne.symm (Nat.ne_of_lt big)), (kvs.map (·.1)).zip ((xs.map adrV).zip its), ?_, o, es, ep, w1, w2, w3, w4, w6⟩, rfl, qq _ fr⟩
      refine paired_of (by rw [List.length_zip, List.length_map, Nat.min_eq_left l2]) fun j a b ea eb => ?_
      obtain ⟨pq, g1, g2, g3, g4⟩ := ats j b eb
      rw [ea] at g1; cases g1
      refine ⟨g2.symm, ?_, g4⟩
      rw [upd_ne (fun z => by rw [z, fr] at g3; cases g3)]
      exact g3
end
/-! ### .. of data -/
def keysT : List D → Option (List (List Key))
  | [] => some []
  | .tup ys :: ds => match keysOf ys, keysT ds with
    | some k, some ks => some (k :: ks)
    | _, _ => none
  | _ :: _ => none
def seqD : D → R (List D)
  | .lst xs => .ok xs
  | .tup xs => .ok xs
  | _ => .stk
def dictZ (x y : D) : R D := do
  let xs ← itD x
  let ys ← seqD y
  if xs.length = ys.length ∧ szOk xs.length = true then
    match keysOf xs with
    | some ks => if ks.Nodup then .ok (.dik ks ys) else .stk
    | none => match keysT xs with
      | some ks => if ks.Nodup then .ok (.dit ks ys) else .stk
      | none => .stk
  else .stk
def cDictZip (m : AM) : EM := fun ρ => do
  let (hs, ρ1) ← m ρ
  match hs with
  | [h, h2] => do
    let x ← (h.d ρ1).nox
    let y ← (h2.d ρ1).nox
    let d ← (dictZ x y).nox
    pure (.fr d, ρ1)
  | _ => .stk
theorem keysT_rep {K : PySem.W.Frag} {H : Hp} {P : Pr} : ∀ {ds : List D} {vs : List V} {ks : List (List Key)}, Reps K H ds P vs → keysT ds = some ks → ks.length = vs.length ∧ ∀ (j : Nat) k v, ks[j]? = some k → vs[j]? = some v → ∃ b, v = .ref b ∧ H b = some (.tup (k.map kV))
  | [], vs, ks, h, e => by
    simp [keysT] at e; subst e
    have := h.nil_iff
    subst this
    exact ⟨rfl, fun j k v q => by simp at q⟩
  | d :: ds, vs, ks, h, e => by
    obtain ⟨v, ws, rfl, h1, h2⟩ := h.cons_iff
    cases d <;> simp only [keysT, reduceCtorEq] at e
    rename_i ys
    cases q : keysOf ys with
    | none => rw [q] at e; simp at e
    | some k =>
      cases r : keysT ds with
      | none => rw [q, r] at e; simp at e
      | some ks' =>
        rw [q, r] at e
        simp only [Option.some.injEq] at e
        subst e
        obtain ⟨i1, i2⟩ := keysT_rep h2 r
        refine ⟨by simp [i1], fun j k2 v2 e1 e2 => ?_⟩
        cases j with
        | succ j => exact i2 j k2 v2 (by simpa using e1) (by simpa using e2)
        | zero =>
          simp at e1 e2
          subst e1 e2
          unfold Rep at h1
          obtain ⟨b, us, rfl, g1, g2⟩ := h1
          exact ⟨b, rfl, by rw [g1, keysOf_rep g2 q]⟩
section
variable {X : Cx} {P0 : Pr} {O W : List Nat} {E : EK} {a b : Expr} {ms : AM} {pos : Pos}
theorem seqD_ok {y : D} {ys : List D} (h : seqD y = .ok ys) : itD y = .ok ys ∧ ∀ z, y ≠ .str z := by
  cases y <;> simp only [seqD, reduceCtorEq, R.ok.injEq] at h
  · subst h; exact ⟨rfl, fun z e => by cases e⟩
  · subst h; exact ⟨rfl, fun z e => by cases e⟩
theorem ce_dictZip {p p2 q : Pos} (hun : X.A.units + 64 < cLine) (hc : X.calm = true) (hm : X.mg "dict" = none) (hm2 : X.mg "zip" = none) (ha : CA X P0 O W E [a, b] ms) (hg : Gl X "dict" := by rfl) (hg2 : Gl X "zip" := by rfl)
    (hs : starEach [.Call (.Name "zip" p2) [a, b] [] q] X.env = (false, eval (.Call (.Name "zip" p2) [a, b] [] q) X.env) :: starEach [] X.env := by rfl)
    (hs2 : starEach [a, b] X.env = (false, eval a X.env) :: starEach [b] X.env := by rfl) (hpl : (backTo q (starEach [b] X.env)).any (·.1) = false := by rfl) :
    CEx X P0 O W E (.Call (.Name "dict" p) [.Call (.Name "zip" p2) [a, b] [] q] [] pos) (cDictZip ms) := PE.imp (pe_dictZip hun hc hg hm hg2 hm2 ha hs hs2 hpl) fun σ H Q ⟨ρ, S, h⟩ => by
  refine ⟨ρ, S, h.of_bind.mono fun ⟨hs, ρ1⟩ q vs H1 S1 k1 r1 => ?_⟩
  match hs, r1, q with
  | [h, h2], r1, q =>
    obtain ⟨v, ws, rfl, t1, t2⟩ := r1
    obtain ⟨w, us, rfl, t3, t4⟩ := t2
    have t4 : us = [] := t4
    subst t4
    obtain ⟨x, ex, q1⟩ := Res.of_nox (show Res E W σ H ((h.d ρ1).nox >>= _) _ from q)
    obtain ⟨y, ey, q2⟩ := q1.of_nox
    obtain ⟨d, ed, q3⟩ := q2.of_nox
    clear q q1 q2
    obtain ⟨xs, e1, ed⟩ := R.ok_of ed
    obtain ⟨ys, e2, ed⟩ := R.ok_of ed
    obtain ⟨e2, ns⟩ := seqD_ok e2
    obtain ⟨c1, vs1, rfl, f1, g1, _⟩ := (t1.d S1 ex).kd e1
    obtain ⟨c2, vs2, rfl, f2, g2, kk⟩ := (t3.d S1 ey).kd e2
    have nt : ∀ z, c2 ≠ .s z := fun z e => by
      subst e
      cases y <;> simp [kdOf, Kd.val] at kk
      · exact ns _ rfl
    by_cases c : xs.length = ys.length ∧ szOk xs.length = true
    · rw [if_pos c] at ed
      have l1 : vs1.length = xs.length := g1.length
      have l2 : vs2.length = ys.length := g2.length
      have lz : (vs1.zip vs2).length = xs.length := by rw [List.length_zip, l1, l2, ← c.1, Nat.min_self]
      refine ⟨c1, c2, vs1, vs2, rfl, f1, f2, nt, by rw [lz]; exact of_decide_eq_true c.2, ?_⟩
      cases ek : keysOf xs with
      | some ks =>
        rw [ek] at ed
        by_cases nd : ks.Nodup
        · have ed : (if ks.Nodup then R.ok (D.dik ks ys) else R.stk) = R.ok d := ed
          rw [if_pos nd] at ed
          cases ed
          have eks := keysOf_rep g1 ek
          have lk : ks.length = vs2.length := by rw [l2, ← c.1, ← l1, eks, List.length_map]
          refine .inl ⟨ks.zip vs2, paired_of (by rw [List.length_zip, List.length_zip]; have c1 := c.1; omega) fun j p pq ea eb => ?_, by rw [fstZip (Nat.le_of_eq lk)]; exact nd, fun p np => ?_⟩
          · obtain ⟨z1, z2⟩ := List.getElem?_zip_eq_some.mp ea
            obtain ⟨z3, z4⟩ := List.getElem?_zip_eq_some.mp eb
            rw [z2] at z4
            rw [eks, List.getElem?_map, z1] at z3
            refine ⟨Option.some.inj z4, (Option.some.inj z3).symm⟩
          · have kp : ∀ b o, H1 b = some o → upd H1 p (.dK (ks.zip vs2)) b = some o := fun b o e => by rw [upd_ne (ne_of_none e np)]; exact e
            have m2 := g2.mono ys S1.dom (fun b o e _ => kp b o e) (P' := fun b => FA P0 O σ b ∨ b = p) (fun b z => z.elim .inl fun z => .inr (by rw [z]; exact np))
            refine out_of (K := X.K) S1 k1 q3 _ _ kp ?_ fun _ a e => by cases e; exact np
            unfold Rep
            exact ⟨p, vs2, rfl, fun z => (S1.dom p z).some np, lk, .inl upd_same, m2⟩
        · have ed : (if ks.Nodup then R.ok (D.dik ks ys) else R.stk) = R.ok d := ed
          rw [if_neg nd] at ed
          cases ed
      | none =>
        rw [ek] at ed
        have ed : (match keysT xs with | some ks => if ks.Nodup then R.ok (D.dit ks ys) else R.stk | none => R.stk) = R.ok d := ed
        cases et : keysT xs with
        | none => rw [et] at ed; cases ed
        | some ks =>
          rw [et] at ed
          by_cases nd : ks.Nodup
          · have ed : (if ks.Nodup then R.ok (D.dit ks ys) else R.stk) = R.ok d := ed
            rw [if_pos nd] at ed
            cases ed
            obtain ⟨lk1, eks⟩ := keysT_rep g1 et
            have lk : ks.length = vs2.length := by rw [l2, ← c.1, ← l1, lk1]
            refine .inr ⟨ks.zip vs2, paired_of (by rw [List.length_zip, List.length_zip]; have c1 := c.1; omega) fun j p pq ea eb => ?_, by rw [fstZip (Nat.le_of_eq lk)]; exact nd, fun p np => ?_⟩
            · obtain ⟨z1, z2⟩ := List.getElem?_zip_eq_some.mp ea
              obtain ⟨z3, z4⟩ := List.getElem?_zip_eq_some.mp eb
              rw [z2] at z4
              refine ⟨Option.some.inj z4, eks j _ _ z1 z3⟩
            · have kp : ∀ b o, H1 b = some o → upd H1 p (.dT (ks.zip vs2)) b = some o := fun b o e => by rw [upd_ne (ne_of_none e np)]; exact e
              have m2 := g2.mono ys S1.dom (fun b o e _ => kp b o e) (P' := fun b => FA P0 O σ b ∨ b = p) (fun b z => z.elim .inl fun z => .inr (by rw [z]; exact np))
              refine out_of (K := X.K) S1 k1 q3 _ _ kp ?_ fun _ a e => by cases e; exact np
              unfold Rep
              exact ⟨p, vs2, rfl, fun z => (S1.dom p z).some np, lk, .inl upd_same, m2⟩
          · have ed : (if ks.Nodup then R.ok (D.dit ks ys) else R.stk) = R.ok d := ed
            rw [if_neg nd] at ed
            cases ed
    · rw [if_neg c] at ed
      cases ed
  | [], _, q => exact q.elim
  | [_], _, q => exact q.elim
  | _ :: _ :: _ :: _, _, q => exact q.elim
end
variable {ρ : Y.Env}
@[simp] theorem e_dictZip {m : AM} : cDictZip m ρ = (m ρ >>= fun p => match p.1 with | [h, h2] => ((h.d p.2).nox >>= fun x => (h2.d p.2).nox >>= fun y => (dictZ x y).nox >>= fun d => R.ok (.fr d, p.2)) | _ => .stk) := by
  unfold cDictZip; congr
end Y

set_option Elab.async false
set_option linter.all false
set_option maxRecDepth 100000
namespace Y
open PySem PySem.Spec PyProof.Rows L2
/-! ### x.remove(e), x an own list of whole numbers -/
def posI (k : Int) : List Int → Option Nat
  | [] => none
  | n :: ns => if n = k then some 0 else (posI k ns).map (· + 1)
theorem posI_ok {k : Int} : ∀ {ns : List Int} {j : Nat}, posI k ns = some j → ns[j]? = some k ∧ ∀ m : Nat, m < j → ns[m]? ≠ some k
  | [], j, h => by simp [posI] at h
  | n :: ns, j, h => by
    unfold posI at h
    by_cases e : n = k
    · rw [if_pos e] at h
      cases h
      exact ⟨by simp [e], fun m hm => by omega⟩
    · rw [if_neg e] at h
      obtain ⟨i, hi, rfl⟩ := Option.map_eq_some_iff.mp h
      obtain ⟨h1, h2⟩ := posI_ok hi
      refine ⟨by simpa using h1, fun m hm => ?_⟩
      cases m with
      | zero => simpa using e
      | succ m => simpa using h2 m (by omega)
def sRemove (i : Nat) (m : EM) : SM := fun ρ => do
  let _ ← (lstAt i ρ).nox
  let (h, ρ1) ← m ρ
  let d ← (h.d ρ1).nox
  let ds ← (lstAt i ρ1).nox
  match d with
  | .int k => match intsOf ds with
    | some ns => match posI k ns with
      | some j => pure (.nx, ρ1.set i (some (.lst ((ns.eraseIdx j).map D.int))))
      | none => .stk
    | none => .stk
  | _ => .stk
section
variable {X : Cx} {P0 : Pr} {O W U : List Nat} {E : EK} {e : Expr} {ma : EM} {K : PySem.W.Frag} {pos : Pos}
theorem tM_remove {i : Nat} (hi : i ∈ O) (D : Ends) (σ : L2.St) (H : Hp) (h : tSt K P0 O W U E (sRemove i ma) D σ H) : tDrop (tBM K "list" rRemI (tVar i) (tCons (tM K P0 O W E ma) tNil)) D σ H := by
  obtain ⟨ρ, S, h⟩ := h
  obtain ⟨ds0, e0, h⟩ := h.of_nox
  obtain ⟨l, vs0, h1, h2, _⟩ := S.lst hi (lstAt_ok e0)
  refine ⟨.ref l, h1, .inl ⟨rfl, _, SqL.of h2⟩, ρ, S, (h.of_bind.down S.sub).mono fun ⟨hd, ρ1⟩ q v H1 S1 k1 r1 => ?_⟩
  obtain ⟨d, e1, q⟩ := q.of_nox
  obtain ⟨ds, e2, q⟩ := q.of_nox
  obtain ⟨l', vs, h1', h3, h4⟩ := S1.lst hi (lstAt_ok e2)
  rw [h1] at h1'
  cases h1'
  have rd := HdR.d S1 r1 e1
  cases d <;> first | (exact q.elim) | skip
  rename_i k _
  have ev : v = V.int k := rd.int
  subst ev
  have q : Res E O σ H (match intsOf ds with
    | some ns => (match posI k ns with
      | some j => R.ok (Fl.nx, ρ1.set i (some (.lst ((ns.eraseIdx j).map Y.D.int))))
      | none => .stk)
    | none => .stk) _ := q
  cases en : intsOf ds with
  | none => rw [en] at q; exact q.elim
  | some ns =>
    rw [en] at q
    cases ej : posI k ns with
    | none =>
      simp only [ej] at q
      exact q.elim
    | some j =>
      simp only [ej] at q
      obtain ⟨g1, g2⟩ := posI_ok ej
      have h4' := ints_rep en h4
      subst h4'
      refine ⟨l, ns, k, j, rfl, rfl, h3, g1, g2, ?_⟩
      exact q σ _ (S1.lstW hi h1 h3 (reps_ints _)) (Tr.ownW S.sub k1 hi h1) rfl
theorem cs_remove {i : Nat} {x : Str} {p ap cp : Pos} (h : CEx X P0 O W E e ma) (hi : i ∈ O := by decide) (hx : X.N[i]? = some x := by rfl) (hv : Vis X.env.scope x := by first | exact Or.inl rfl | exact Or.inr (Or.inl rfl) | exact Or.inr (Or.inr rfl)) (hd : (x == ("__debug__" : Str)) = false := by decide) (hcd : (x == ("__classdict__" : Str)) = false := by decide)
    (he : starEach [e] X.env = (false, eval e X.env) :: starEach [] X.env := by rfl) (hpl : (backTo cp (starEach [] X.env)).any (·.1) = false := by rfl) (hbase : attributeBase (.Name x p) "remove" X.env (eval (.Name x p) X.env) = eval (.Name x p) X.env := by rfl) (hline : (ap.endLine == cp.line) = true := by rfl)
    (hfew : Few X cp [e] := by rfl) (hsw : swapsWith (.Call (.Attribute (.Name x p) "remove" ap) [e] [] cp) none pos.line X.env = pure false := by rfl) :
    CS X P0 O W U E (.Expr (.Call (.Attribute (.Name x p) "remove" ap) [e] [] cp) pos) (sRemove i ma) :=
  PS.imp (ps_expr (pe_bm PySem.F.plainAttrs_list PySem.F.slot_list_remove PySem.F.type_list_remove mt_remove (pe_var (i := i) hx hv hd hcd) (pa_cons h pa_nil he) hbase hfew hline he hpl) hsw) (tM_remove hi)
end
variable {ρ : Y.Env}
@[simp] theorem e_remove {i : Nat} {m : EM} : sRemove i m ρ = ((lstAt i ρ).nox >>= fun _ => m ρ >>= fun p => (p.1.d p.2).nox >>= fun d => (lstAt i p.2).nox >>= fun ds => match d with
  | .int k => match intsOf ds with
    | some ns => match posI k ns with
      | some j => R.ok (Fl.nx, p.2.set i (some (.lst ((ns.eraseIdx j).map D.int))))
      | none => .stk
    | none => .stk
  | _ => .stk) := by
  unfold sRemove; congr
end Y

set_option Elab.async false
set_option linter.all false
set_option maxRecDepth 100000
namespace C
open PySem PySem.Spec PyProof.Rows L2 Y
/-- slots: 0:thing -/
noncomputable def m_is_whole : SM := sRet (cAnd (cIsi isInt (cVar 0)) (cNot (cIsi isBl (cVar 0))))
noncomputable def g_is_whole : List D → R Hd := fnP 1 1 m_is_whole
/-- slots: 0:thing 1:many -/
noncomputable def m_is_upto : SM := sRet (cAnd (cCallF g_is_whole (cCons (cVar 0) (cNil))) (cChain leD ltD (cC (.int 0)) (cVar 0) (cVar 1)))
noncomputable def g_is_upto : List D → R Hd := fnP 2 2 m_is_upto
/-- slots: 0:thing 1:many 2:one -/
noncomputable def e_are_bits_1 : EM := cCallF g_is_upto (cCons (cVar 2) (cCons (cC (.int 2)) (cNil)))
noncomputable def m_are_bits : SM := sRet (cAnd (cIsi isTup (cVar 0)) (cAnd (cOp eqD (cCall lenD (cCons (cVar 0) (cNil))) (cVar 1)) (cCall allD (cCons (cComp (cIter (cVar 0)) (tmName 2) (cYes) (e_are_bits_1) [2]) (cNil)))))
noncomputable def g_are_bits : List D → R Hd := fnP 2 3 m_are_bits
/-- slots: 0:net 1:thing -/
noncomputable def m_is_stand : SM := sRet (cCallF g_are_bits (cCons (cVar 1) (cCons (cCall lenD (cCons (cVar 0) (cNil))) (cNil))))
noncomputable def g_is_stand : List D → R Hd := fnP 2 2 m_is_stand
/-- slots: 0:net 1:thing -/
noncomputable def m_look_at_stand : SM := sIf (cNotT (cTru (cCallF g_is_stand (cCons (cVar 0) (cCons (cVar 1) (cNil)))))) (sRaise "NoStand") (sSkip)
noncomputable def g_look_at_stand : List D → R Hd := fnP 2 2 m_look_at_stand
/-- slots: 0:many 1:found 2:k 3:stand -/
noncomputable def e_stands_of_1 : EM := cOp addD (cTup (cCons (cC (.int 0)) (cNil))) (cVar 3)
noncomputable def e_stands_of_2 : EM := cOp addD (cTup (cCons (cC (.int 1)) (cNil))) (cVar 3)
noncomputable def b_stands_of_1 : SM := sAsg (cOp addD (cComp (cIter (cVar 1)) (tmName 3) (cYes) (e_stands_of_1) [3]) (cComp (cIter (cVar 1)) (tmName 3) (cYes) (e_stands_of_2) [3])) (tmName 1)
noncomputable def m_stands_of : SM := sSeq (sAsg (cLst (cCons (cTup (cNil)) (cNil))) (tmName 1)) (sSeq (sFor [] (cRange rng1D (cCons (cVar 0) (cNil))) (tmName 2) (b_stands_of_1) [2]) (sRet (cVar 1)))
noncomputable def g_stands_of : List D → R Hd := fnP 1 4 m_stands_of
/-- slots: 0:bits 1:place 2:bit -/
noncomputable def b_place_of_1 : SM := sAsg (cOp addD (cOp mulD (cC (.int 2)) (cVar 1)) (cVar 2)) (tmName 1)
noncomputable def m_place_of : SM := sSeq (sAsg (cC (.int 0)) (tmName 1)) (sSeq (sFor [] (cIter (cVar 0)) (tmName 2) (b_place_of_1) [2]) (sRet (cVar 1)))
noncomputable def g_place_of : List D → R Hd := fnP 1 3 m_place_of
/-- slots: 0:net 1:stand 2:k 3:ears 4:table 5:ear -/
noncomputable def e_ought_1 : EM := cIx (cVar 1) (cVar 5)
noncomputable def m_ought : SM := sSeq (sAsg (cIx (cVar 0) (cVar 2)) (tmTup [3, 4])) (sRet (cIx (cVar 4) (cCallF g_place_of (cCons (cComp (cIter (cVar 3)) (tmName 5) (cYes) (e_ought_1) [5]) (cNil)))))
noncomputable def g_ought : List D → R Hd := fnP 3 6 m_ought
/-- slots: 0:net 1:stand 2:k -/
noncomputable def t_wrong_ones_1 : BM := cBl (cOp neD (cCallF g_ought (cCons (cVar 0) (cCons (cVar 1) (cCons (cVar 2) (cNil))))) (cIx (cVar 1) (cVar 2)))
noncomputable def e_wrong_ones_1 : EM := cVar 2
noncomputable def m_wrong_ones : SM := sSeq (sExpr (cCallF g_look_at_stand (cCons (cVar 0) (cCons (cVar 1) (cNil))))) (sRet (cComp (cRange rng1D (cCons (cCall lenD (cCons (cVar 0) (cNil))) (cNil))) (tmName 2) (t_wrong_ones_1) (e_wrong_ones_1) [2]))
noncomputable def g_wrong_ones : List D → R Hd := fnP 2 3 m_wrong_ones
/-- slots: 0:net 1:stand -/
noncomputable def t_rests_of_1 : BM := cBl (cOp eqD (cCallF g_wrong_ones (cCons (cVar 0) (cCons (cVar 1) (cNil)))) (cLst (cNil)))
noncomputable def e_rests_of_1 : EM := cVar 1
noncomputable def m_rests_of : SM := sRet (cComp (cIter (cCallF g_stands_of (cCons (cCall lenD (cCons (cVar 0) (cNil))) (cNil)))) (tmName 1) (t_rests_of_1) (e_rests_of_1) [1])
noncomputable def g_rests_of : List D → R Hd := fnP 1 2 m_rests_of
/-- slots: 0:script 1:k -/
noncomputable def m__law_cell : SM := sSeq (sIf (cBl (cOp ltD (cVar 1) (cCall lenD (cCons (cVar 0) (cNil))))) (sRet (cIx (cVar 0) (cVar 1))) (sSkip)) (sRet (cOp addD (cOp mulD (cC (.int 6151)) (cVar 1)) (cC (.int 29))))
noncomputable def g__law_cell : List D → R Hd := fnP 2 2 m__law_cell
/-- slots: 0:cell 1:k 2:number -/
noncomputable def m__law_mix : SM := sSeq (sAsg (cOp addD (cOp mulD (cOp addD (cVar 0) (cC (.int 1))) (cC (.int 40692))) (cOp mulD (cC (.int 104729)) (cVar 1))) (tmName 2)) (sSeq (sAsg (cOp addD (cOp modD (cOp mulD (cVar 2) (cVar 2)) (cC (.int 2147483399))) (cVar 1)) (tmName 2)) (sRet (cOp modD (cOp mulD (cVar 2) (cOp addD (cVar 2) (cC (.int 31)))) (cC (.int 2147483563)))))
noncomputable def g__law_mix : List D → R Hd := fnP 2 3 m__law_mix
/-- slots: 0:script 1:k 2:here 3:number 4:j -/
noncomputable def b__law_box_1 : SM := sAsg (cOp addD (cOp mulD (cVar 3) (cC (.int 2147483647))) (cCallF g__law_mix (cCons (cVar 2) (cCons (cVar 4) (cNil))))) (tmName 3)
noncomputable def m__law_box : SM := sSeq (sAsg (cCallF g__law_cell (cCons (cVar 0) (cCons (cVar 1) (cNil)))) (tmName 2)) (sSeq (sIf (cBl (cOp eqD (cOp modD (cVar 2) (cC (.int 2))) (cC (.int 0)))) (sRet (cLst (cCons (cOp fdivD (cVar 2) (cC (.int 2))) (cNil)))) (sSkip)) (sSeq (sAsg (cC (.int 0)) (tmName 3)) (sSeq (sFor [] (cRange rng1D (cCons (cC (.int 24)) (cNil))) (tmName 4) (b__law_box_1) [4]) (sRet (cLst (cCons (cVar 3) (cNil)))))))
noncomputable def g__law_box : List D → R Hd := fnP 2 5 m__law_box
/-- slots: 0:box 1:many 2:left 3:digit -/
noncomputable def m__law_take : SM := sSeq (sAsg (cCall divmodD (cCons (cIx (cOwn 0) (cC (.int 0))) (cCons (cVar 1) (cNil)))) (tmTup [2, 3])) (sSeq (sSetIx 0 (cC (.int 0)) (cVar 2)) (sRet (cVar 3)))
noncomputable def g__law_take : Fn := fnD 2 4 [0] m__law_take
/-- slots: 0:box 1:many 2:ears 3:size 4:number 5:mask 6:least 7:table 8:place 9:j -/
noncomputable def t__law_rule_1 : BM := cBl (cOp eqD (cCallIO [(0, 0)] g__law_take (cCons (cOwn 0) (cCons (cC (.int 3)) (cNil)))) (cC (.int 0)))
noncomputable def e__law_rule_1 : EM := cVar 9
noncomputable def e__law_rule_2 : EM := cOp andD (cOp shrD (cVar 4) (cVar 8)) (cC (.int 1))
noncomputable def e__law_rule_3 : EM := cOp andD (cOp shrD (cOp xorD (cVar 8) (cVar 5)) (cVar 9)) (cC (.int 1))
noncomputable def b__law_rule_1 : SM := sAppend 7 (cCall intOfD (cCons (cOp geD (cCall sumD (cCons (cComp (cRange rng1D (cCons (cCall lenD (cCons (cVar 2) (cNil))) (cNil))) (tmName 9) (cYes) (e__law_rule_3) [9]) (cNil))) (cVar 6)) (cNil)))
noncomputable def m__law_rule : SM := sSeq (sAsg (cCall tupleD (cCons (cSlice (cComp (cRange rng1D (cCons (cVar 1) (cNil))) (tmName 9) (t__law_rule_1) (e__law_rule_1) [9]) (cNoPart) (cPart (cC (.int 4)))) (cNil))) (tmName 2)) (sSeq (sAsg (cOp shlD (cC (.int 1)) (cCall lenD (cCons (cVar 2) (cNil)))) (tmName 3)) (sSeq (sIf (cBl (cOp gtD (cCallIO [(0, 0)] g__law_take (cCons (cOwn 0) (cCons (cC (.int 3)) (cNil)))) (cC (.int 0)))) (sSeq (sAsg (cCallIO [(0, 0)] g__law_take (cCons (cOwn 0) (cCons (cOp shlD (cC (.int 1)) (cVar 3)) (cNil)))) (tmName 4)) (sRet (cTup (cCons (cVar 2) (cCons (cCall tupleD (cCons (cComp (cRange rng1D (cCons (cVar 3) (cNil))) (tmName 8) (cYes) (e__law_rule_2) [8]) (cNil))) (cNil)))))) (sSkip)) (sSeq (sAsg (cCallIO [(0, 0)] g__law_take (cCons (cOwn 0) (cCons (cVar 3) (cNil)))) (tmName 5)) (sSeq (sAsg (cCallIO [(0, 0)] g__law_take (cCons (cOwn 0) (cCons (cOp addD (cCall lenD (cCons (cVar 2) (cNil))) (cC (.int 2))) (cNil)))) (tmName 6)) (sSeq (sOwn [0, 7] [0] (cLst (cNil)) 7) (sSeq (sFor [0] (cRange rng1D (cCons (cVar 3) (cNil))) (tmName 8) (b__law_rule_1) [8]) (sRet (cTup (cCons (cVar 2) (cCons (cCall tupleD (cCons (cOwn 7) (cNil))) (cNil)))))))))))
noncomputable def g__law_rule : Fn := fnD 2 10 [0] m__law_rule
/-- slots: 0:box 1:most 2:many 3:k -/
noncomputable def e__law_net_1 : EM := cCallIO [(0, 0)] g__law_rule (cCons (cOwn 0) (cCons (cVar 2) (cNil)))
noncomputable def m__law_net : SM := sSeq (sAsg (cOp addD (cC (.int 1)) (cCallIO [(0, 0)] g__law_take (cCons (cOwn 0) (cCons (cVar 1) (cNil))))) (tmName 2)) (sRet (cCall tupleD (cCons (cComp (cRange rng1D (cCons (cVar 2) (cNil))) (tmName 3) (cYes) (e__law_net_1) [3]) (cNil))))
noncomputable def g__law_net : Fn := fnD 2 4 [0] m__law_net
/-- slots: 0:many 1:found 2:number 3:j -/
noncomputable def e__law_stands_1 : EM := cOp andD (cOp shrD (cVar 2) (cOp subD (cOp subD (cVar 0) (cC (.int 1))) (cVar 3))) (cC (.int 1))
noncomputable def b__law_stands_1 : SM := sAppend 1 (cCall tupleD (cCons (cComp (cRange rng1D (cCons (cVar 0) (cNil))) (tmName 3) (cYes) (e__law_stands_1) [3]) (cNil)))
noncomputable def m__law_stands : SM := sSeq (sOwn [1] [] (cLst (cNil)) 1) (sSeq (sFor [] (cRange rng1D (cCons (cOp shlD (cC (.int 1)) (cVar 0)) (cNil))) (tmName 2) (b__law_stands_1) [2]) (sRet (cOwn 1)))
noncomputable def g__law_stands : List D → R Hd := fnP 1 4 m__law_stands
/-- slots: 0:net 1:stand 2:k 3:ears 4:table 5:place 6:ear -/
noncomputable def b__law_ought_1 : SM := sAsg (cOp addD (cOp mulD (cVar 5) (cC (.int 2))) (cIx (cVar 1) (cVar 6))) (tmName 5)
noncomputable def m__law_ought : SM := sSeq (sAsg (cIx (cVar 0) (cVar 2)) (tmTup [3, 4])) (sSeq (sAsg (cC (.int 0)) (tmName 5)) (sSeq (sFor [] (cIter (cVar 3)) (tmName 6) (b__law_ought_1) [6]) (sRet (cIx (cVar 4) (cVar 5)))))
noncomputable def g__law_ought : List D → R Hd := fnP 3 7 m__law_ought
/-- slots: 0:net 1:stand 2:k -/
noncomputable def t__law_wrong_1 : BM := cBl (cOp neD (cCallF g__law_ought (cCons (cVar 0) (cCons (cVar 1) (cCons (cVar 2) (cNil))))) (cIx (cVar 1) (cVar 2)))
noncomputable def e__law_wrong_1 : EM := cVar 2
noncomputable def m__law_wrong : SM := sRet (cComp (cRange rng1D (cCons (cCall lenD (cCons (cVar 0) (cNil))) (cNil))) (tmName 2) (t__law_wrong_1) (e__law_wrong_1) [2])
noncomputable def g__law_wrong : List D → R Hd := fnP 2 3 m__law_wrong
/-- slots: 0:rule 1:reading -/
noncomputable def m_told_at : SM := sRet (cIx (cIx (cVar 0) (cC (.int 1))) (cCallF g_place_of (cCons (cVar 1) (cNil))))
noncomputable def g_told_at : List D → R Hd := fnP 2 2 m_told_at
/-- slots: 0:case 1:reading 2:sign 3:bit -/
noncomputable def b_has_signs_1 : SM := sIf (cAndT (cBl (cOp neD (cVar 2) (cC (.str "-")))) (cBl (cOp neD (cVar 2) (cCall strOfD (cCons (cVar 3) (cNil)))))) (sRet (cC (.bl false))) (sSkip)
noncomputable def m_has_signs : SM := sSeq (sFor [] (cZipG (cCons (cVar 0) (cCons (cVar 1) (cNil)))) (tmTup [2, 3]) (b_has_signs_1) [2, 3]) (sRet (cC (.bl true)))
noncomputable def g_has_signs : List D → R Hd := fnP 2 4 m_has_signs
/-- slots: 0:rule 1:case 2:bit 3:reading -/
noncomputable def b_tells_bit_1 : SM := sIf (cAndT (cTru (cCallF g_has_signs (cCons (cVar 1) (cCons (cVar 3) (cNil))))) (cBl (cOp neD (cCallF g_told_at (cCons (cVar 0) (cCons (cVar 3) (cNil)))) (cVar 2)))) (sRet (cC (.bl false))) (sSkip)
noncomputable def m_tells_bit : SM := sSeq (sFor [] (cIter (cCallF g_stands_of (cCons (cCall lenD (cCons (cIx (cVar 0) (cC (.int 0))) (cNil))) (cNil)))) (tmName 3) (b_tells_bit_1) [3]) (sRet (cC (.bl true)))
noncomputable def g_tells_bit : List D → R Hd := fnP 3 4 m_tells_bit
/-- slots: 0:rule 1:case 2:bit 3:at 4:sign -/
noncomputable def b_is_case_1 : SM := sIf (cAndT (cBl (cOp neD (cVar 4) (cC (.str "-")))) (cTru (cCallF g_tells_bit (cCons (cVar 0) (cCons (cOp addD (cOp addD (cSlice (cVar 1) (cNoPart) (cPart (cVar 3))) (cC (.str "-"))) (cSlice (cVar 1) (cPart (cOp addD (cVar 3) (cC (.int 1)))) (cNoPart))) (cCons (cVar 2) (cNil))))))) (sRet (cC (.bl false))) (sSkip)
noncomputable def m_is_case : SM := sSeq (sIf (cNotT (cTru (cCallF g_tells_bit (cCons (cVar 0) (cCons (cVar 1) (cCons (cVar 2) (cNil))))))) (sRet (cC (.bl false))) (sSkip)) (sSeq (sFor [] (cEnumG (cCons (cVar 1) (cNil))) (tmTup [3, 4]) (b_is_case_1) [3, 4]) (sRet (cC (.bl true))))
noncomputable def g_is_case : List D → R Hd := fnP 3 5 m_is_case
/-- slots: 0:rule 1:bit 2:texts 3:ear 4:case 5:text -/
noncomputable def e_cases_of_1 : EM := cOp addD (cVar 5) (cC (.str "-"))
noncomputable def e_cases_of_2 : EM := cOp addD (cVar 5) (cC (.str "0"))
noncomputable def e_cases_of_3 : EM := cOp addD (cVar 5) (cC (.str "1"))
noncomputable def b_cases_of_1 : SM := sAsg (cOp addD (cOp addD (cComp (cIter (cVar 2)) (tmName 5) (cYes) (e_cases_of_1) [5]) (cComp (cIter (cVar 2)) (tmName 5) (cYes) (e_cases_of_2) [5])) (cComp (cIter (cVar 2)) (tmName 5) (cYes) (e_cases_of_3) [5])) (tmName 2)
noncomputable def t_cases_of_4 : BM := cTru (cCallF g_is_case (cCons (cVar 0) (cCons (cVar 4) (cCons (cVar 1) (cNil)))))
noncomputable def e_cases_of_4 : EM := cVar 4
noncomputable def m_cases_of : SM := sSeq (sAsg (cLst (cCons (cC (.str "")) (cNil))) (tmName 2)) (sSeq (sFor [] (cIter (cIx (cVar 0) (cC (.int 0)))) (tmName 3) (b_cases_of_1) [3]) (sRet (cCall sortD (cCons (cComp (cIter (cVar 2)) (tmName 4) (t_cases_of_4) (e_cases_of_4) [4]) (cNil)))))
noncomputable def g_cases_of : List D → R Hd := fnP 2 6 m_cases_of
/-- slots: 0:script 1:k 2:cell 3:number 4:mixed 5:j -/
noncomputable def b__law_box_2_1 : SM := sSeq (sAsg (cOp modD (cOp addD (cOp addD (cOp addD (cOp mulD (cVar 4) (cC (.int 48271))) (cOp mulD (cOp mulD (cC (.int 7)) (cVar 5)) (cVar 5))) (cOp mulD (cC (.int 11)) (cVar 1))) (cC (.int 1))) (cC (.int 2147483647))) (tmName 4)) (sAsg (cOp addD (cOp mulD (cVar 3) (cC (.int 2147483647))) (cVar 4)) (tmName 3))
noncomputable def m__law_box_2 : SM := sSeq (sAsg (cCallF g__law_cell (cCons (cVar 0) (cCons (cVar 1) (cNil)))) (tmName 2)) (sSeq (sIf (cBl (cOp eqD (cOp modD (cVar 2) (cC (.int 2))) (cC (.int 0)))) (sRet (cLst (cCons (cOp fdivD (cVar 2) (cC (.int 2))) (cNil)))) (sSkip)) (sSeq (sAsg (cC (.int 0)) (tmName 3)) (sSeq (sAsg (cOp modD (cVar 2) (cC (.int 2147483647))) (tmName 4)) (sSeq (sFor [] (cRange rng1D (cCons (cC (.int 24)) (cNil))) (tmName 5) (b__law_box_2_1) [5]) (sRet (cLst (cCons (cVar 3) (cNil))))))))
noncomputable def g__law_box_2 : List D → R Hd := fnP 2 6 m__law_box_2
/-- slots: 0:box 1:many 2:digit -/
noncomputable def m__law_take_2 : SM := sSeq (sAsg (cOp modD (cIx (cOwn 0) (cC (.int 0))) (cVar 1)) (tmName 2)) (sSeq (sSetIx 0 (cC (.int 0)) (cOp fdivD (cIx (cOwn 0) (cC (.int 0))) (cVar 1))) (sRet (cVar 2)))
noncomputable def g__law_take_2 : Fn := fnD 2 3 [0] m__law_take_2
/-- slots: 0:many 1:found 2:k 3:row -/
noncomputable def e__law_readings_1 : EM := cOp addD (cVar 3) (cTup (cCons (cC (.int 0)) (cNil)))
noncomputable def e__law_readings_2 : EM := cOp addD (cVar 3) (cTup (cCons (cC (.int 1)) (cNil)))
noncomputable def b__law_readings_1 : SM := sAsg (cOp addD (cComp (cIter (cVar 1)) (tmName 3) (cYes) (e__law_readings_1) [3]) (cComp (cIter (cVar 1)) (tmName 3) (cYes) (e__law_readings_2) [3])) (tmName 1)
noncomputable def m__law_readings : SM := sSeq (sAsg (cLst (cCons (cTup (cNil)) (cNil))) (tmName 1)) (sSeq (sFor [] (cRange rng1D (cCons (cVar 0) (cNil))) (tmName 2) (b__law_readings_1) [2]) (sRet (cCall sortD (cCons (cVar 1) (cNil)))))
noncomputable def g__law_readings : List D → R Hd := fnP 1 4 m__law_readings
/-- slots: 0:box 1:many 2:left 3:ears 4:k 5:rows 6:way 7:signs 8:least 9:table 10:ear 11:row -/
noncomputable def b__law_rule_2_1 : SM := sAppend 3 (cPopAt 2 (cCallIO [(0, 0)] g__law_take_2 (cCons (cOwn 0) (cCons (cCall lenD (cCons (cOwn 2) (cNil))) (cNil)))))
noncomputable def e__law_rule_2_1 : EM := cCallIO [(0, 0)] g__law_take_2 (cCons (cOwn 0) (cCons (cC (.int 2)) (cNil)))
noncomputable def e__law_rule_2_2 : EM := cC (.int 1)
noncomputable def e__law_rule_2_3 : EM := cCallIO [(0, 0)] g__law_take_2 (cCons (cOwn 0) (cCons (cC (.int 2)) (cNil)))
noncomputable def t__law_rule_2_4 : BM := cBl (cOp eqD (cIx (cVar 11) (cVar 4)) (cIx (cVar 7) (cVar 4)))
noncomputable def e__law_rule_2_4 : EM := cVar 4
noncomputable def e__law_rule_2_5 : EM := cCall intOfD (cCons (cOp geD (cCall lenD (cCons (cComp (cRange rng1D (cCons (cCall lenD (cCons (cOwn 3) (cNil))) (cNil))) (tmName 4) (t__law_rule_2_4) (e__law_rule_2_4) [4]) (cNil))) (cVar 8)) (cNil))
noncomputable def m__law_rule_2 : SM := sSeq (sOwn [0, 2, 3] [0, 2] (cRg1 true (cVar 1)) 2) (sSeq (sOwn [0, 2, 3] [0, 2] (cLst (cNil)) 3) (sSeq (sFor [0] (cRange rng1D (cCons (cCall min2D (cCons (cCallIO [(0, 0)] g__law_take_2 (cCons (cOwn 0) (cCons (cC (.int 5)) (cNil)))) (cCons (cVar 1) (cNil)))) (cNil))) (tmName 4) (b__law_rule_2_1) []) (sSeq (sAsg (cCallF g__law_readings (cCons (cCall lenD (cCons (cOwn 3) (cNil))) (cNil))) (tmName 5)) (sSeq (sAsg (cCallIO [(0, 0)] g__law_take_2 (cCons (cOwn 0) (cCons (cC (.int 3)) (cNil)))) (tmName 6)) (sSeq (sIf (cBl (cOp eqD (cVar 6) (cC (.int 0)))) (sRet (cTup (cCons (cCall tupleD (cCons (cCall sortD (cCons (cOwn 3) (cNil))) (cNil))) (cCons (cCall tupleD (cCons (cComp (cIter (cVar 5)) (tmName 11) (cYes) (e__law_rule_2_1) [11]) (cNil))) (cNil))))) (sSkip)) (sSeq (sAsg (cComp (cIter (cOwn 3)) (tmName 10) (cYes) (e__law_rule_2_2) [10]) (tmName 7)) (sSeq (sIf (cBl (cOp eqD (cVar 6) (cC (.int 1)))) (sAsg (cComp (cIter (cOwn 3)) (tmName 10) (cYes) (e__law_rule_2_3) [10]) (tmName 7)) (sSkip)) (sSeq (sAsg (cCallIO [(0, 0)] g__law_take_2 (cCons (cOwn 0) (cCons (cOp addD (cCall lenD (cCons (cOwn 3) (cNil))) (cC (.int 2))) (cNil)))) (tmName 8)) (sSeq (sAsg (cComp (cIter (cVar 5)) (tmName 11) (cYes) (e__law_rule_2_5) [11]) (tmName 9)) (sRet (cTup (cCons (cCall tupleD (cCons (cCall sortD (cCons (cOwn 3) (cNil))) (cNil))) (cCons (cCall tupleD (cCons (cVar 9) (cNil))) (cNil))))))))))))))
noncomputable def g__law_rule_2 : Fn := fnD 2 12 [0] m__law_rule_2
/-- slots: 0:case 1:row 2:sign 3:bit -/
noncomputable def e__law_has_1 : EM := cOp inD (cVar 2) (cLst (cCons (cC (.str "-")) (cCons (cCall strOfD (cCons (cVar 3) (cNil))) (cNil))))
noncomputable def m__law_has : SM := sRet (cCall allD (cCons (cComp (cZipG (cCons (cVar 0) (cCons (cVar 1) (cNil)))) (tmTup [2, 3]) (cYes) (e__law_has_1) [2, 3]) (cNil)))
noncomputable def g__law_has : List D → R Hd := fnP 2 4 m__law_has
/-- slots: 0:rule 1:case 2:rows 3:k -/
noncomputable def t__law_hits_1 : BM := cTru (cCallF g__law_has (cCons (cVar 1) (cCons (cIx (cVar 2) (cVar 3)) (cNil))))
noncomputable def e__law_hits_1 : EM := cIx (cIx (cVar 0) (cC (.int 1))) (cVar 3)
noncomputable def m__law_hits : SM := sSeq (sAsg (cCallF g__law_readings (cCons (cCall lenD (cCons (cIx (cVar 0) (cC (.int 0))) (cNil))) (cNil))) (tmName 2)) (sRet (cComp (cRange rng1D (cCons (cCall lenD (cCons (cVar 2) (cNil))) (cNil))) (tmName 3) (t__law_hits_1) (e__law_hits_1) [3]))
noncomputable def g__law_hits : List D → R Hd := fnP 2 4 m__law_hits
/-- slots: 0:thing 1:many 2:one 3:other -/
noncomputable def e_are_rising_1 : EM := cCallF g_is_upto (cCons (cVar 2) (cCons (cVar 1) (cNil)))
noncomputable def e_are_rising_2 : EM := cOp ltD (cVar 2) (cVar 3)
noncomputable def m_are_rising : SM := sSeq (sIf (cOrT (cNotT (cTru (cIsi isTup (cVar 0)))) (cNotT (cTru (cCall allD (cCons (cComp (cIter (cVar 0)) (tmName 2) (cYes) (e_are_rising_1) [2]) (cNil)))))) (sRet (cC (.bl false))) (sSkip)) (sRet (cCall allD (cCons (cComp (cZipG (cCons (cSlice (cVar 0) (cNoPart) (cPart (cNeg (cC (.int 1))))) (cCons (cSlice (cVar 0) (cPart (cC (.int 1))) (cNoPart)) (cNil)))) (tmTup [2, 3]) (cYes) (e_are_rising_2) [2, 3]) (cNil))))
noncomputable def g_are_rising : List D → R Hd := fnP 2 4 m_are_rising
/-- slots: 0:net 1:thing -/
noncomputable def m_look_at_switch : SM := sIf (cNotT (cTru (cCallF g_is_upto (cCons (cVar 1) (cCons (cCall lenD (cCons (cVar 0) (cNil))) (cNil)))))) (sRaise "NoSwitch") (sSkip)
noncomputable def g_look_at_switch : List D → R Hd := fnP 2 2 m_look_at_switch
/-- slots: 0:stand 1:k 2:bit -/
noncomputable def m_with_bit : SM := sRet (cOp addD (cOp addD (cSlice (cVar 0) (cNoPart) (cPart (cVar 1))) (cTup (cCons (cVar 2) (cNil)))) (cSlice (cVar 0) (cPart (cOp addD (cVar 1) (cC (.int 1)))) (cNoPart)))
noncomputable def g_with_bit : List D → R Hd := fnP 3 3 m_with_bit
/-- slots: 0:net 1:stand 2:k -/
noncomputable def m_told_by : SM := sSeq (sExpr (cCallF g_look_at_stand (cCons (cVar 0) (cCons (cVar 1) (cNil))))) (sSeq (sExpr (cCallF g_look_at_switch (cCons (cVar 0) (cCons (cVar 2) (cNil))))) (sRet (cCallF g_ought (cCons (cVar 0) (cCons (cVar 1) (cCons (cVar 2) (cNil)))))))
noncomputable def g_told_by : List D → R Hd := fnP 3 3 m_told_by
/-- slots: 0:net 1:stand 2:k -/
noncomputable def m_turned : SM := sRet (cCallF g_with_bit (cCons (cVar 1) (cCons (cVar 2) (cCons (cCallF g_told_by (cCons (cVar 0) (cCons (cVar 1) (cCons (cVar 2) (cNil))))) (cNil)))))
noncomputable def g_turned : List D → R Hd := fnP 3 3 m_turned
/-- slots: 0:net 1:stand 2:k -/
noncomputable def e_all_turned_1 : EM := cCallF g_ought (cCons (cVar 0) (cCons (cVar 1) (cCons (cVar 2) (cNil))))
noncomputable def m_all_turned : SM := sSeq (sExpr (cCallF g_look_at_stand (cCons (cVar 0) (cCons (cVar 1) (cNil))))) (sRet (cCall tupleD (cCons (cComp (cRange rng1D (cCons (cCall lenD (cCons (cVar 0) (cNil))) (cNil))) (tmName 2) (cYes) (e_all_turned_1) [2]) (cNil))))
noncomputable def g_all_turned : List D → R Hd := fnP 2 3 m_all_turned
/-- slots: 0:net 1:thing -/
noncomputable def m_is_block : SM := sRet (cAnd (cCallF g_are_rising (cCons (cVar 1) (cCons (cCall lenD (cCons (cVar 0) (cNil))) (cNil)))) (cOp neD (cVar 1) (cTup (cNil))))
noncomputable def g_is_block : List D → R Hd := fnP 2 2 m_is_block
/-- slots: 0:net 1:thing 2:found 3:block -/
noncomputable def e_is_order_1 : EM := cCallF g_is_block (cCons (cVar 0) (cCons (cVar 3) (cNil)))
noncomputable def b_is_order_1 : SM := sExt 2 (cVar 3)
noncomputable def m_is_order : SM := sSeq (sIf (cOrT (cNotT (cTru (cIsi isTup (cVar 1)))) (cNotT (cTru (cCall allD (cCons (cComp (cIter (cVar 1)) (tmName 3) (cYes) (e_is_order_1) [3]) (cNil)))))) (sRet (cC (.bl false))) (sSkip)) (sSeq (sOwn [2] [] (cLst (cNil)) 2) (sSeq (sFor [] (cIter (cVar 1)) (tmName 3) (b_is_order_1) [3]) (sRet (cOp eqD (cCall sortD (cCons (cOwn 2) (cNil))) (cRg1 true (cCall lenD (cCons (cVar 0) (cNil))))))))
noncomputable def g_is_order : List D → R Hd := fnP 2 4 m_is_order
/-- slots: 0:net 1:thing -/
noncomputable def m_need_order : SM := sIf (cNotT (cTru (cCallF g_is_order (cCons (cVar 0) (cCons (cVar 1) (cNil)))))) (sRaise "NoOrder") (sSkip)
noncomputable def g_need_order : List D → R Hd := fnP 2 2 m_need_order
/-- slots: 0:net 1:block 2:stand 3:found 4:switch -/
noncomputable def b_block_done_1 : SM := sSetIx 3 (cVar 4) (cCallF g_ought (cCons (cVar 0) (cCons (cVar 2) (cCons (cVar 4) (cNil)))))
noncomputable def m_block_done : SM := sSeq (sOwn [3] [] (cCall listD (cCons (cVar 2) (cNil))) 3) (sSeq (sFor [] (cIter (cVar 1)) (tmName 4) (b_block_done_1) [4]) (sRet (cCall tupleD (cCons (cOwn 3) (cNil)))))
noncomputable def g_block_done : List D → R Hd := fnP 3 5 m_block_done
/-- slots: 0:net 1:order 2:stand 3:block -/
noncomputable def b_all_done_1 : SM := sAsg (cCallF g_block_done (cCons (cVar 0) (cCons (cVar 3) (cCons (cVar 2) (cNil))))) (tmName 2)
noncomputable def m_all_done : SM := sSeq (sFor [] (cIter (cVar 1)) (tmName 3) (b_all_done_1) [3]) (sRet (cVar 2))
noncomputable def g_all_done : List D → R Hd := fnP 3 4 m_all_done
/-- slots: 0:net 1:order 2:stand -/
noncomputable def m_done_by : SM := sSeq (sExpr (cCallF g_need_order (cCons (cVar 0) (cCons (cVar 1) (cNil))))) (sSeq (sExpr (cCallF g_look_at_stand (cCons (cVar 0) (cCons (cVar 2) (cNil))))) (sRet (cCallF g_all_done (cCons (cVar 0) (cCons (cVar 1) (cCons (cVar 2) (cNil)))))))
noncomputable def g_done_by : List D → R Hd := fnP 3 3 m_done_by
/-- slots: 0:box 1:many 2:names 3:found 4:name 5:some 6:where 7:k -/
noncomputable def e__law_order_1 : EM := cCallIO [(0, 0)] g__law_take (cCons (cOwn 0) (cCons (cVar 1) (cNil)))
noncomputable def t__law_order_2 : BM := cBl (cOp eqD (cIx (cVar 2) (cVar 7)) (cVar 4))
noncomputable def e__law_order_2 : EM := cVar 7
noncomputable def b__law_order_1 : SM := sSeq (sAsg (cCall tupleD (cCons (cComp (cRange rng1D (cCons (cVar 1) (cNil))) (tmName 7) (t__law_order_2) (e__law_order_2) [7]) (cNil))) (tmName 5)) (sIf (cBl (cOp neD (cVar 5) (cTup (cNil)))) (sAppend 3 (cVar 5)) (sSkip))
noncomputable def m__law_order : SM := sSeq (sAsg (cComp (cRange rng1D (cCons (cVar 1) (cNil))) (tmName 7) (cYes) (e__law_order_1) [7]) (tmName 2)) (sSeq (sOwn [0, 3] [0] (cLst (cNil)) 3) (sSeq (sFor [0] (cRange rng1D (cCons (cVar 1) (cNil))) (tmName 4) (b__law_order_1) [4, 5]) (sSeq (sAsg (cCallIO [(0, 0)] g__law_take (cCons (cOwn 0) (cCons (cCall lenD (cCons (cOwn 3) (cNil))) (cNil)))) (tmName 6)) (sRet (cCall tupleD (cCons (cOp addD (cSlice (cOwn 3) (cPart (cVar 6)) (cNoPart)) (cSlice (cOwn 3) (cNoPart) (cPart (cVar 6)))) (cNil)))))))
noncomputable def g__law_order : Fn := fnD 2 8 [0] m__law_order
/-- slots: 0:found -/
noncomputable def m__law_whole : SM := sRet (cAnd (cIsi isInt (cVar 0)) (cNot (cIsi isBl (cVar 0))))
noncomputable def g__law_whole : List D → R Hd := fnP 1 1 m__law_whole
/-- slots: 0:box 1:some -/
noncomputable def m__law_odd : SM := sSeq (sAsg (cLst (cCons (cC .non) (cCons (cC (.bl true)) (cCons (cC (.bl false)) (cCons (cNeg (cC (.int 1))) (cCons (cC (.int 0)) (cCons (cC (.int 1)) (cCons (cC (.int 2)) (cCons (cC (.int 9)) (cCons (cC (.str "")) (cCons (cC (.str "0")) (cCons (cC (.str "-")) (cCons (cTup (cNil)) (cCons (cTup (cCons (cC (.int 0)) (cNil))) (cCons (cTup (cCons (cC (.int 1)) (cNil))) (cCons (cTup (cCons (cC (.bl true)) (cNil))) (cCons (cLst (cCons (cC (.int 0)) (cNil))) (cCons (cDic0) (cCons (cTup (cCons (cC .non) (cNil))) (cCons (cOp powD (cC (.int 10)) (cC (.int 39))) (cNil))))))))))))))))))))) (tmName 1)) (sSeq (sAsg (cOp addD (cVar 1) (cLst (cCons (cTup (cCons (cTup (cNil)) (cCons (cTup (cCons (cC (.int 0)) (cNil))) (cNil)))) (cCons (cTup (cCons (cTup (cCons (cC (.int 0)) (cNil))) (cCons (cTup (cCons (cC (.int 0)) (cCons (cC (.int 1)) (cNil)))) (cNil)))) (cCons (cTup (cCons (cC (.int 0)) (cCons (cC (.int 1)) (cNil)))) (cCons (cLst (cCons (cTup (cNil)) (cCons (cTup (cCons (cC (.int 1)) (cNil))) (cNil)))) (cCons (cC (.str "0-1")) (cCons (cTup (cCons (cC (.str "rest")) (cNil))) (cCons (cTup (cCons (cTup (cCons (cC (.int 0)) (cCons (cC (.int 1)) (cNil)))) (cNil))) (cCons (cTup (cCons (cC (.int 2)) (cNil))) (cNil))))))))))) (tmName 1)) (sRet (cIx (cVar 1) (cCallIO [(0, 0)] g__law_take (cCons (cOwn 0) (cCons (cCall lenD (cCons (cVar 1) (cNil))) (cNil)))))))
noncomputable def g__law_odd : Fn := fnD 1 2 [0] m__law_odd
/-- slots: 0:found 1:many 2:one -/
noncomputable def e__law_are_bits_1 : EM := cAnd (cCallF g__law_whole (cCons (cVar 2) (cNil))) (cChain leD leD (cC (.int 0)) (cVar 2) (cC (.int 1)))
noncomputable def m__law_are_bits : SM := sSeq (sIf (cOrT (cNotT (cTru (cIsi isTup (cVar 0)))) (cBl (cOp neD (cCall lenD (cCons (cVar 0) (cNil))) (cVar 1)))) (sRet (cC (.bl false))) (sSkip)) (sRet (cCall allD (cCons (cComp (cIter (cVar 0)) (tmName 2) (cYes) (e__law_are_bits_1) [2]) (cNil))))
noncomputable def g__law_are_bits : List D → R Hd := fnP 2 3 m__law_are_bits
/-- slots: 0:box 1:many 2:k -/
noncomputable def e__law_drawn_stand_1 : EM := cCallIO [(0, 0)] g__law_take (cCons (cOwn 0) (cCons (cC (.int 2)) (cNil)))
noncomputable def m__law_drawn_stand : SM := sRet (cCall tupleD (cCons (cComp (cRange rng1D (cCons (cVar 1) (cNil))) (tmName 2) (cYes) (e__law_drawn_stand_1) [2]) (cNil)))
noncomputable def g__law_drawn_stand : Fn := fnD 2 3 [0] m__law_drawn_stand
/-- slots: 0:box 1:stand 2:where 3:odd 4:some 5:bit -/
noncomputable def e__law_bent_2_1 : EM := cCall strOfD (cCons (cVar 5) (cNil))
noncomputable def e__law_bent_2_2 : EM := cOp eqD (cVar 5) (cC (.int 1))
noncomputable def m__law_bent_2 : SM := sSeq (sAsg (cCallIO [(0, 0)] g__law_take (cCons (cOwn 0) (cCons (cCall lenD (cCons (cVar 1) (cNil))) (cNil)))) (tmName 2)) (sSeq (sAsg (cCallIO [(0, 0)] g__law_odd (cCons (cOwn 0) (cNil))) (tmName 3)) (sSeq (sAsg (cLst (cCons (cOp addD (cOp addD (cSlice (cVar 1) (cNoPart) (cPart (cVar 2))) (cTup (cCons (cVar 3) (cNil)))) (cSlice (cVar 1) (cPart (cOp addD (cVar 2) (cC (.int 1)))) (cNoPart))) (cCons (cOp addD (cVar 1) (cTup (cCons (cCallIO [(0, 0)] g__law_take (cCons (cOwn 0) (cCons (cC (.int 2)) (cNil)))) (cNil)))) (cCons (cSlice (cVar 1) (cPart (cC (.int 1))) (cNoPart)) (cCons (cCall listD (cCons (cVar 1) (cNil))) (cCons (cVar 3) (cNil))))))) (tmName 4)) (sSeq (sAsg (cOp addD (cVar 4) (cLst (cCons (cCall tupleD (cCons (cComp (cIter (cVar 1)) (tmName 5) (cYes) (e__law_bent_2_2) [5]) (cNil))) (cCons (cJoin (cC (.str "")) (cComp (cIter (cVar 1)) (tmName 5) (cYes) (e__law_bent_2_1) [5])) (cCons (cTup (cCons (cVar 1) (cNil))) (cCons (cRev (cVar 1) (cPart (cNeg (cC (.int 1))))) (cNil))))))) (tmName 4)) (sRet (cIx (cVar 4) (cCallIO [(0, 0)] g__law_take (cCons (cOwn 0) (cCons (cCall lenD (cCons (cVar 4) (cNil))) (cNil)))))))))
noncomputable def g__law_bent_2 : Fn := fnD 2 6 [0] m__law_bent_2
/-- slots: 0:script 1:k 2:box 3:net 4:stand 5:turn 6:other 7:found -/
noncomputable def b_law_k02_1 : SM := sSeq (sAsg (cCallIO [(0, 2)] g__law_bent_2 (cCons (cOwn 2) (cCons (cVar 4) (cNil)))) (tmName 6)) (sSeq (sAsg (cCallF g_is_stand (cCons (cVar 3) (cCons (cVar 6) (cNil)))) (tmName 7)) (sIf (cOrT (cNotT (cTru (cIsi isBl (cVar 7)))) (cOrT (cBl (cOp neD (cVar 7) (cCallF g__law_are_bits (cCons (cVar 6) (cCons (cCall lenD (cCons (cVar 3) (cNil))) (cNil)))))) (cBl (cOp neD (cCallF g_is_stand (cCons (cVar 3) (cCons (cVar 6) (cNil)))) (cVar 7))))) (sRet (cC (.bl false))) (sSkip)))
noncomputable def b_law_k02_2 : SM := sSeq (sOwn [2] [2] (cCallF g__law_box (cCons (cVar 0) (cCons (cVar 1) (cNil)))) 2) (sSeq (sAsg (cCallIO [(0, 2)] g__law_net (cCons (cOwn 2) (cCons (cC (.int 8)) (cNil)))) (tmName 3)) (sSeq (sAsg (cCallIO [(0, 2)] g__law_drawn_stand (cCons (cOwn 2) (cCons (cCall lenD (cCons (cVar 3) (cNil))) (cNil)))) (tmName 4)) (sSeq (sIf (cBl (cOp isNotD (cCallF g_is_stand (cCons (cVar 3) (cCons (cVar 4) (cNil)))) (cC (.bl true)))) (sRet (cC (.bl false))) (sSkip)) (sFor [] (cRange rng1D (cCons (cC (.int 2)) (cNil))) (tmName 5) (b_law_k02_1) [5, 6, 7]))))
noncomputable def m_law_k02 : SM := sSeq (sFor [] (cRange rng1D (cCons (cCall max2D (cCons (cC (.int 1)) (cCons (cCall min2D (cCons (cCall lenD (cCons (cVar 0) (cNil))) (cCons (cC (.int 12)) (cNil)))) (cNil)))) (cNil))) (tmName 1) (b_law_k02_2) [1, 2, 3, 4, 5, 6, 7]) (sRet (cC (.bl true)))
noncomputable def g_law_k02 : List D → R Hd := fnP 1 8 m_law_k02
/-- slots: 0:box 1:many 2:places 3:blocks 4:k 5:place -/
noncomputable def e__law_order_2_1 : EM := cCallIO [(0, 0)] g__law_take_2 (cCons (cOwn 0) (cCons (cVar 1) (cNil)))
noncomputable def e__law_order_2_2 : EM := cC (.int 0)
noncomputable def e__law_order_2_3 : EM := cCallIO [(0, 0)] g__law_take_2 (cCons (cOwn 0) (cCons (cOp mulD (cC (.int 2)) (cVar 1)) (cNil)))
noncomputable def t__law_order_2_4 : BM := cBl (cOp eqD (cIx (cVar 2) (cVar 4)) (cVar 5))
noncomputable def e__law_order_2_4 : EM := cVar 4
noncomputable def e__law_order_2_5 : EM := cCall tupleD (cCons (cComp (cRange rng1D (cCons (cVar 1) (cNil))) (tmName 4) (t__law_order_2_4) (e__law_order_2_4) [4]) (cNil))
noncomputable def m__law_order_2 : SM := sSeq (sAsg (cComp (cRange rng1D (cCons (cVar 1) (cNil))) (tmName 4) (cYes) (e__law_order_2_1) [4]) (tmName 2)) (sSeq (sIf (cBl (cOp eqD (cCallIO [(0, 0)] g__law_take_2 (cCons (cOwn 0) (cCons (cC (.int 6)) (cNil)))) (cC (.int 1)))) (sAsg (cComp (cRange rng1D (cCons (cVar 1) (cNil))) (tmName 4) (cYes) (e__law_order_2_2) [4]) (tmName 2)) (sSkip)) (sSeq (sIf (cBl (cOp eqD (cCallIO [(0, 0)] g__law_take_2 (cCons (cOwn 0) (cCons (cC (.int 6)) (cNil)))) (cC (.int 1)))) (sAsg (cComp (cRange rng1D (cCons (cVar 1) (cNil))) (tmName 4) (cYes) (e__law_order_2_3) [4]) (tmName 2)) (sSkip)) (sSeq (sAsg (cComp (cIter (cSetSort (cVar 2))) (tmName 5) (cYes) (e__law_order_2_5) [5]) (tmName 3)) (sRet (cCall tupleD (cCons (cVar 3) (cNil)))))))
noncomputable def g__law_order_2 : Fn := fnD 2 6 [0] m__law_order_2
/-- slots: 0:many 1:found 2:k 3:reading -/
noncomputable def e__law_readings_2_1 : EM := cOp addD (cVar 3) (cTup (cCons (cC (.int 0)) (cNil)))
noncomputable def e__law_readings_2_2 : EM := cOp addD (cVar 3) (cTup (cCons (cC (.int 1)) (cNil)))
noncomputable def b__law_readings_2_1 : SM := sAsg (cOp addD (cComp (cIter (cVar 1)) (tmName 3) (cYes) (e__law_readings_2_1) [3]) (cComp (cIter (cVar 1)) (tmName 3) (cYes) (e__law_readings_2_2) [3])) (tmName 1)
noncomputable def m__law_readings_2 : SM := sSeq (sAsg (cLst (cCons (cTup (cNil)) (cNil))) (tmName 1)) (sSeq (sFor [] (cRange rng1D (cCons (cVar 0) (cNil))) (tmName 2) (b__law_readings_2_1) [2]) (sRet (cCall sortD (cCons (cVar 1) (cNil)))))
noncomputable def g__law_readings_2 : List D → R Hd := fnP 1 4 m__law_readings_2
/-- slots: 0:net 1:stand 2:k 3:ears 4:table 5:ear -/
noncomputable def e__law_due_5_1 : EM := cIx (cVar 1) (cVar 5)
noncomputable def m__law_due_5 : SM := sSeq (sAsg (cIx (cVar 0) (cVar 2)) (tmTup [3, 4])) (sRet (cDGet (cDictZip (cCons (cCallF g__law_readings_2 (cCons (cCall lenD (cCons (cVar 3) (cNil))) (cNil))) (cCons (cVar 4) (cNil)))) (cCall tupleD (cCons (cComp (cIter (cVar 3)) (tmName 5) (cYes) (e__law_due_5_1) [5]) (cNil)))))
noncomputable def g__law_due_5 : List D → R Hd := fnP 3 6 m__law_due_5
/-- slots: 0:net 1:stand 2:due 3:wrong 4:k 5:bit 6:turn 7:found -/
noncomputable def e__law_right_5_1 : EM := cCallF g__law_due_5 (cCons (cVar 0) (cCons (cVar 1) (cCons (cVar 4) (cNil))))
noncomputable def t__law_right_5_2 : BM := cBl (cOp neD (cIx (cVar 2) (cVar 4)) (cIx (cVar 1) (cVar 4)))
noncomputable def e__law_right_5_2 : EM := cVar 4
noncomputable def b__law_right_5_1 : SM := sSeq (sAsg (cCallF g_told_by (cCons (cVar 0) (cCons (cVar 1) (cCons (cVar 4) (cNil))))) (tmName 5)) (sIf (cOrT (cNotT (cTru (cCallF g__law_whole (cCons (cVar 5) (cNil))))) (cOrT (cBl (cOp neD (cVar 5) (cIx (cVar 2) (cVar 4)))) (cBl (cOp neD (cCallF g_turned (cCons (cVar 0) (cCons (cVar 1) (cCons (cVar 4) (cNil))))) (cOp addD (cOp addD (cSlice (cVar 1) (cNoPart) (cPart (cVar 4))) (cTup (cCons (cIx (cVar 2) (cVar 4)) (cNil)))) (cSlice (cVar 1) (cPart (cOp addD (cVar 4) (cC (.int 1)))) (cNoPart))))))) (sRet (cC (.bl false))) (sSkip))
noncomputable def b__law_right_5_2 : SM := sSeq (sOwn [7] [] (cCallF g_wrong_ones (cCons (cVar 0) (cCons (cVar 1) (cNil)))) 7) (sSeq (sIf (cOrT (cNotT (cTru (cIsi isLst (cOwn 7)))) (cBl (cOp neD (cOwn 7) (cVar 3)))) (sRet (cC (.bl false))) (sSkip)) (sAppend 7 (cC (.int 0))))
noncomputable def m__law_right_5 : SM := sSeq (sAsg (cComp (cRange rng1D (cCons (cCall lenD (cCons (cVar 0) (cNil))) (cNil))) (tmName 4) (cYes) (e__law_right_5_1) [4]) (tmName 2)) (sSeq (sAsg (cComp (cRange rng1D (cCons (cCall lenD (cCons (cVar 0) (cNil))) (cNil))) (tmName 4) (t__law_right_5_2) (e__law_right_5_2) [4]) (tmName 3)) (sSeq (sFor [] (cRange rng1D (cCons (cCall lenD (cCons (cVar 0) (cNil))) (cNil))) (tmName 4) (b__law_right_5_1) [4, 5]) (sSeq (sFor [] (cRange rng1D (cCons (cC (.int 2)) (cNil))) (tmName 6) (b__law_right_5_2) [6, 7]) (sRet (cOp eqD (cCallF g_all_turned (cCons (cVar 0) (cCons (cVar 1) (cNil)))) (cCall tupleD (cCons (cVar 2) (cNil))))))))
noncomputable def g__law_right_5 : List D → R Hd := fnP 2 8 m__law_right_5
/-- slots: 0:script 1:k 2:box 3:net 4:turn -/
noncomputable def b_law_k03_1 : SM := sIf (cNotT (cTru (cCallF g__law_right_5 (cCons (cVar 3) (cCons (cCallIO [(0, 2)] g__law_drawn_stand (cCons (cOwn 2) (cCons (cCall lenD (cCons (cVar 3) (cNil))) (cNil)))) (cNil)))))) (sRet (cC (.bl false))) (sSkip)
noncomputable def b_law_k03_2 : SM := sSeq (sOwn [2] [2] (cCallF g__law_box (cCons (cVar 0) (cCons (cVar 1) (cNil)))) 2) (sSeq (sAsg (cCallIO [(0, 2)] g__law_net (cCons (cOwn 2) (cCons (cC (.int 8)) (cNil)))) (tmName 3)) (sFor [] (cRange rng1D (cCons (cC (.int 3)) (cNil))) (tmName 4) (b_law_k03_1) [4]))
noncomputable def m_law_k03 : SM := sSeq (sFor [] (cRange rng1D (cCons (cCall max2D (cCons (cC (.int 1)) (cCons (cCall min2D (cCons (cCall lenD (cCons (cVar 0) (cNil))) (cCons (cC (.int 6)) (cNil)))) (cNil)))) (cNil))) (tmName 1) (b_law_k03_2) [1, 2, 3, 4]) (sRet (cC (.bl true)))
noncomputable def g_law_k03 : List D → R Hd := fnP 1 5 m_law_k03
end C

set_option Elab.async false
set_option linter.all false
set_option maxRecDepth 100000
namespace H
open PySem PySem.Spec PyProof.Rows L2 Y
abbrev ti (xs : List Int) : D := .tup (xs.map D.int)
abbrev dRule (r : List Int × List Int) : D := .tup [ti r.1, ti r.2]
abbrev dNet (ns : List (List Int × List Int)) : D := .tup (ns.map dRule)
/-! is_whole, is_upto -/
@[simp] theorem is_whole_int {i : Int} : C.g_is_whole [.int i] = .ok (.fr (.bl true)) := by
  simp [C.g_is_whole, C.m_is_whole, e_fnP, noDit, Y.isInt, Y.isBl]
@[simp] theorem is_upto_int {i m : Int} : C.g_is_upto [.int i, .int m] = .ok (.fr (.bl (decide (0 ≤ i ∧ i < m)))) := by
  simp [C.g_is_upto, C.m_is_upto, e_fnP, is_whole_int]
  by_cases h : 0 ≤ i <;> simp [h]
def placeI (xs : List Int) : Int := xs.foldl (fun p b => 2 * p + b) 0
theorem place_of_lst {xs : List Int} (hx : xs.length ≤ 16777216) : C.g_place_of [.lst (xs.map D.int)] = .ok (.vl (.int (placeI xs))) := by
  have h := for_run (tm := tmName 2) (body := C.b_place_of_1) (vs := [2]) (ws := []) D.int (fun p : Int => [some (D.lst (xs.map D.int)), some (.int p), none]) (fun p x => 2 * p + x) (fun _ => True) xs 0 trivial (fun p x _ hx => by
    simp [turnF, C.b_place_of_1, mulOk_l])
  simp [C.g_place_of, C.m_place_of, e_fnP, szOk_of hx, h.1, placeI]
theorem place_of_tup {xs : List Int} (hx : xs.length ≤ 16777216) : C.g_place_of [ti xs] = .ok (.vl (.int (placeI xs))) := by
  have h := for_run (tm := tmName 2) (body := C.b_place_of_1) (vs := [2]) (ws := []) D.int (fun p : Int => [some (ti xs), some (.int p), none]) (fun p x => 2 * p + x) (fun _ => True) xs 0 trivial (fun p x _ hx => by
    simp [turnF, C.b_place_of_1, mulOk_l])
  simp [C.g_place_of, C.m_place_of, e_fnP, szOk_of hx, h.1, placeI]
/-- all bits -/
theorem are_bits_ti {xs : List Int} {m : Int} (hx : xs.length ≤ 16777216) (hb : ∀ x ∈ xs, 0 ≤ x ∧ x < 2) (hm : (xs.length : Int) = m) : C.g_are_bits [ti xs, .int m] = .ok (.fr (.bl true)) := by
  have h := comp_map (tm := tmName 2) (t := cYes) (e := C.e_are_bits_1) (vs := [2]) (ws := []) (ρ := [some (ti xs), some (.int m), none]) D.int (fun x => D.bl (decide (0 ≤ x) && decide (x < 2))) xs (fun x _ => by
    simp [turnC, C.e_are_bits_1])
  have h2 : xs.map (fun x => D.bl (decide (0 ≤ x) && decide (x < 2))) = (xs.map fun x => decide (0 ≤ x) && decide (x < 2)).map D.bl := by simp
  simp [C.g_are_bits, C.m_are_bits, e_fnP, noDit, Y.isTup, szOk_of hx, h, hm]
  rw [h2, d_all]
  simp
  intro x hx
  exact hb x hx
theorem is_stand_ok {n : List D} {xs : List Int} (hx : xs.length ≤ 16777216) (hb : ∀ x ∈ xs, 0 ≤ x ∧ x < 2) (hl : xs.length = n.length) : C.g_is_stand [.tup n, ti xs] = .ok (.fr (.bl true)) := by
  have := are_bits_ti (m := n.length) hx hb (by omega)
  simp [C.g_is_stand, C.m_is_stand, e_fnP, this]
theorem look_at_stand_ok {n : List D} {xs : List Int} (hx : xs.length ≤ 16777216) (hb : ∀ x ∈ xs, 0 ≤ x ∧ x < 2) (hl : xs.length = n.length) : C.g_look_at_stand [.tup n, ti xs] = .ok (.fr .non) := by
  simp [C.g_look_at_stand, C.m_look_at_stand, e_fnP, is_stand_ok hx hb hl]
end H

set_option Elab.async false
set_option linter.all false
set_option maxRecDepth 100000
namespace H
open PySem PySem.Spec PyProof.Rows L2 Y
/-! ### lists by place -/
theorem atI_nat' {α : Type} {xs : List α} {k : Nat} (h : k < xs.length) : atI xs (k : Int) = some xs[k] := atI_of (j := k) rfl (List.getElem?_eq_getElem h)
theorem atI_map {α β : Type} {f : α → β} {xs : List α} {i : Int} : atI (xs.map f) i = (atI xs i).map f := by
  unfold atI
  rw [List.length_map]
  cases ixN xs.length i with
  | none => rfl
  | some j => simp
theorem atI_int {xs : List Int} {i : Int} (h0 : 0 ≤ i) (h : i < xs.length) : atI xs i = some (xs.getD i.toNat 0) := by
  rw [atI_lt h0 h, List.getD_eq_getElem?_getD, List.getElem?_eq_getElem (by omega)]
  rfl
theorem atI_mapI {xs : List Int} {i : Int} (h0 : 0 ≤ i) (h : i < xs.length) : atI (xs.map D.int) i = some (.int (xs.getD i.toNat 0)) := by rw [atI_map, atI_int h0 h]; rfl
/-! ### places -/
theorem placeI_snoc {xs : List Int} {b : Int} : placeI (xs ++ [b]) = 2 * placeI xs + b := by simp [placeI]
theorem place_go : ∀ {xs : List Int} {p : Int}, 0 ≤ p → (∀ x ∈ xs, 0 ≤ x ∧ x < 2) → 0 ≤ xs.foldl (fun p b => 2 * p + b) p ∧ xs.foldl (fun p b => 2 * p + b) p < (p + 1) * 2 ^ xs.length
  | [], p, hp, _ => by simp; omega
  | x :: xs, p, hp, h => by
    have hx := h x (by simp)
    have ih := place_go (xs := xs) (p := 2 * p + x) (by omega) fun y hy => h y (by simp [hy])
    rw [List.foldl_cons, List.length_cons, Int.pow_succ]
    refine ⟨ih.1, Int.lt_of_lt_of_le ih.2 ?_⟩
    have e : (p + 1) * (2 ^ xs.length * 2) = (2 * p + 2) * 2 ^ xs.length := by
      rw [Int.mul_comm (2 ^ xs.length) 2, ← Int.mul_assoc]
      congr 1
      omega
    rw [e]
    exact Int.mul_le_mul_of_nonneg_right (by omega) (Int.pow_nonneg (by omega))
theorem placeI_lt {xs : List Int} (h : ∀ x ∈ xs, 0 ≤ x ∧ x < 2) : 0 ≤ placeI xs ∧ placeI xs < 2 ^ xs.length := by
  have := place_go (xs := xs) (p := 0) (by omega) h
  simpa [placeI] using this
/-! ### nets, stands -/
abbrev RuleT := List Int × List Int
structure GoodNet (ns : List RuleT) : Prop where
  sz : ns.length ≤ 100
  ear : ∀ r ∈ ns, r.1.length ≤ 100 ∧ (∀ e ∈ r.1, 0 ≤ e ∧ e < ns.length) ∧ r.2.length = 2 ^ r.1.length
structure IsSt (m : Nat) (st : List Int) : Prop where
  len : st.length = m
  bit : ∀ x ∈ st, 0 ≤ x ∧ x < 2
def tellI (r : RuleT) (st : List Int) : Int := r.2.getD (placeI (r.1.map fun e => st.getD e.toNat 0)).toNat 0
def oughtI (ns : List RuleT) (st : List Int) (k : Nat) : Int := tellI (ns.getD k ([], [])) st
theorem getD_bit {st : List Int} (h : ∀ x ∈ st, 0 ≤ x ∧ x < 2) (k : Nat) : 0 ≤ st.getD k 0 ∧ st.getD k 0 < 2 := by
  rw [List.getD_eq_getElem?_getD]
  cases e : st[k]? with
  | none => simp
  | some x => exact h x (List.mem_of_getElem? e)
theorem IsSt.get {m : Nat} {st : List Int} (h : IsSt m st) (k : Nat) : 0 ≤ st.getD k 0 ∧ st.getD k 0 < 2 := getD_bit h.bit k
theorem read_lt {m : Nat} {st : List Int} (h : IsSt m st) (es : List Int) : 0 ≤ placeI (es.map fun e => st.getD e.toNat 0) ∧ placeI (es.map fun e => st.getD e.toNat 0) < 2 ^ es.length := by
  have := placeI_lt (xs := es.map fun e => st.getD e.toNat 0) fun x hx => by
    obtain ⟨e, _, rfl⟩ := List.mem_map.mp hx
    exact h.get _
  rwa [List.length_map] at this
theorem net_at {ns : List RuleT} {k : Nat} (h : k < ns.length) : atI (ns.map dRule) (k : Int) = some (dRule (ns.getD k ([], []))) := by
  rw [atI_map, atI_nat' h, List.getD_eq_getElem?_getD, List.getElem?_eq_getElem h]
  rfl
theorem GoodNet.at {ns : List RuleT} (g : GoodNet ns) {k : Nat} (h : k < ns.length) : (ns.getD k ([], [])).1.length ≤ 100 ∧ (∀ e ∈ (ns.getD k ([], [])).1, 0 ≤ e ∧ e < ns.length) ∧ (ns.getD k ([], [])).2.length = 2 ^ (ns.getD k ([], [])).1.length := by
  rw [List.getD_eq_getElem?_getD, List.getElem?_eq_getElem h]
  exact g.ear _ (List.getElem_mem h)
theorem ought_ok {ns : List RuleT} {st : List Int} {k : Nat} (g : GoodNet ns) (hs : IsSt ns.length st) (hk : k < ns.length) : C.g_ought [dNet ns, ti st, .int k] = .ok (.vl (.int (oughtI ns st k))) := by
  obtain ⟨h1, h2, h3⟩ := g.at hk
  have h := comp_map (tm := tmName 5) (t := cYes) (e := C.e_ought_1) (vs := [5]) (ws := []) (ρ := [some (dNet ns), some (ti st), some (.int k), some (ti (ns.getD k ([], [])).1), some (ti (ns.getD k ([], [])).2), none]) D.int (fun e => D.int (st.getD e.toNat 0)) (ns.getD k ([], [])).1 (fun e he => by
    have := h2 e he
    simp [turnC, C.e_ought_1, atI_mapI this.1 (by rw [hs.len]; exact this.2)])
  have h4 := place_of_lst (xs := (ns.getD k ([], [])).1.map fun e => st.getD e.toNat 0) (by rw [List.length_map]; omega)
  rw [List.map_map] at h4
  have h5 := read_lt hs (ns.getD k ([], [])).1
  have h6 := atI_mapI (xs := (ns.getD k ([], [])).2) h5.1 (by rw [h3]; exact_mod_cast h5.2)
  simp only [Function.comp_def] at h4
  simp [C.g_ought, C.m_ought, e_fnP, net_at hk, szOk_of (show (ns.getD k ([], [])).1.length ≤ 16777216 by omega), h, h4, h6, -List.getD_eq_getElem?_getD]
  rfl
/-- the switches that are not as their rules tell -/
def wrongI (ns : List RuleT) (st : List Int) : List Nat := (List.range ns.length).filter fun k => !decide (oughtI ns st k = st.getD k 0)
abbrev ln' (xs : List Nat) : D := .lst (xs.map fun k => D.int (k : Nat))
theorem wrong_ones_ok {ns : List RuleT} {st : List Int} (g : GoodNet ns) (hs : IsSt ns.length st) : C.g_wrong_ones [dNet ns, ti st] = .ok (.fr (ln' (wrongI ns st))) := by
  have hz := g.sz
  have h : cCompL (tmName 2) C.t_wrong_ones_1 C.e_wrong_ones_1 [2] [] ((List.range ns.length).map fun k : Nat => D.int (k : Nat)) [some (dNet ns), some (ti st), none] = .ok ((wrongI ns st).map fun k => D.int (k : Nat), [some (dNet ns), some (ti st), none]) :=
    comp_filter (fun k : Nat => D.int (k : Nat)) (fun k => !decide (oughtI ns st k = st.getD k 0)) (fun k => D.int (k : Nat)) (List.range ns.length) (fun k hk => by
      have hk := List.mem_range.mp hk
      have a := atI_mapI (xs := st) (i := k) (by omega) (by rw [hs.len]; omega)
      simp only [turnC, C.t_wrong_ones_1, C.e_wrong_ones_1, Int.toNat_natCast] at a ⊢
      simp [ought_ok g hs hk, a, -List.getD_eq_getElem?_getD]
      by_cases c : oughtI ns st k = st.getD k 0 <;> simp [c, -List.getD_eq_getElem?_getD])
  have l := look_at_stand_ok (n := ns.map dRule) (xs := st) (by rw [hs.len]; omega) hs.bit (by rw [hs.len, List.length_map])
  have hr : rngOk ns.length = true := rngOk_of (by omega) (by omega)
  have hz2 : szOk ns.length = true := szOk_of (by omega)
  simp [C.g_wrong_ones, C.m_wrong_ones, e_fnP, l, hr, hz2, h]
/-! ### all stands -/
def stands : Nat → List (List Int)
  | 0 => [[]]
  | m + 1 => (stands m).map (0 :: ·) ++ (stands m).map (1 :: ·)
theorem stands_len : ∀ m, (stands m).length = 2 ^ m
  | 0 => rfl
  | m + 1 => by simp [stands, stands_len m, Nat.pow_succ]; omega
theorem stands_st : ∀ {m : Nat} {st : List Int}, st ∈ stands m → IsSt m st
  | 0, st, h => by simp [stands] at h; subst h; exact ⟨rfl, by simp⟩
  | m + 1, st, h => by
    simp only [stands, List.mem_append, List.mem_map] at h
    rcases h with ⟨s, h, rfl⟩ | ⟨s, h, rfl⟩
    · exact ⟨by simp [(stands_st h).len], by simpa using (stands_st h).bit⟩
    · exact ⟨by simp [(stands_st h).len], by simpa using (stands_st h).bit⟩
abbrev lti (xs : List (List Int)) : D := .lst (xs.map ti)
theorem stands_of_ok {m : Nat} (hm : m ≤ 20) : C.g_stands_of [.int m] = .ok (.vl (lti (stands m))) := by
  have hp : ∀ k, k ≤ 20 → 2 ^ k ≤ 1048576 := fun k hk => Nat.pow_le_pow_right (by omega) hk
  have h := for_rng (tm := tmName 2) (body := C.b_stands_of_1) (vs := [2]) (ws := []) (n := m) (fun k : Nat => D.int (k : Nat)) (fun k => [some (.int m), some (lti (stands k)), none, none]) (fun i hi => by
    have hz := hp i (by omega)
    have hz2 := hp (i + 1) (by omega)
    have c1 : cCompL (tmName 3) cYes C.e_stands_of_1 [3] [] ((stands i).map ti) [some (.int m), some (lti (stands i)), some (.int (i : Nat)), none] = .ok (((stands i).map fun s => ti (0 :: s)), [some (.int m), some (lti (stands i)), some (.int (i : Nat)), none]) :=
      comp_map ti (fun s => ti (0 :: s)) (stands i) (fun s hs => by
        have := (stands_st hs).len
        simp [turnC, C.e_stands_of_1, szOk_of (show 1 + s.length ≤ 16777216 by omega)])
    have c2 : cCompL (tmName 3) cYes C.e_stands_of_2 [3] [] ((stands i).map ti) [some (.int m), some (lti (stands i)), some (.int (i : Nat)), none] = .ok (((stands i).map fun s => ti (1 :: s)), [some (.int m), some (lti (stands i)), some (.int (i : Nat)), none]) :=
      comp_map ti (fun s => ti (1 :: s)) (stands i) (fun s hs => by
        have := (stands_st hs).len
        simp [turnC, C.e_stands_of_2, szOk_of (show 1 + s.length ≤ 16777216 by omega)])
    have hl := stands_len i
    have z1 : szOk (stands i).length = true := szOk_of (by omega)
    have z2 : szOk ((stands i).length + (stands i).length) = true := szOk_of (by rw [Nat.pow_succ] at hz2; omega)
    refine ⟨by simp, ?_⟩
    simp only [turnF, C.b_stands_of_1]
    simp [c1, c2, z1, z2, stands, Function.comp_def])
  have hr : rngOk m = true := rngOk_of (by omega) (by omega)
  have hz2 : szOk m = true := szOk_of (by omega)
  have h : forL (tmName 2) C.b_stands_of_1 [2] [] ((List.range m).map fun k : Nat => D.int (k : Nat)) [some (.int m), some (.lst [.tup []]), none, none] = _ := h
  simp [C.g_stands_of, C.m_stands_of, e_fnP, hr, hz2, h]
/-! ### rests -/
def restsI (ns : List RuleT) : List (List Int) := (stands ns.length).filter fun st => (wrongI ns st).isEmpty
theorem fit_ln {n : Nat} {xs : List Nat} : Fit (n + 1) (ln' xs) := fun d h => by
  obtain ⟨x, _, rfl⟩ := List.mem_map.mp h
  exact fit_int
theorem fit_nil {n : Nat} : Fit (n + 1) (.lst []) := by
  unfold Fit
  intro d h
  cases h
theorem eqPs_nil {xs : List D} : eqPs xs [] = xs.isEmpty := by cases xs <;> rfl
theorem rests_of_ok {ns : List RuleT} (g : GoodNet ns) (hl : ns.length ≤ 20) : C.g_rests_of [dNet ns] = .ok (.fr (lti (restsI ns))) := by
  have h : cCompL (tmName 1) C.t_rests_of_1 C.e_rests_of_1 [1] [] ((stands ns.length).map ti) [some (dNet ns), none] = .ok ((restsI ns).map ti, [some (dNet ns), none]) :=
    comp_filter ti (fun st => (wrongI ns st).isEmpty) ti (stands ns.length) (fun st hs => by
      have e : eqD (ln' (wrongI ns st)) (.lst []) = .ok (.bl (wrongI ns st).isEmpty) := by
        rw [eqD_of (n := 2) fit_ln fit_nil, eqP_lst, eqPs_nil]; simp
      simp only [turnC, C.t_rests_of_1, C.e_rests_of_1]
      simp [wrong_ones_ok g (stands_st hs), e]
      split <;> rfl)
  have hz : szOk (stands ns.length).length = true := szOk_of (by
    rw [stands_len]
    exact Nat.le_trans (Nat.pow_le_pow_right (by omega) hl) (by omega))
  simp [C.g_rests_of, C.m_rests_of, e_fnP, stands_of_ok hl, h, hz]
end H

set_option Elab.async false
set_option linter.all false
set_option maxRecDepth 100000
set_option exponentiation.threshold 300
namespace H
open PySem PySem.Spec PyProof.Rows L2 Y
/-! ### the cells -/
def cellI (ns : List Int) (k : Nat) : Int := if k < ns.length then ns.getD k 0 else 6151 * k + 29
def isOk (r : R Hd) (d : D) : Prop := r = .ok (.fr d) ∨ r = .ok (.vl d)
theorem cell_ok {ns : List Int} {k : Nat} : isOk (C.g__law_cell [.arg ns, .int k]) (.int (cellI ns k)) := by
  unfold cellI
  by_cases h : k < ns.length
  · right
    have a := atI_int (xs := ns) (i := k) (by omega) (by omega)
    simp only [Int.toNat_natCast] at a
    simp [C.g__law_cell, C.m__law_cell, e_fnP, h, a, -List.getD_eq_getElem?_getD]
  · left
    simp [C.g__law_cell, C.m__law_cell, e_fnP, h, mulOk_l]
/-- numbers that the machine bears as factors -/
def Big (n : Nat) (z : Int) : Prop := z.natAbs < 2 ^ n
theorem Big.mul {a b : Int} {n m : Nat} (h : Big n a) (h2 : Big m b) (hn : n < 67108000) (hm : m < 67108000) : mulOk a b = true := by
  have l : ∀ {z : Int} {n : Nat}, Big n z → n < 67108000 → z.natAbs.log2 < 67108856 := fun {z n} h hn => by
    by_cases e : z.natAbs = 0
    · rw [e]; simp
    · exact Nat.lt_of_lt_of_le ((Nat.log2_lt e).mpr h) (by omega)
  have e : (2 : Nat) ^ 26 - 8 = 67108856 := by decide
  unfold mulOk
  rw [e, decide_eq_true (p := a.natAbs.log2 < 67108856 ∧ b.natAbs.log2 < 67108856) ⟨l h hn, l h2 hm⟩]
  simp
theorem Big.add {a b : Int} {n : Nat} (h : Big n a) (h2 : Big n b) : Big (n + 1) (a + b) := by
  unfold Big at *
  rw [Nat.pow_succ]
  have := Int.natAbs_add_le a b
  omega
theorem Big.times {a b : Int} {n m : Nat} (h : Big n a) (h2 : Big m b) : Big (n + m) (a * b) := by
  unfold Big at *
  rw [Int.natAbs_mul, Nat.pow_add]
  exact Nat.mul_lt_mul'' h h2
theorem Big.up {a : Int} {n m : Nat} (h : Big n a) (hm : n ≤ m) : Big m a := Nat.lt_of_lt_of_le h (Nat.pow_le_pow_right (by omega) hm)
theorem big64 {a : Int} (h : a.natAbs < 18446744073709551616) : Big 64 a := h
/-- a script's numbers are not too great -/
theorem bits_big {z : Int} (h : Builtin.Int.intBits z ≤ 1048576) : Big 1048576 z := by
  unfold Builtin.Int.intBits at h
  unfold Big
  split at h
  · rename_i e
    have : z.natAbs = 0 := by simpa using e
    rw [this]
    exact Nat.pow_pos (by omega)
  · have := Nat.lt_log2_self (n := z.natAbs)
    exact Nat.lt_of_lt_of_le this (Nat.pow_le_pow_right (by omega) h)
theorem cell_big {ns : List Int} {k : Nat} (hb : ∀ z ∈ ns, Builtin.Int.intBits z ≤ 1048576) (hk : k < 1000000) : Big 1048576 (cellI ns k) := by
  unfold cellI
  split
  · rename_i h
    rw [List.getD_eq_getElem?_getD, List.getElem?_eq_getElem h]
    exact bits_big (hb _ (List.getElem_mem h))
  · exact (big64 (by omega)).up (by omega)
def mixI (c k : Int) : Int :=
  let n := (c + 1) * 40692 + 104729 * k
  let m := n * n % 2147483399 + k
  m * (m + 31) % 2147483563
theorem mix_ok {c : Int} {k : Nat} (hc : Big 1048576 c) (hk : k < 1000000) : C.g__law_mix [.int c, .int k] = .ok (.fr (.int (mixI c k))) := by
  have b1 : Big 1048700 ((c + 1) * 40692 + 104729 * k) := by
    have h1 : Big 1048577 (c + 1) := Big.add hc ((big64 (a := 1) (by omega)).up (by omega))
    have h2 : Big (1048577 + 64) ((c + 1) * 40692) := h1.times (big64 (by omega))
    have h3 : Big 64 (104729 * (k : Int)) := big64 (by omega)
    exact (h2.add (h3.up (by omega))).up (by omega)
  have b2 := Big.mul b1 b1 (by omega) (by omega)
  have p : 0 ≤ ((c + 1) * 40692 + 104729 * (k : Int)) * ((c + 1) * 40692 + 104729 * k) % 2147483399 ∧ ((c + 1) * 40692 + 104729 * (k : Int)) * ((c + 1) * 40692 + 104729 * k) % 2147483399 < 2147483399 := ⟨Int.emod_nonneg _ (by omega), Int.emod_lt_of_pos _ (by omega)⟩
  have b3 : mulOk (((c + 1) * 40692 + 104729 * (k : Int)) * ((c + 1) * 40692 + 104729 * k) % 2147483399 + k) (((c + 1) * 40692 + 104729 * (k : Int)) * ((c + 1) * 40692 + 104729 * k) % 2147483399 + k + 31) = true := mulOk_l (by omega)
  have b4 : mulOk (c + 1) 40692 = true := mulOk_r (by decide)
  have b5 : mulOk 104729 k = true := mulOk_l (by decide)
  simp [C.g__law_mix, C.m__law_mix, e_fnP, b2, b3, b4, b5, mixI]
def boxN (c : Int) (j : Nat) : Int := (List.range j).foldl (fun p j => p * 2147483647 + mixI c (j : Nat)) 0
theorem boxN_succ {c : Int} {j : Nat} : boxN c (j + 1) = boxN c j * 2147483647 + mixI c j := by
  unfold boxN
  rw [List.range_succ, List.foldl_append]
  rfl
theorem box_ok {ns : List Int} {k : Nat} (hb : ∀ z ∈ ns, Builtin.Int.intBits z ≤ 1048576) (hk : k < 1000) : ∃ b : Int, C.g__law_box [.arg ns, .int k] = .ok (.fr (.lst [.int b])) := by
  have hc := cell_big (ns := ns) (k := k) hb (by omega)
  have h : forL (tmName 4) C.b__law_box_1 [4] [] ((List.range 24).map fun j : Nat => D.int (j : Nat)) [some (.arg ns), some (.int k), some (.int (cellI ns k)), some (.int 0), none] = .ok (.nx, [some (.arg ns), some (.int k), some (.int (cellI ns k)), some (.int (boxN (cellI ns k) 24)), none]) :=
    for_rng (fun j : Nat => D.int (j : Nat)) (fun j => [some (.arg ns), some (.int k), some (.int (cellI ns k)), some (.int (boxN (cellI ns k) j)), none]) (fun j hj => by
      refine ⟨by simp, ?_⟩
      have m := mix_ok (k := j) hc (by omega)
      have b : ∀ p : Int, mulOk p 2147483647 = true := fun p => mulOk_r (by decide)
      simp only [turnF, C.b__law_box_1]
      simp [m, b, boxN_succ])
  have hr : rngOk 24 = true := by decide
  have hz : szOk 24 = true := by decide
  have r24 : rng1D [.int 24] = .ok ((List.range 24).map fun j : Nat => D.int (j : Nat)) := by rw [d_rng1, if_pos hr]; rfl
  have z24 : szOk ((List.range 24).map fun j : Nat => D.int (j : Nat)).length = true := by simp [hz]
  by_cases e : cellI ns k % 2 = 0
  · refine ⟨cellI ns k / 2, ?_⟩
    rcases cell_ok (ns := ns) (k := k) with c | c <;> simp [C.g__law_box, C.m__law_box, e_fnP, c, e, smallPos_of]
  · refine ⟨boxN (cellI ns k) 24, ?_⟩
    rcases cell_ok (ns := ns) (k := k) with c | c <;> simp only [C.g__law_box, C.m__law_box] <;> generalize C.b__law_box_1 = B at h ⊢ <;> generalize (List.range 24).map (fun j : Nat => D.int (j : Nat)) = L24 at h r24 z24 <;> simp [e_fnP, c, e, r24, z24, h, -d_rng1]
theorem take_ok {n m : Int} (h0 : 0 < m) (h1 : m < 1073741824) : C.g__law_take [.lst [.int n], .int m] = .ok (.vl (.int (n % m)), [some (.lst [.int (n / m)]), none]) := by
  have a : atI [D.int n] 0 = some (.int n) := rfl
  have b : ixN 1 0 = some 0 := rfl
  simp [C.g__law_take, C.m__law_take, e_fnD, smallPos_of h0 h1, a, b]
theorem shl1 {k : Nat} (h : k ≤ 1000000) : shlD (.int 1) (.int (k : Nat)) = .ok (.int ((2 ^ k : Nat) : Int)) := by
  rw [d_shl, if_pos (shOk_of (by omega) (by omega) (by decide))]
  simp
theorem cut_hi {ds : List D} {k : Nat} : Y.cutD ds none (some (k : Int)) = ds.take k := by
  unfold Y.cutD
  rw [HT.sIx_none, HT.sIx_nat]
  simp
/-- a rule for m switches -/
structure RuleOk (m : Nat) (r : RuleT) : Prop where
  len : r.1.length ≤ 4
  sub : ∃ es : List Nat, r.1 = es.map (fun j : Nat => (j : Int)) ∧ es.Sublist (List.range m)
  tab : r.2.length = 2 ^ r.1.length
  bit : ∀ x ∈ r.2, 0 ≤ x ∧ x < 2
theorem bit1 {x : Int} : 0 ≤ Builtin.bitAnd x 1 ∧ Builtin.bitAnd x 1 < 2 := by
  have := Bits.bit_at (x := x) 0
  simp at this
  rw [this]
  omega
theorem rule_ok {n : Int} {m : Nat} (hm : m ≤ 100) : ∃ (r : RuleT) (n' : Int), C.g__law_rule [.lst [.int n], .int m] = .ok (.fr (dRule r), [some (.lst [.int n']), none]) ∧ RuleOk m r := by
  obtain ⟨es, n1, h1, sub⟩ := comp_exF (tm := tmName 9) (t := C.t__law_rule_1) (e := C.e__law_rule_1) (vs := [9]) (ws := []) (fun j : Nat => D.int (j : Nat)) (fun j : Nat => D.int (j : Nat)) (fun b : Int => [some (.lst [.int b]), some (.int m), none, none, none, none, none, none, none, none]) (List.range m) n (fun b j hj => by
    refine ⟨decide (b % 3 = 0), b / 3, ?_, by simp⟩
    simp only [turnC, C.t__law_rule_1, C.e__law_rule_1]
    simp [take_ok]
    split <;> rfl)
  generalize hE : (es.take 4).map (fun j : Nat => (j : Int)) = E
  have hE2 : (es.take 4).map (fun j : Nat => D.int (j : Nat)) = E.map D.int := by rw [← hE, List.map_map]; rfl
  have hL : E.length ≤ 4 := by rw [← hE]; simp; omega
  have hS : 1 ≤ 2 ^ E.length ∧ 2 ^ E.length ≤ 16 := ⟨Nat.pow_pos (by omega), Nat.pow_le_pow_right (n := 2) (by omega) hL⟩
  have hT : 1 ≤ 2 ^ 2 ^ E.length ∧ 2 ^ 2 ^ E.length ≤ 65536 := ⟨Nat.pow_pos (by omega), Nat.pow_le_pow_right (n := 2) (by omega) hS.2⟩
  have s1 := shl1 (k := E.length) (by omega)
  have s2 := shl1 (k := 2 ^ E.length) (by omega)
  have c4 : Y.cutD (es.map (fun j : Nat => D.int (j : Nat))) none (some 4) = E.map D.int := by
    rw [← hE2, List.map_take]
    exact cut_hi (k := 4)
  have rok : ∀ t : List Int, t.length = 2 ^ E.length → (∀ x ∈ t, 0 ≤ x ∧ x < 2) → RuleOk m (E, t) := fun t h1 h2 => ⟨hL, ⟨es.take 4, hE.symm, (List.take_sublist 4 es).trans sub⟩, h1, h2⟩
  have rm : rngOk m = true := rngOk_of (by omega) (by omega)
  have zm : szOk m = true := szOk_of (by omega)
  generalize 2 ^ 2 ^ E.length = T at *
  generalize hSe : 2 ^ E.length = S at *
  have rS : rngOk S = true := rngOk_of (by omega) (by omega)
  have zS : szOk S = true := szOk_of (by omega)
  have tk : ∀ (b : Int) (k : Nat), 1 ≤ k → k ≤ 65536 → C.g__law_take [.lst [.int b], .int k] = .ok (.vl (.int (b % k)), [some (.lst [.int (b / k)]), none]) := fun b k h1 h2 => take_ok (by omega) (by omega)
  have tS := fun b : Int => tk b S hS.1 (by omega)
  have tT := fun b : Int => tk b T hT.1 hT.2
  by_cases way : 0 < n1 % 3
  · -- bits drawn
    let f : Nat → Int := fun p => Builtin.bitAnd (n1 / 3 % T / 2 ^ p) 1
    have h2 : ∀ (a b c d e g : Option D), cCompL (tmName 8) cYes C.e__law_rule_2 [8] [] ((List.range S).map fun j : Nat => D.int (j : Nat)) [a, b, c, d, some (.int (n1 / 3 % T)), e, g, none, none, none] = .ok (((List.range S).map f).map D.int, [a, b, c, d, some (.int (n1 / 3 % T)), e, g, none, none, none]) := fun a b c d e g => by
      rw [List.map_map]
      exact comp_map (fun j : Nat => D.int (j : Nat)) (fun p => D.int (f p)) (List.range S) fun p hp => by
        simp only [turnC, C.e__law_rule_2]
        simp [f]
    refine ⟨(E, (List.range S).map f), n1 / 3 / T, ?_, rok _ (by simp) fun x hx => ?_⟩
    · simp only [C.g__law_rule, C.m__law_rule]
      simp [e_fnD, rm, zm, h1, c4, s1, s2, tS, tT, take_ok, way, rS, zS, h2, hS, hT, -d_shl]
    · obtain ⟨p, _, rfl⟩ := List.mem_map.mp hx
      exact bit1
  · -- by how many
    have t2 : ∀ b : Int, C.g__law_take [.lst [.int b], .int ((E.length : Nat) + 2)] = .ok (.vl (.int (b % ((E.length : Nat) + 2))), [some (.lst [.int (b / ((E.length : Nat) + 2))]), none]) := fun b => take_ok (by omega) (by omega)
    have rL : rngOk E.length = true := rngOk_of (by omega) (by omega)
    have zL : szOk E.length = true := szOk_of (by omega)
    let ms : Int := n1 / 3 % S
    let le : Int := n1 / 3 / S % ((E.length : Nat) + 2)
    let n4 : Int := n1 / 3 / S / ((E.length : Nat) + 2)
    let bt : Nat → Nat → Int := fun p j => Builtin.bitAnd (Builtin.bitXor p ms / 2 ^ j) 1
    let f : Nat → Int := fun p => if le ≤ ((List.range E.length).map (bt p)).sum then 1 else 0
    have h2 : ∀ p : Nat, ∀ (a b c d e g h : Option D), cCompL (tmName 9) cYes C.e__law_rule_3 [9] [] ((List.range E.length).map fun j : Nat => D.int (j : Nat)) [a, b, c, d, e, some (.int ms), g, h, some (.int p), none] = .ok (((List.range E.length).map (bt p)).map D.int, [a, b, c, d, e, some (.int ms), g, h, some (.int p), none]) := fun p a b c d e g h => by
      rw [List.map_map]
      exact comp_map (fun j : Nat => D.int (j : Nat)) (fun j => D.int (bt p j)) (List.range E.length) fun j hj => by
        simp only [turnC, C.e__law_rule_3]
        simp [bt]
    have h3 : forL (tmName 8) C.b__law_rule_1 [8] [] ((List.range S).map fun j : Nat => D.int (j : Nat)) [some (.lst [.int n4]), some (.int m), some (ti E), some (.int S), none, some (.int ms), some (.int le), some (.lst []), none, none] = .ok (.nx, [some (.lst [.int n4]), some (.int m), some (ti E), some (.int S), none, some (.int ms), some (.int le), some (.lst (((List.range S).map f).map D.int)), none, none]) :=
      for_rng (fun j : Nat => D.int (j : Nat)) (fun j => [some (.lst [.int n4]), some (.int m), some (ti E), some (.int S), none, some (.int ms), some (.int le), some (.lst (((List.range j).map f).map D.int)), none, none]) fun j hj => by
        refine ⟨by simp, ?_⟩
        have z1 : szOk (j + 1) = true := szOk_of (by omega)
        simp only [turnF, C.b__law_rule_1]
        simp [rL, zL, h2, z1, List.range_succ, f, -List.map_map]
    refine ⟨(E, (List.range S).map f), n4, ?_, rok _ (by simp) fun x hx => ?_⟩
    · simp only [C.g__law_rule, C.m__law_rule]
      have h3 : forL (tmName 8) C.b__law_rule_1 [8] [] ((List.range S).map fun j : Nat => D.int (j : Nat)) [some (.lst [.int (n1 / 3 / S / ((E.length : Nat) + 2))]), some (.int m), some (ti E), some (.int S), none, some (.int (n1 / 3 % S)), some (.int (n1 / 3 / S % ((E.length : Nat) + 2))), some (.lst []), none, none] = _ := h3
      simp [e_fnD, rm, zm, h1, c4, s1, s2, tS, t2, take_ok, way, rS, zS, h3, hS, hT, -d_shl, shAt]
    · obtain ⟨p, _, rfl⟩ := List.mem_map.mp hx
      simp only [f]
      split <;> omega
end H

set_option Elab.async false
set_option linter.all false
set_option maxRecDepth 100000
namespace H
open PySem PySem.Spec PyProof.Rows L2 Y
structure NetOk (ns : List RuleT) (most : Nat) : Prop where
  pos : 1 ≤ ns.length
  le : ns.length ≤ most
  rule : ∀ r ∈ ns, RuleOk ns.length r
theorem NetOk.good {ns : List RuleT} {most : Nat} (h : NetOk ns most) (hm : most ≤ 100) : GoodNet ns where
  sz := Nat.le_trans h.le hm
  ear := fun r hr => by
    have k := h.rule r hr
    refine ⟨by have := k.len; omega, fun e he => ?_, k.tab⟩
    obtain ⟨es, e1, sub⟩ := k.sub
    rw [e1] at he
    obtain ⟨j, hj, rfl⟩ := List.mem_map.mp he
    have := List.mem_range.mp (sub.subset hj)
    omega
theorem net_ok {n : Int} {most : Nat} (h0 : 1 ≤ most) (h1 : most ≤ 20) : ∃ (ns : List RuleT) (n' : Int), C.g__law_net [.lst [.int n], .int most] = .ok (.fr (dNet ns), [some (.lst [.int n']), none]) ∧ NetOk ns most := by
  have p : 0 ≤ n % (most : Int) ∧ n % (most : Int) < most := ⟨Int.emod_nonneg _ (by omega), Int.emod_lt_of_pos _ (by omega)⟩
  have tk := take_ok (n := n) (m := most) (by omega) (by omega)
  obtain ⟨M, hM⟩ : ∃ M : Nat, 1 + n % (most : Int) = M := ⟨(1 + n % (most : Int)).toNat, by omega⟩
  have hM1 : 1 ≤ M ∧ M ≤ most := by omega
  obtain ⟨ns, n2, e, hl, hr⟩ := comp_ex (tm := tmName 3) (t := cYes) (e := C.e__law_net_1) (vs := [3]) (ws := []) (fun j : Nat => D.int (j : Nat)) dRule (fun b : Int => [some (.lst [.int b]), some (.int most), some (.int M), none]) (RuleOk M) (List.range M) (n / most) (fun b j hj => by
    obtain ⟨r, b2, e, hr⟩ := rule_ok (n := b) (m := M) (by omega)
    refine ⟨r, b2, ?_, hr, by simp⟩
    simp only [turnC, C.e__law_net_1]
    simp [e])
  rw [List.length_range] at hl
  have rM : rngOk M = true := rngOk_of (by omega) (by omega)
  have zM : szOk M = true := szOk_of (by omega)
  refine ⟨ns, n2, ?_, ⟨by omega, by omega, by rw [hl]; exact hr⟩⟩
  simp only [C.g__law_net, C.m__law_net]
  simp [e_fnD, tk, hM, rM, zM, e]
/-! ### the law's stands -/
theorem band1 {x : Int} : Builtin.bitAnd x 1 = x % 2 := by
  have := Bits.bit_at (x := x) 0
  simpa using this
def bitsI (m p : Nat) : List Int := (List.range m).map fun j => (((p / 2 ^ (m - 1 - j) % 2 : Nat)) : Int)
theorem bitsI_lo {m p : Nat} (h : p < 2 ^ m) : bitsI (m + 1) p = 0 :: bitsI m p := by
  unfold bitsI
  rw [List.range_succ_eq_map, List.map_cons, List.map_map]
  congr 1
  · simp [Nat.div_eq_of_lt h]
  · refine List.map_congr_left fun j hj => ?_
    show (((p / 2 ^ (m + 1 - 1 - (j + 1)) % 2 : Nat)) : Int) = _
    rw [show m + 1 - 1 - (j + 1) = m - 1 - j by omega]
theorem bitsI_hi {m p : Nat} (h : p < 2 ^ m) : bitsI (m + 1) (2 ^ m + p) = 1 :: bitsI m p := by
  unfold bitsI
  rw [List.range_succ_eq_map, List.map_cons, List.map_map]
  have hp : 0 < 2 ^ m := Nat.pow_pos (by omega)
  congr 1
  · rw [show m + 1 - 1 - 0 = m by omega, Nat.add_div_left _ hp, Nat.div_eq_of_lt h]
    rfl
  · refine List.map_congr_left fun j hj => ?_
    have hj := List.mem_range.mp hj
    show ((((2 ^ m + p) / 2 ^ (m + 1 - 1 - (j + 1)) % 2 : Nat)) : Int) = _
    rw [show m + 1 - 1 - (j + 1) = m - 1 - j by omega]
    have e : 2 ^ m = 2 ^ (m - 1 - j) * (2 * 2 ^ j) := by
      rw [show 2 * 2 ^ j = 2 ^ (j + 1) by rw [Nat.pow_succ]; omega, ← Nat.pow_add]
      congr 1
      omega
    rw [e, Nat.mul_add_div (Nat.pow_pos (by omega))]
    congr 1
    omega
theorem stands_bits : ∀ m, stands m = (List.range (2 ^ m)).map (bitsI m)
  | 0 => by simp [stands, bitsI]
  | m + 1 => by
    rw [stands, stands_bits m, Nat.pow_succ, show 2 ^ m * 2 = 2 ^ m + 2 ^ m by omega, List.range_add, List.map_append, List.map_map, List.map_map, List.map_map]
    congr 1
    · exact List.map_congr_left fun p hp => (bitsI_lo (List.mem_range.mp hp)).symm
    · exact List.map_congr_left fun p hp => (bitsI_hi (List.mem_range.mp hp)).symm
theorem law_stands_ok {m : Nat} (hm : m ≤ 20) : C.g__law_stands [.int m] = .ok (.fr (lti (stands m))) := by
  have hp : 2 ^ m ≤ 1048576 := Nat.pow_le_pow_right (n := 2) (by omega) hm
  have rm : rngOk m = true := rngOk_of (by omega) (by omega)
  have zm : szOk m = true := szOk_of (by omega)
  have s1 := shl1 (k := m) (by omega)
  have h2 : ∀ (p : Nat) (b : Option D), cCompL (tmName 3) cYes C.e__law_stands_1 [3] [] ((List.range m).map fun j : Nat => D.int (j : Nat)) [some (.int m), b, some (.int p), none] = .ok ((bitsI m p).map D.int, [some (.int m), b, some (.int p), none]) := fun p b => by
    unfold bitsI
    rw [List.map_map]
    exact comp_map (fun j : Nat => D.int (j : Nat)) (fun j => D.int ((((p / 2 ^ (m - 1 - j) % 2 : Nat)) : Int))) (List.range m) fun j hj => by
      have hj := List.mem_range.mp hj
      have e : (m : Int) - 1 - j = ((m - 1 - j : Nat) : Int) := by omega
      simp only [turnC, C.e__law_stands_1]
      simp [e, band1]
  have h3 : forL (tmName 2) C.b__law_stands_1 [2] [] ((List.range (2 ^ m)).map fun j : Nat => D.int (j : Nat)) [some (.int m), some (.lst []), none, none] = .ok (.nx, [some (.int m), some (.lst (((List.range (2 ^ m)).map (bitsI m)).map ti)), none, none]) :=
    for_rng (fun j : Nat => D.int (j : Nat)) (fun j => [some (.int m), some (.lst (((List.range j).map (bitsI m)).map ti)), none, none]) fun j hj => by
      have z1 : szOk (j + 1) = true := szOk_of (by omega)
      refine ⟨by simp, ?_⟩
      simp only [turnF, C.b__law_stands_1]
      simp [rm, zm, h2, z1, List.range_succ, -List.map_map]
  rw [← stands_bits] at h3
  generalize hS : 2 ^ m = S at *
  have rS : rngOk S = true := rngOk_of (by omega) (by omega)
  have zS : szOk S = true := szOk_of (by omega)
  simp only [C.g__law_stands, C.m__law_stands]
  simp [e_fnP, s1, rS, zS, h3, -d_shl, -List.map_map]
/-! ### the law's look -/
theorem law_ought_ok {ns : List RuleT} {st : List Int} {k : Nat} (g : GoodNet ns) (hs : IsSt ns.length st) (hk : k < ns.length) : C.g__law_ought [dNet ns, ti st, .int k] = .ok (.vl (.int (oughtI ns st k))) := by
  obtain ⟨h1, h2, h3⟩ := g.at hk
  have h5 := read_lt hs (ns.getD k ([], [])).1
  have h6 := atI_mapI (xs := (ns.getD k ([], [])).2) h5.1 (by rw [h3]; exact_mod_cast h5.2)
  have zE : szOk (ns.getD k ([], [])).1.length = true := szOk_of (by omega)
  have na := net_at hk
  have ho : oughtI ns st k = (ns.getD k ([], [])).2.getD (placeI ((ns.getD k ([], [])).1.map fun e => st.getD e.toNat 0)).toNat 0 := rfl
  rw [ho]
  clear ho
  generalize ns.getD k ([], []) = r at *
  obtain ⟨E, Tb⟩ := r
  simp only at h1 h2 h3 h5 h6 zE
  show _ = R.ok (Hd.vl (D.int (Tb.getD (placeI (E.map fun e => st.getD e.toNat 0)).toNat 0)))
  have h4 := for_run (tm := tmName 6) (body := C.b__law_ought_1) (vs := [6]) (ws := []) D.int (fun p : Int => [some (dNet ns), some (ti st), some (.int k), some (ti E), some (ti Tb), some (.int p), none]) (fun p e => 2 * p + st.getD e.toNat 0) (fun _ => True) E 0 trivial (fun p e _ he => by
    have := h2 e he
    refine ⟨trivial, by simp, ?_⟩
    simp only [turnF, C.b__law_ought_1]
    simp [atI_mapI this.1 (by rw [hs.len]; exact this.2), mulOk_r, Int.mul_comm, -List.getD_eq_getElem?_getD])
  have hf : E.foldl (fun p e => 2 * p + st.getD e.toNat 0) 0 = placeI (E.map fun e => st.getD e.toNat 0) := by rw [placeI, List.foldl_map]
  rw [hf] at h4
  simp only [C.g__law_ought, C.m__law_ought]
  simp [e_fnP, na, zE, h4.1, h6, -List.getD_eq_getElem?_getD]
theorem law_wrong_ok {ns : List RuleT} {st : List Int} (g : GoodNet ns) (hs : IsSt ns.length st) : C.g__law_wrong [dNet ns, ti st] = .ok (.fr (ln' (wrongI ns st))) := by
  have hz := g.sz
  have h : cCompL (tmName 2) C.t__law_wrong_1 C.e__law_wrong_1 [2] [] ((List.range ns.length).map fun k : Nat => D.int (k : Nat)) [some (dNet ns), some (ti st), none] = .ok ((wrongI ns st).map fun k => D.int (k : Nat), [some (dNet ns), some (ti st), none]) :=
    comp_filter (fun k : Nat => D.int (k : Nat)) (fun k => !decide (oughtI ns st k = st.getD k 0)) (fun k => D.int (k : Nat)) (List.range ns.length) (fun k hk => by
      have hk := List.mem_range.mp hk
      have a := atI_mapI (xs := st) (i := k) (by omega) (by rw [hs.len]; omega)
      simp only [turnC, C.t__law_wrong_1, C.e__law_wrong_1, Int.toNat_natCast] at a ⊢
      simp [law_ought_ok g hs hk, a, -List.getD_eq_getElem?_getD]
      by_cases c : oughtI ns st k = st.getD k 0 <;> simp [c, -List.getD_eq_getElem?_getD])
  have hr : rngOk ns.length = true := rngOk_of (by omega) (by omega)
  have hz2 : szOk ns.length = true := szOk_of (by omega)
  simp only [C.g__law_wrong, C.m__law_wrong]
  simp [e_fnP, hr, hz2, h]
theorem fit_lti {n : Nat} {xs : List (List Int)} : Fit (n + 2) (lti xs) := fun d h => by
  obtain ⟨x, _, rfl⟩ := List.mem_map.mp h
  exact fit_tupI
end H

set_option Elab.async false
set_option linter.all false
set_option maxRecDepth 100000
namespace H
open PySem PySem.Spec PyProof.Rows L2 Y
theorem cut_to {ds : List D} {k : Nat} : Y.cutD ds none (some (k : Int)) = ds.take k := cut_hi
theorem cut_from {ds : List D} {k : Nat} : Y.cutD ds (some (k : Int)) none = ds.drop k := by
  unfold Y.cutD
  rw [HT.sIx_none, HT.sIx_nat]
  by_cases h : k ≤ ds.length
  · rw [Nat.min_eq_left h, List.take_of_length_le (by simp)]
  · rw [Nat.min_eq_right (by omega), List.drop_of_length_le (Nat.le_refl _), List.drop_of_length_le (by omega)]
    simp
def withI (st : List Int) (k : Nat) (b : Int) : List Int := st.take k ++ b :: st.drop (k + 1)
theorem with_bit_ok {st : List Int} {k : Nat} {b : Int} (hl : st.length ≤ 1000000) : C.g_with_bit [ti st, .int k, .int b] = .ok (.fr (ti (withI st k b))) := by
  have c1 := cut_to (ds := st.map D.int) (k := k)
  have c2 := cut_from (ds := st.map D.int) (k := k + 1)
  rw [show ((k + 1 : Nat) : Int) = (k : Int) + 1 by omega] at c2
  have z1 : szOk (min k st.length + 1) = true := szOk_of (by omega)
  have z2 : szOk (min k st.length + 1 + (st.length - (k + 1))) = true := szOk_of (by omega)
  simp only [C.g_with_bit, C.m_with_bit]
  simp [e_fnP, c1, c2, z1, z2, withI]
theorem look_at_switch_ok {n : List D} {k : Nat} (hk : k < n.length) : C.g_look_at_switch [.tup n, .int k] = .ok (.fr .non) := by
  simp only [C.g_look_at_switch, C.m_look_at_switch]
  simp [e_fnP, hk]
theorem told_by_ok {ns : List RuleT} {st : List Int} {k : Nat} (g : GoodNet ns) (hs : IsSt ns.length st) (hk : k < ns.length) : C.g_told_by [dNet ns, ti st, .int k] = .ok (.vl (.int (oughtI ns st k))) := by
  have hz := g.sz
  have l := look_at_stand_ok (n := ns.map dRule) (xs := st) (by rw [hs.len]; omega) hs.bit (by rw [hs.len, List.length_map])
  have l2 := look_at_switch_ok (n := ns.map dRule) (k := k) (by rw [List.length_map]; exact hk)
  simp only [C.g_told_by, C.m_told_by]
  simp [e_fnP, l, l2, ought_ok g hs hk]
theorem turned_ok {ns : List RuleT} {st : List Int} {k : Nat} (g : GoodNet ns) (hs : IsSt ns.length st) (hk : k < ns.length) : C.g_turned [dNet ns, ti st, .int k] = .ok (.fr (ti (withI st k (oughtI ns st k)))) := by
  have hz := g.sz
  simp only [C.g_turned, C.m_turned]
  simp [e_fnP, told_by_ok g hs hk, with_bit_ok (st := st) (k := k) (b := oughtI ns st k) (by rw [hs.len]; omega)]
def allI (ns : List RuleT) (st : List Int) : List Int := (List.range ns.length).map (oughtI ns st)
theorem all_turned_ok {ns : List RuleT} {st : List Int} (g : GoodNet ns) (hs : IsSt ns.length st) : C.g_all_turned [dNet ns, ti st] = .ok (.fr (ti (allI ns st))) := by
  have hz := g.sz
  have l := look_at_stand_ok (n := ns.map dRule) (xs := st) (by rw [hs.len]; omega) hs.bit (by rw [hs.len, List.length_map])
  have hr : rngOk ns.length = true := rngOk_of (by omega) (by omega)
  have hz2 : szOk ns.length = true := szOk_of (by omega)
  have h : cCompL (tmName 2) cYes C.e_all_turned_1 [2] [] ((List.range ns.length).map fun k : Nat => D.int (k : Nat)) [some (dNet ns), some (ti st), none] = .ok ((allI ns st).map D.int, [some (dNet ns), some (ti st), none]) := by
    unfold allI
    rw [List.map_map]
    exact comp_map (fun k : Nat => D.int (k : Nat)) (fun k => D.int (oughtI ns st k)) (List.range ns.length) fun k hk => by
      simp only [turnC, C.e_all_turned_1]
      simp [ought_ok g hs (List.mem_range.mp hk)]
  simp only [C.g_all_turned, C.m_all_turned]
  simp [e_fnP, l, hr, hz2, h]
end H

set_option Elab.async false
set_option linter.all false
set_option maxRecDepth 100000
namespace H
open PySem PySem.Spec PyProof.Rows L2 Y
abbrev tn (b : List Nat) : D := .tup (b.map fun k : Nat => D.int (k : Nat))
def blockI (ns : List RuleT) (st : List Int) (b : List Nat) : List Int := b.foldl (fun f k => f.set k (oughtI ns st k)) st
theorem blockI_len {ns : List RuleT} {st : List Int} {b : List Nat} : (blockI ns st b).length = st.length := by
  unfold blockI
  suffices h : ∀ (b : List Nat) (f : List Int), (b.foldl (fun f k => f.set k (oughtI ns st k)) f).length = f.length from h b st
  intro b
  induction b with
  | nil => intro f; rfl
  | cons k b ih => intro f; rw [List.foldl_cons, ih, List.length_set]
theorem ixN_nat {n k : Nat} (h : k < n) : ixN n (k : Int) = some k := by
  unfold ixN
  rw [if_pos (by omega), if_pos (by omega)]
  rfl
theorem block_done_ok {ns : List RuleT} {st : List Int} {b : List Nat} (g : GoodNet ns) (hs : IsSt ns.length st) (hb : ∀ k ∈ b, k < ns.length) (hbl : b.length ≤ 1000000) : C.g_block_done [dNet ns, tn b, ti st] = .ok (.fr (ti (blockI ns st b))) := by
  have h := for_run (tm := tmName 4) (body := C.b_block_done_1) (vs := [4]) (ws := []) (fun k : Nat => D.int (k : Nat)) (fun f : List Int => [some (dNet ns), some (tn b), some (ti st), some (.lst (f.map D.int)), none]) (fun f k => f.set k (oughtI ns st k)) (fun f => f.length = ns.length) b st hs.len (fun f k hf hk => by
    have hk := hb k hk
    have ix := ixN_nat (n := f.length) (k := k) (by omega)
    refine ⟨by simp [hf], by simp, ?_⟩
    simp only [turnF, C.b_block_done_1]
    simp [ought_ok g hs hk, ix, List.map_set])
  have zb : szOk b.length = true := szOk_of (by omega)
  simp only [C.g_block_done, C.m_block_done]
  simp [e_fnP, zb, h.1, blockI]
def doneI (ns : List RuleT) (st : List Int) (o : List (List Nat)) : List Int := o.foldl (blockI ns) st
theorem set_bits {st : List Int} {k : Nat} {v : Int} (h : ∀ x ∈ st, 0 ≤ x ∧ x < 2) (hv : 0 ≤ v ∧ v < 2) : ∀ x ∈ st.set k v, 0 ≤ x ∧ x < 2 := fun x hx => by
  rcases List.mem_or_eq_of_mem_set hx with hx | rfl
  · exact h x hx
  · exact hv
def TabBits (ns : List RuleT) : Prop := ∀ r ∈ ns, ∀ x ∈ r.2, 0 ≤ x ∧ x < 2
theorem NetOk.tab {ns : List RuleT} {most : Nat} (h : NetOk ns most) : TabBits ns := fun r hr => (h.rule r hr).bit
theorem oughtI_bit {ns : List RuleT} {st : List Int} {k : Nat} (hB : TabBits ns) : 0 ≤ oughtI ns st k ∧ oughtI ns st k < 2 := by
  unfold oughtI tellI
  refine getD_bit (fun x hx => ?_) _
  rw [List.getD_eq_getElem?_getD] at hx
  cases e : ns[k]? with
  | none => rw [e] at hx; simp at hx
  | some r => rw [e] at hx; exact hB r (List.mem_of_getElem? e) x hx
theorem blockI_st {ns : List RuleT} {st : List Int} {b : List Nat} {m : Nat} (hB : TabBits ns) (hs : IsSt m st) : IsSt m (blockI ns st b) := by
  refine ⟨by rw [blockI_len, hs.len], ?_⟩
  unfold blockI
  suffices h : ∀ (b : List Nat) (f : List Int), (∀ x ∈ f, 0 ≤ x ∧ x < 2) → ∀ x ∈ b.foldl (fun f k => f.set k (oughtI ns st k)) f, 0 ≤ x ∧ x < 2 from h b st hs.bit
  intro b
  induction b with
  | nil => intro f hf; exact hf
  | cons k b ih => intro f hf; exact ih _ (set_bits hf (oughtI_bit hB))
theorem all_done_ok {ns : List RuleT} {st : List Int} {o : List (List Nat)} (g : GoodNet ns) (hB : TabBits ns) (hs : IsSt ns.length st) (ho : ∀ b ∈ o, b.length ≤ 1000000 ∧ ∀ k ∈ b, k < ns.length) (hol : o.length ≤ 1000000) : C.g_all_done [dNet ns, .tup (o.map tn), ti st] = .ok (.vl (ti (doneI ns st o))) := by
  have h := for_run (tm := tmName 3) (body := C.b_all_done_1) (vs := [3]) (ws := []) tn (fun f : List Int => [some (dNet ns), some (.tup (o.map tn)), some (ti f), none]) (blockI ns) (IsSt ns.length) o st hs (fun f b hf hb => by
    refine ⟨blockI_st hB hf, by simp, ?_⟩
    simp only [turnF, C.b_all_done_1]
    simp [block_done_ok g hf (ho b hb).2 (ho b hb).1])
  have zo : szOk o.length = true := szOk_of (by omega)
  simp only [C.g_all_done, C.m_all_done]
  simp [e_fnP, zo, h.1, doneI]
end H

set_option Elab.async false
set_option linter.all false
set_option maxRecDepth 100000
namespace H
open PySem PySem.Spec PyProof.Rows L2 Y
/-! ### orders and rests -/
theorem block_go {v : Nat → Int} : ∀ (b : List Nat) (f : List Int) (j : Nat), (b.foldl (fun f k => f.set k (v k)) f)[j]? = if j ∈ b ∧ j < f.length then some (v j) else f[j]?
  | [], f, j => by simp
  | k :: b, f, j => by
    rw [List.foldl_cons, block_go b (f.set k (v k)) j, List.length_set]
    by_cases h1 : j < f.length
    · by_cases h2 : j ∈ b
      · simp [h1, h2]
      · by_cases h3 : j = k
        · subst h3
          simp [h1, h2, List.getElem?_set_self h1]
        · simp [h2, h3, List.getElem?_set_ne (fun z => h3 z.symm)]
    · simp [h1]
theorem blockI_at {ns : List RuleT} {st : List Int} {b : List Nat} {j : Nat} : (blockI ns st b)[j]? = if j ∈ b ∧ j < st.length then some (oughtI ns st j) else st[j]? := block_go b st j
theorem doneI_at {ns : List RuleT} : ∀ {o : List (List Nat)} {st : List Int} {j : Nat}, (∀ b ∈ o, j ∉ b) → (doneI ns st o)[j]? = st[j]?
  | [], _, _, _ => rfl
  | b :: o, st, j, h => by
    show (doneI ns (blockI ns st b) o)[j]? = _
    rw [doneI_at fun c hc => h c (by simp [hc]), blockI_at, if_neg fun z => h b (by simp) z.1]
/-- done by an order of unlike switches a stand stays just where each of these is what its rule tells -/
theorem done_same {ns : List RuleT} : ∀ {o : List (List Nat)} {st : List Int}, o.Pairwise (fun b c => ∀ k ∈ b, k ∉ c) → (∀ b ∈ o, ∀ k ∈ b, k < st.length) → (doneI ns st o = st ↔ ∀ b ∈ o, ∀ k ∈ b, some (oughtI ns st k) = st[k]?)
  | [], st, _, _ => by simp [doneI]
  | b :: o, st, hp, hl => by
    obtain ⟨hp1, hp2⟩ := List.pairwise_cons.mp hp
    have same : (∀ k ∈ b, some (oughtI ns st k) = st[k]?) → blockI ns st b = st := fun h => List.ext_getElem? fun j => by
      rw [blockI_at]
      split
      · rename_i c; exact h j c.1
      · rfl
    constructor
    · intro e
      have hb : ∀ k ∈ b, some (oughtI ns st k) = st[k]? := fun k hk => by
        have e1 : (doneI ns (blockI ns st b) o)[k]? = st[k]? := congrArg (·[k]?) e
        rw [doneI_at fun c hc => hp1 c hc k hk, blockI_at, if_pos ⟨hk, hl b (by simp) k hk⟩] at e1
        exact e1
      have e2 : doneI ns st o = st := by
        have : doneI ns (blockI ns st b) o = st := e
        rwa [same hb] at this
      have ih := (done_same hp2 fun c hc => hl c (by simp [hc])).mp e2
      intro c hc
      rcases List.mem_cons.mp hc with rfl | hc
      · exact hb
      · exact ih c hc
    · intro h
      show doneI ns (blockI ns st b) o = st
      rw [same (h b (by simp))]
      exact (done_same hp2 fun c hc => hl c (by simp [hc])).mpr fun c hc => h c (by simp [hc])
end H

set_option Elab.async false
set_option linter.all false
set_option maxRecDepth 100000
namespace H
open PySem PySem.Spec PyProof.Rows L2 Y
/-! ### rising tuples -/
def riseB : List Int → Bool
  | x :: y :: r => decide (x < y) && riseB (y :: r)
  | _ => true
theorem pairsD_map {α β : Type} {f : α → D} {g : β → D} : ∀ {xs : List α} {ys : List β}, pairsD (xs.map f) (ys.map g) = (xs.zip ys).map fun p => .tup [f p.1, g p.2]
  | [], _ => by simp [pairsD]
  | _ :: _, [] => by simp [pairsD]
  | x :: xs, y :: ys => by simp [pairsD, pairsD_map (xs := xs) (ys := ys)]
theorem cut_last {ds : List D} : Y.cutD ds none (some (-1)) = ds.dropLast := by
  unfold Y.cutD
  rw [HT.sIx_none]
  have e : HT.sIx ds.length ds.length (some (-1)) = ds.length - 1 := by
    unfold HT.sIx
    simp
    omega
  rw [e, List.drop_zero, Nat.sub_zero, List.dropLast_eq_take]
theorem cut_one {ds : List D} : Y.cutD ds (some 1) none = ds.tail := by
  have := cut_from (ds := ds) (k := 1)
  rw [show ((1 : Nat) : Int) = 1 by rfl] at this
  rw [this, List.drop_one]
theorem zip_last {α : Type} : ∀ {xs : List α}, xs.dropLast.zip xs.tail = xs.zip xs.tail
  | [] => rfl
  | [x] => rfl
  | x :: y :: r => by
    have := zip_last (xs := y :: r)
    simp only [List.dropLast, List.tail_cons, List.zip_cons_cons] at this ⊢
    cases r with
    | nil => rfl
    | cons z r => simpa using this
theorem rise_zip : ∀ {xs : List Int}, ((xs.zip xs.tail).map fun p => decide (p.1 < p.2)).all id = riseB xs
  | [] => rfl
  | [x] => rfl
  | x :: y :: r => by
    have := rise_zip (xs := y :: r)
    simp only [List.tail_cons] at this ⊢
    rw [List.zip_cons_cons, List.map_cons, List.all_cons, this]
    rfl
theorem are_rising_ok {xs : List Int} {m : Int} (hx : xs.length ≤ 1000000) : C.g_are_rising [ti xs, .int m] = .ok (.fr (.bl (xs.all (fun x => decide (0 ≤ x ∧ x < m)) && riseB xs))) := by
  have h : cCompL (tmName 2) cYes C.e_are_rising_1 [2] [] (xs.map D.int) [some (ti xs), some (.int m), none, none] = .ok ((xs.map fun x => decide (0 ≤ x ∧ x < m)).map D.bl, [some (ti xs), some (.int m), none, none]) := by
    rw [List.map_map]
    exact comp_map D.int (fun x => D.bl (decide (0 ≤ x ∧ x < m))) xs (fun x _ => by
      simp only [turnC, C.e_are_rising_1]
      simp)
  have h2 : cCompL (tmTup [2, 3]) cYes C.e_are_rising_2 [2, 3] [] ((xs.zip xs.tail).map fun p => D.tup [.int p.1, .int p.2]) [some (ti xs), some (.int m), none, none] = .ok (((xs.zip xs.tail).map fun p => decide (p.1 < p.2)).map D.bl, [some (ti xs), some (.int m), none, none]) := by
    rw [List.map_map]
    exact comp_map (fun p : Int × Int => D.tup [.int p.1, .int p.2]) (fun p => D.bl (decide (p.1 < p.2))) (xs.zip xs.tail) (fun x _ => by
      simp only [turnC, C.e_are_rising_2]
      simp)
  have z1 : szOk xs.length = true := szOk_of (by omega)
  have z2 : szOk (xs.length - 1) = true := szOk_of (by omega)
  have p1 : pairsD (Y.cutD (xs.map D.int) none (some (-1))) (Y.cutD (xs.map D.int) (some 1) none) = (xs.zip xs.tail).map fun p => D.tup [.int p.1, .int p.2] := by
    rw [cut_last, cut_one, ← List.map_dropLast, ← List.map_tail, pairsD_map, zip_last]
  generalize hb1 : xs.all (fun x => decide (0 ≤ x ∧ x < m)) = b1
  have a1 : allD [.lst ((xs.map fun x => decide (0 ≤ x ∧ x < m)).map D.bl)] = .ok (.bl b1) := by rw [d_all, List.all_map, ← hb1]; rfl
  have a2 : allD [.lst (((xs.zip xs.tail).map fun p => decide (p.1 < p.2)).map D.bl)] = .ok (.bl (riseB xs)) := by rw [d_all, rise_zip]
  generalize ((xs.map fun x => decide (0 ≤ x ∧ x < m)).map D.bl) = L1 at h a1
  generalize (((xs.zip xs.tail).map fun p => decide (p.1 < p.2)).map D.bl) = L2 at h2 a2
  simp only [C.g_are_rising, C.m_are_rising]
  cases b1 <;> simp [e_fnP, noDit, Y.isTup, z1, z2, h, itD, p1, h2, a1, a2, sliceD, -d_all]
/-! ### blocks -/
theorem tn_ti {b : List Nat} : tn b = ti (b.map fun k : Nat => (k : Int)) := by simp [tn, ti]
theorem rise_of : ∀ {xs : List Int}, xs.Pairwise (· < ·) → riseB xs = true
  | [], _ => rfl
  | [x], _ => rfl
  | x :: y :: r, h => by
    have h1 := (List.pairwise_cons.mp h).1 y (by simp)
    have h2 := rise_of (List.pairwise_cons.mp h).2
    unfold riseB
    simp [h1, h2]
theorem rise_sub {b : List Nat} {m : Nat} (h : b.Sublist (List.range m)) : (b.map fun k : Nat => (k : Int)).Pairwise (· < ·) := by
  rw [List.pairwise_map]
  have := (List.pairwise_lt_range (n := m)).sublist h
  exact this.imp fun h => by omega
theorem fit_tn {n : Nat} {b : List Nat} : Fit (n + 1) (tn b) := by rw [tn_ti]; exact fit_tupI
theorem is_block_ok {ns : List RuleT} {b : List Nat} (hn : ns.length ≤ 100) (hb : b.Sublist (List.range ns.length)) (h0 : b ≠ []) : C.g_is_block [dNet ns, tn b] = .ok (.fr (.bl true)) := by
  have bl : b.length ≤ 100 := by have := hb.length_le; rw [List.length_range] at this; omega
  have r := are_rising_ok (xs := b.map fun k : Nat => (k : Int)) (m := ns.length) (by rw [List.length_map]; omega)
  rw [← tn_ti, rise_of (rise_sub hb), Bool.and_true] at r
  have ha : (b.map fun k : Nat => (k : Int)).all (fun x => decide (0 ≤ x ∧ x < (ns.length : Int))) = true := by
    rw [List.all_eq_true]
    intro x hx
    obtain ⟨k, hk, rfl⟩ := List.mem_map.mp hx
    have := List.mem_range.mp (hb.subset hk)
    simp; omega
  rw [ha] at r
  have e : neD (tn b) (.tup []) = .ok (.bl true) := by
    rw [neD_of (n := 1) fit_tn (by unfold Fit; intro d h; cases h), eqP_tup, eqPs_nil]
    simp [h0]
  simp only [C.g_is_block, C.m_is_block]
  simp [e_fnP, r, e]
/-! ### orders -/
structure OrdOk (m : Nat) (o : List (List Nat)) : Prop where
  ne : ∀ b ∈ o, b ≠ []
  sub : ∀ b ∈ o, b.Sublist (List.range m)
  perm : o.flatten.Perm (List.range m)
theorem OrdOk.len {m : Nat} {o : List (List Nat)} (h : OrdOk m o) : o.length ≤ m := by
  have : ∀ o : List (List Nat), (∀ b ∈ o, b ≠ []) → o.length ≤ o.flatten.length := fun o => by
    induction o with
    | nil => simp
    | cons b o ih =>
      intro h
      have h1 := h b (by simp)
      have h2 := ih fun c hc => h c (by simp [hc])
      have : 0 < b.length := List.length_pos_iff.mpr h1
      rw [List.flatten_cons, List.length_append, List.length_cons]
      omega
  have h2 := this o h.ne
  rw [h.perm.length_eq, List.length_range] at h2
  exact h2
theorem OrdOk.apart {m : Nat} {o : List (List Nat)} (h : OrdOk m o) : o.Pairwise (fun b c => ∀ k ∈ b, k ∉ c) := by
  have : o.flatten.Nodup := h.perm.nodup_iff.mpr List.nodup_range
  have := (List.pairwise_flatten.mp this).2
  exact this.imp fun h k hk z => h k hk k z rfl
theorem range_int {n : Nat} : ((List.range n).map fun k : Nat => (k : Int)).Pairwise (· ≤ ·) := by
  rw [List.pairwise_map]
  exact (List.pairwise_lt_range (n := n)).imp fun h => by omega
theorem is_order_ok {ns : List RuleT} {o : List (List Nat)} (hn : ns.length ≤ 100) (h : OrdOk ns.length o) : C.g_is_order [dNet ns, .tup (o.map tn)] = .ok (.fr (.bl true)) := by
  have ol := h.len
  have h1 : cCompL (tmName 3) cYes C.e_is_order_1 [3] [] (o.map tn) [some (dNet ns), some (.tup (o.map tn)), none, none] = .ok ((o.map fun _ => true).map D.bl, [some (dNet ns), some (.tup (o.map tn)), none, none]) := by
    rw [List.map_map]
    exact comp_map tn (fun b => D.bl true) o (fun b hb => by
      simp only [turnC, C.e_is_order_1]
      simp [is_block_ok hn (h.sub b hb) (h.ne b hb)])
  have a1 : allD [.lst ((o.map fun _ => true).map D.bl)] = .ok (.bl true) := by rw [d_all]; simp
  generalize (o.map fun _ => true).map D.bl = L1 at h1 a1
  have bl : ∀ b ∈ o, b.length ≤ 100 := fun b hb => by have := (h.sub b hb).length_le; rw [List.length_range] at this; omega
  have fl : ∀ i, ((o.take i).flatten).length ≤ 100 := fun i => by
    have e : (o.take i).flatten ++ (o.drop i).flatten = o.flatten := by rw [← List.flatten_append, List.take_append_drop]
    have e2 := congrArg List.length e
    rw [List.length_append, h.perm.length_eq, List.length_range] at e2
    omega
  have h2 := for_idx (tm := tmName 3) (body := C.b_is_order_1) (vs := [3]) (ws := []) tn o (fun i => [some (dNet ns), some (.tup (o.map tn)), some (ln' (o.take i).flatten), none]) (fun i hi => by
    refine ⟨by simp, ?_⟩
    have l1 := fl (i + 1)
    have e : o.take (i + 1) = o.take i ++ [o[i]] := by rw [List.take_add_one, List.getElem?_eq_getElem hi]; rfl
    rw [e, List.flatten_append, List.flatten_singleton, List.length_append] at l1
    have z : szOk ((o.take i).flatten.length + o[i].length) = true := szOk_of (by omega)
    rw [e, List.flatten_append, List.flatten_singleton]
    generalize (o.take i).flatten = f at z ⊢
    generalize o[i] = b at z ⊢
    simp only [turnF, C.b_is_order_1]
    simp [z])
  rw [List.take_length] at h2
  have es : sortD [ln' o.flatten] = .ok (.lst (((List.range ns.length).map fun k : Nat => (k : Int)).map D.int)) := by
    have : ln' o.flatten = .lst ((o.flatten.map fun k : Nat => (k : Int)).map D.int) := by rw [List.map_map]; rfl
    rw [this, d_sortN, ← sortI_of (h.perm.symm.map _) range_int]
  have eq : eqD (.lst (((List.range ns.length).map fun k : Nat => (k : Int)).map D.int)) (.lst (rgD 0 ns.length)) = .ok (.bl true) := by
    have : rgD 0 ns.length = ((List.range ns.length).map fun k : Nat => (k : Int)).map D.int := by unfold rgD; rw [List.map_map]; simp
    rw [this]
    exact eqD_refl (n := 1) fit_lstI
  have rg : rgB 0 ns.length = true := by
    unfold rgB
    rw [rngOk_of (by omega) (by omega), rngOk_of (by omega) (by omega)]
    simp; omega
  have zo : szOk o.length = true := szOk_of (by omega)
  have h2 : forL (tmName 3) C.b_is_order_1 [3] [] (o.map tn) [some (dNet ns), some (.tup (o.map tn)), some (.lst []), none] = _ := h2
  generalize ln' o.flatten = F at h2 es
  simp only [C.g_is_order, C.m_is_order]
  generalize D.lst (((List.range ns.length).map fun k : Nat => (k : Int)).map D.int) = S at es eq
  simp [e_fnP, noDit, Y.isTup, zo, h1, a1, h2, es, eq, rg, -d_all]
end H

set_option Elab.async false
set_option linter.all false
set_option maxRecDepth 100000
namespace H
open PySem PySem.Spec PyProof.Rows L2 Y
theorem done_by_ok {ns : List RuleT} {st : List Int} {o : List (List Nat)} (g : GoodNet ns) (hB : TabBits ns) (hs : IsSt ns.length st) (h : OrdOk ns.length o) : C.g_done_by [dNet ns, .tup (o.map tn), ti st] = .ok (.vl (ti (doneI ns st o))) := by
  have hz := g.sz
  have l := look_at_stand_ok (n := ns.map dRule) (xs := st) (by rw [hs.len]; omega) hs.bit (by rw [hs.len, List.length_map])
  have n : C.g_need_order [dNet ns, .tup (o.map tn)] = .ok (.fr .non) := by
    simp only [C.g_need_order, C.m_need_order]
    simp [e_fnP, is_order_ok hz h]
  have a := all_done_ok g hB hs (o := o) (fun b hb => by
    have s := h.sub b hb
    have := s.length_le
    rw [List.length_range] at this
    exact ⟨by omega, fun k hk => List.mem_range.mp (s.subset hk)⟩) (by have := h.len; omega)
  simp only [C.g_done_by, C.m_done_by]
  simp [e_fnP, n, l, a]
/-! ### stays -/
def stayB (ns : List RuleT) (st : List Int) : Bool := (wrongI ns st).isEmpty
theorem stay_iff {ns : List RuleT} {st : List Int} : stayB ns st = true ↔ ∀ k, k < ns.length → oughtI ns st k = st.getD k 0 := by
  unfold stayB wrongI
  rw [List.isEmpty_iff, List.filter_eq_nil_iff]
  constructor
  · intro h k hk
    simpa using h k (List.mem_range.mpr hk)
  · intro h k hk
    simpa using h k (List.mem_range.mp hk)
theorem getD_some {st : List Int} {k : Nat} (h : k < st.length) : st[k]? = some (st.getD k 0) := by
  rw [List.getD_eq_getElem?_getD, List.getElem?_eq_getElem h]; rfl
theorem done_stay {ns : List RuleT} {st : List Int} {o : List (List Nat)} (hl : st.length = ns.length) (h : OrdOk ns.length o) : doneI ns st o = st ↔ stayB ns st = true := by
  have sub : ∀ b ∈ o, ∀ k ∈ b, k < st.length := fun b hb k hk => by rw [hl]; exact List.mem_range.mp ((h.sub b hb).subset hk)
  rw [done_same h.apart sub, stay_iff]
  constructor
  · intro h2 k hk
    have : k ∈ o.flatten := h.perm.mem_iff.mpr (List.mem_range.mpr hk)
    obtain ⟨b, hb, hkb⟩ := List.mem_flatten.mp this
    have := h2 b hb k hkb
    rw [getD_some (by omega)] at this
    exact Option.some.inj this
  · intro h2 b hb k hk
    have hk2 := sub b hb k hk
    rw [getD_some hk2, h2 k (by omega)]
theorem all_stay {ns : List RuleT} {st : List Int} (hl : st.length = ns.length) : allI ns st = st ↔ stayB ns st = true := by
  rw [stay_iff]
  unfold allI
  constructor
  · intro h k hk
    have := congrArg (·[k]?) h
    simp only [List.getElem?_map, List.getElem?_range hk, Option.map_some] at this
    rw [getD_some (by omega)] at this
    exact Option.some.inj this
  · intro h
    refine List.ext_getElem? fun k => ?_
    by_cases hk : k < ns.length
    · rw [List.getElem?_map, List.getElem?_range hk, getD_some (by omega), Option.map_some, h k hk]
    · rw [List.getElem?_eq_none (by simp; omega), List.getElem?_eq_none (by omega)]
theorem with_same {st : List Int} {k : Nat} {b : Int} (hk : k < st.length) : withI st k b = st ↔ b = st.getD k 0 := by
  have e : st = st.take k ++ st.getD k 0 :: st.drop (k + 1) := by
    have := List.take_append_drop k st
    rw [List.drop_eq_getElem_cons hk] at this
    rw [List.getD_eq_getElem?_getD, List.getElem?_eq_getElem hk]
    exact this.symm
  unfold withI
  constructor
  · intro h
    rw [e] at h
    have e2 := List.append_cancel_left (show st.take k ++ (b :: st.drop (k + 1)) = st.take k ++ (st.getD k 0 :: st.drop (k + 1)) from by
      have h3 := h
      rw [← e] at h3
      exact h3.trans e)
    exact (List.cons.inj e2).1
  · intro h
    rw [h]
    exact e.symm
/-! ### data's equality -/
theorem eq_ti {a b : List Int} : eqD (ti a) (ti b) = .ok (.bl (decide (a = b))) := by
  rw [eqD_of (n := 1) fit_tupI fit_tupI, eqP_tup, eqPs_ints]
theorem in_lti {st : List Int} {xs : List (List Int)} : inD (ti st) (lti xs) = .ok (.bl (decide (st ∈ xs))) := by
  have c1 : dOk (ti st) = true := dOk_fit (n := 1) fit_tupI
  have c2 : dOk (lti xs) = true := dOk_fit (n := 2) fit_lti
  have e : ((xs.map ti).any fun z => eqP z (ti st)) = decide (st ∈ xs) := by
    rw [List.any_map, Bool.eq_iff_iff, List.any_eq_true, decide_eq_true_eq]
    constructor
    · rintro ⟨x, hx, h⟩
      have : eqP (ti x) (ti st) = true := h
      rw [eqP_tup, eqPs_ints, decide_eq_true_eq] at this
      rw [← this]; exact hx
    · intro h
      refine ⟨st, h, ?_⟩
      show eqP (ti st) (ti st) = true
      rw [eqP_tup, eqPs_ints, decide_eq_true_eq]
  show (match (if (dOk (ti st) && dOk (lti xs)) = true then some ((xs.map ti).any fun z => eqP z (ti st)) else none) with | some b => R.ok (D.bl b) | none => .stk) = _
  rw [c1, c2, e]
  rfl
@[simp] theorem neD_bl {a b : Bool} : neD (.bl a) (.bl b) = .ok (.bl (a != b)) := by
  rw [neD_of (n := 0) fit_bl fit_bl, eqP_bl]
  cases a <;> cases b <;> rfl
theorem mem_rests {ns : List RuleT} {st : List Int} (h : st ∈ stands ns.length) : decide (st ∈ restsI ns) = stayB ns st := by
  unfold restsI
  have e : (wrongI ns st).isEmpty = stayB ns st := rfl
  cases c : stayB ns st with
  | true => simp [List.mem_filter, h, e, c]
  | false => simp [List.mem_filter, e, c]
/-! ### the law's orders -/
def blocksI (ks : List Int) (m : Nat) : List (List Nat) := ((List.range m).map fun j => (List.range m).filter fun k => decide (ks.getD k 0 = (j : Nat))).filter fun b => !b.isEmpty
theorem blocks_ok {ks : List Int} {m : Nat} (hr : ∀ k, k < m → 0 ≤ ks.getD k 0 ∧ ks.getD k 0 < m) : OrdOk m (blocksI ks m) := by
  have mem : ∀ b ∈ blocksI ks m, ∃ j, j < m ∧ b = (List.range m).filter fun k => decide (ks.getD k 0 = (j : Nat)) := fun b hb => by
    obtain ⟨h1, _⟩ := List.mem_filter.mp hb
    obtain ⟨j, hj, rfl⟩ := List.mem_map.mp h1
    exact ⟨j, List.mem_range.mp hj, rfl⟩
  refine ⟨fun b hb => by simpa using (List.mem_filter.mp hb).2, fun b hb => ?_, ?_⟩
  · obtain ⟨j, _, rfl⟩ := mem b hb
    exact List.filter_sublist
  · refine (List.perm_ext_iff_of_nodup ?_ List.nodup_range).mpr fun k => ?_
    · refine List.pairwise_flatten.mpr ⟨fun b hb => ?_, ?_⟩
      · obtain ⟨j, _, rfl⟩ := mem b hb
        exact List.nodup_range.sublist List.filter_sublist
      · unfold blocksI
        refine List.Pairwise.filter _ ?_
        rw [List.pairwise_map]
        refine (List.pairwise_lt_range (n := m)).imp fun {i j} h x hx y hy e => ?_
        have h1 := (List.mem_filter.mp hx).2
        have h2 := (List.mem_filter.mp hy).2
        rw [decide_eq_true_eq] at h1 h2
        rw [e] at h1
        omega
    · rw [List.mem_flatten]
      constructor
      · rintro ⟨b, hb, hk⟩
        obtain ⟨j, _, rfl⟩ := mem b hb
        exact (List.mem_filter.mp hk).1
      · intro hk
        have := hr k (List.mem_range.mp hk)
        have hm : k ∈ (List.range m).filter fun k' => decide (ks.getD k' 0 = ((ks.getD k 0).toNat : Nat)) := List.mem_filter.mpr ⟨hk, by rw [decide_eq_true_eq]; omega⟩
        refine ⟨_, List.mem_filter.mpr ⟨List.mem_map.mpr ⟨(ks.getD k 0).toNat, List.mem_range.mpr (by omega), rfl⟩, ?_⟩, hm⟩
        cases q : (List.range m).filter fun k' => decide (ks.getD k' 0 = ((ks.getD k 0).toNat : Nat)) with
        | nil => rw [q] at hm; cases hm
        | cons a b => rfl
theorem OrdOk.turn {m : Nat} {o : List (List Nat)} (h : OrdOk m o) (w : Nat) : OrdOk m (o.drop w ++ o.take w) := by
  have p : (o.drop w ++ o.take w).Perm o := by
    have := List.perm_append_comm (l₁ := o.drop w) (l₂ := o.take w)
    rwa [List.take_append_drop] at this
  exact ⟨fun b hb => h.ne b (p.mem_iff.mp hb), fun b hb => h.sub b (p.mem_iff.mp hb), p.flatten.trans h.perm⟩
end H

set_option Elab.async false
set_option linter.all false
set_option maxRecDepth 100000
namespace H
open PySem PySem.Spec PyProof.Rows L2 Y
def blk (ks : List Int) (m j : Nat) : List Nat := (List.range m).filter fun k => decide (ks.getD k 0 = (j : Nat))
def blkTo (ks : List Int) (m j : Nat) : List (List Nat) := ((List.range j).map (blk ks m)).filter fun b => !b.isEmpty
theorem blkTo_succ {ks : List Int} {m j : Nat} : blkTo ks m (j + 1) = blkTo ks m j ++ (if (blk ks m j).isEmpty = true then [] else [blk ks m j]) := by
  unfold blkTo
  rw [List.range_succ, List.map_append, List.filter_append, List.map_singleton]
  congr 1
  cases h : (blk ks m j).isEmpty <;> simp [h]
theorem blkTo_len {ks : List Int} {m : Nat} : ∀ j, (blkTo ks m j).length ≤ j := fun j => by
  unfold blkTo
  refine Nat.le_trans (List.length_filter_le _ _) ?_
  simp
theorem ne_nil_tn {b : List Nat} : neD (tn b) (.tup []) = .ok (.bl (!b.isEmpty)) := by
  rw [neD_of (n := 1) fit_tn (by unfold Fit; intro d h; cases h), eqP_tup, eqPs_nil]
  simp
theorem law_order_ok {n : Int} {m : Nat} (h0 : 1 ≤ m) (hm : m ≤ 100) : ∃ (o : List (List Nat)) (n' : Int), C.g__law_order [.lst [.int n], .int m] = .ok (.fr (.tup (o.map tn)), [some (.lst [.int n']), none]) ∧ OrdOk m o := by
  obtain ⟨ks, n1, h1, hl, hk⟩ := comp_ex (tm := tmName 7) (t := cYes) (e := C.e__law_order_1) (vs := [7]) (ws := []) (fun j : Nat => D.int (j : Nat)) D.int (fun b : Int => [some (.lst [.int b]), some (.int m), none, none, none, none, none, none]) (fun x => 0 ≤ x ∧ x < m) (List.range m) n (fun b j hj => by
    refine ⟨b % m, b / m, ?_, ⟨Int.emod_nonneg _ (by omega), Int.emod_lt_of_pos _ (by omega)⟩, by simp⟩
    have tk := take_ok (n := b) (m := m) (by omega) (by omega)
    simp only [turnC, C.e__law_order_1]
    simp [tk])
  rw [List.length_range] at hl
  have kr : ∀ k, k < m → 0 ≤ ks.getD k 0 ∧ ks.getD k 0 < m := fun k h => by
    rw [List.getD_eq_getElem?_getD, List.getElem?_eq_getElem (by omega)]
    exact hk _ (List.getElem_mem _)
  have rm : rngOk m = true := rngOk_of (by omega) (by omega)
  have zm : szOk m = true := szOk_of (by omega)
  have inner : ∀ (j : Nat) (a b c : Option D), cCompL (tmName 7) C.t__law_order_2 C.e__law_order_2 [7] [] ((List.range m).map fun k : Nat => D.int (k : Nat)) [a, some (.int m), some (.lst (ks.map D.int)), b, some (.int j), c, none, none] = .ok ((blk ks m j).map fun k : Nat => D.int (k : Nat), [a, some (.int m), some (.lst (ks.map D.int)), b, some (.int j), c, none, none]) := fun j a b c =>
    comp_filter (fun k : Nat => D.int (k : Nat)) (fun k => decide (ks.getD k 0 = (j : Nat))) (fun k : Nat => D.int (k : Nat)) (List.range m) (fun k hk => by
      have hk := List.mem_range.mp hk
      have a := atI_mapI (xs := ks) (i := k) (by omega) (by omega)
      simp only [Int.toNat_natCast] at a
      simp only [turnC, C.t__law_order_2, C.e__law_order_2]
      simp [a, -List.getD_eq_getElem?_getD]
      split <;> rfl)
  have h2 : forL (tmName 4) C.b__law_order_1 [4, 5] [] ((List.range m).map fun j : Nat => D.int (j : Nat)) [some (.lst [.int n1]), some (.int m), some (.lst (ks.map D.int)), some (.lst []), none, none, none, none] = .ok (.nx, [some (.lst [.int n1]), some (.int m), some (.lst (ks.map D.int)), some (.lst ((blkTo ks m m).map tn)), none, none, none, none]) :=
    for_rng (fun j : Nat => D.int (j : Nat)) (fun j => [some (.lst [.int n1]), some (.int m), some (.lst (ks.map D.int)), some (.lst ((blkTo ks m j).map tn)), none, none, none, none]) (fun j hj => by
      refine ⟨by simp, ?_⟩
      have z : szOk ((blkTo ks m j).length + 1) = true := szOk_of (by have := blkTo_len (ks := ks) (m := m) j; omega)
      have ne := ne_nil_tn (b := blk ks m j)
      have inner := inner j
      simp only [turnF, C.b__law_order_1]
      rw [blkTo_succ]
      generalize blk ks m j = B at inner ne ⊢
      cases c : B.isEmpty <;> (rw [c] at ne; simp [rm, zm, inner, ne, z]))
  have ob := blocks_ok kr
  have eb : blocksI ks m = blkTo ks m m := rfl
  rw [eb] at ob
  generalize blkTo ks m m = o at h2 ob
  have ol := ob.len
  have o0 : 1 ≤ o.length := by
    cases o with
    | nil => have := ob.perm.length_eq; simp at this; omega
    | cons => simp
  have tk := take_ok (n := n1) (m := o.length) (by omega) (by omega)
  obtain ⟨w, hw⟩ : ∃ w : Nat, n1 % (o.length : Int) = w := ⟨(n1 % (o.length : Int)).toNat, by
    have := Int.emod_nonneg n1 (b := (o.length : Int)) (by omega)
    omega⟩
  have c1 := cut_from (ds := o.map tn) (k := w)
  have c2 := cut_to (ds := o.map tn) (k := w)
  rw [← List.map_drop] at c1
  rw [← List.map_take] at c2
  have wl : w < o.length := by
    have := Int.emod_lt_of_pos n1 (b := (o.length : Int)) (by omega)
    omega
  have z3 : szOk ((o.drop w).length + (o.take w).length) = true := szOk_of (by rw [List.length_drop, List.length_take]; omega)
  refine ⟨o.drop w ++ o.take w, n1 / o.length, ?_, ob.turn w⟩
  simp only [C.g__law_order, C.m__law_order]
  generalize ks.map D.int = K1 at h1 h2
  rw [List.map_append]
  have zA : szOk (((o.drop w).map tn).length + ((o.take w).map tn).length) = true := by rw [List.length_map, List.length_map]; exact z3
  generalize (o.drop w).map tn = A at c1 zA ⊢
  generalize (o.take w).map tn = B at c2 zA ⊢
  generalize C.b__law_order_1 = B1 at h2
  simp [e_fnD, rm, zm, h1, h2, tk, hw, c1, c2, zA, shAt]
end H

set_option Elab.async false
set_option linter.all false
set_option maxRecDepth 100000
set_option exponentiation.threshold 300
namespace H
open PySem PySem.Spec PyProof.Rows L2 Y
/-! ### texts as lists of signs -/
abbrev tx (l : List Nat) : Str := ⟨l.toArray⟩
abbrev dt (l : List Nat) : D := .str (tx l)
theorem tx_inj {a b : List Nat} : tx a = tx b ↔ a = b := by
  constructor
  · intro h
    have := congrArg (fun s : Str => s.cps.toList) h
    simpa using this
  · rintro rfl; rfl
theorem tx_len {a : List Nat} : (tx a).length = a.length := by
  show (a.toArray).size = _
  simp
theorem tx_add {a b : List Nat} : tx a ++ tx b = tx (a ++ b) := by
  show Str.append (tx a) (tx b) = _
  unfold Str.append
  simp
theorem add_dt {a b : List Nat} (h : a.length + b.length ≤ 16777216) : addD (dt a) (dt b) = .ok (dt (a ++ b)) := by
  rw [d_addS, tx_len, tx_len, if_pos (szOk_of h), tx_add]
theorem it_dt {a : List Nat} : itD (dt a) = .ok (a.map fun c => dt [c]) := by
  show R.ok ((tx a).cps.toList.map fun c => D.str ⟨#[c]⟩) = _
  rfl
theorem cut_lo {l : List Nat} {k : Nat} : cutS (tx l) none (some (k : Int)) = tx (l.take k) := by
  unfold cutS
  rw [HT.sIx_none, HT.sIx_nat, tx_len]
  simp
theorem cut_up {l : List Nat} {k : Nat} : cutS (tx l) (some (k : Int)) none = tx (l.drop k) := by
  unfold cutS
  rw [HT.sIx_none, HT.sIx_nat, tx_len]
  show tx _ = _
  rw [tx_inj]
  by_cases h : k ≤ l.length
  · rw [Nat.min_eq_left h, List.take_of_length_le (by simp)]
  · rw [Nat.min_eq_right (by omega), List.drop_of_length_le (by simp), List.drop_of_length_le (by omega)]
    simp
theorem slice_lo {l : List Nat} {k : Nat} (h : l.length ≤ 16777216) : sliceD (dt l) none (some (k : Int)) = .ok (dt (l.take k)) := by
  show (if szOk (tx l).length = true then R.ok (D.str (cutS (tx l) none (some (k : Int)))) else .stk) = _
  rw [tx_len, if_pos (szOk_of h), cut_lo]
theorem slice_up {l : List Nat} {k : Nat} (h : l.length ≤ 16777216) : sliceD (dt l) (some (k : Int)) none = .ok (dt (l.drop k)) := by
  show (if szOk (tx l).length = true then R.ok (D.str (cutS (tx l) (some (k : Int)) none)) else .stk) = _
  rw [tx_len, if_pos (szOk_of h), cut_up]
theorem ix_dt {l : List Nat} {k : Nat} (hk : k < l.length) (h : l.length ≤ 16777216) : ixD (dt l) (.int k) = .ok (dt [l.getD k 0]) := by
  have e : atI l (k : Int) = some (l.getD k 0) := by rw [atI_nat' hk, List.getD_eq_getElem?_getD, List.getElem?_eq_getElem hk]; rfl
  show (match atI (tx l).cps.toList (k : Int) with | some c => if szOk (tx l).length = true then R.ok (D.str ⟨#[c]⟩) else .stk | none => .stk) = _
  show (match atI l (k : Int) with | some c => if szOk (tx l).length = true then R.ok (D.str ⟨#[c]⟩) else .stk | none => .stk) = _
  rw [e, tx_len]
  simp [szOk_of h]
/-- signs that the machine bears -/
def SgOk (l : List Nat) : Prop := ∀ c ∈ l, c < 1114112
theorem fit_dt {n : Nat} {l : List Nat} (h : SgOk l) : Fit n (dt l) := by
  have : PyData.strOk (tx l) = true := by
    unfold PyData.strOk
    rw [← Array.all_toList, List.all_eq_true]
    intro c hc
    simpa using h c (by simpa using hc)
  cases n <;> exact this
theorem eqP_dt {a b : List Nat} : eqP (dt a) (dt b) = decide (a = b) := by
  rw [eqP_str, Bool.eq_iff_iff, beq_iff_eq, decide_eq_true_eq, tx_inj]
theorem eq_dt {a b : List Nat} (ha : SgOk a) (hb : SgOk b) : eqD (dt a) (dt b) = .ok (.bl (decide (a = b))) := by
  rw [eqD_of (n := 0) (fit_dt ha) (fit_dt hb), eqP_dt]
theorem ne_dt {a b : List Nat} (ha : SgOk a) (hb : SgOk b) : neD (dt a) (dt b) = .ok (.bl (!decide (a = b))) := by
  rw [neD_of (n := 0) (fit_dt ha) (fit_dt hb), eqP_dt]
abbrev ldt (xs : List (List Nat)) : D := .lst (xs.map dt)
theorem fit_ldt {n : Nat} {xs : List (List Nat)} (h : ∀ x ∈ xs, SgOk x) : Fit (n + 1) (ldt xs) := fun d hd => by
  obtain ⟨x, hx, rfl⟩ := List.mem_map.mp hd
  exact fit_dt (h x hx)
theorem in_ldt {a : List Nat} {xs : List (List Nat)} (ha : SgOk a) (h : ∀ x ∈ xs, SgOk x) : inD (dt a) (ldt xs) = .ok (.bl (decide (a ∈ xs))) := by
  have c1 : dOk (dt a) = true := dOk_fit (n := 1) (fit_dt ha)
  have c2 : dOk (ldt xs) = true := dOk_fit (n := 1) (fit_ldt h)
  have e : ((xs.map dt).any fun z => eqP z (dt a)) = decide (a ∈ xs) := by
    rw [List.any_map, Bool.eq_iff_iff, List.any_eq_true, decide_eq_true_eq]
    constructor
    · rintro ⟨x, hx, h⟩
      have : eqP (dt x) (dt a) = true := h
      rw [eqP_dt, decide_eq_true_eq] at this
      rw [← this]; exact hx
    · intro h
      exact ⟨a, h, by show eqP (dt a) (dt a) = true; rw [eqP_dt]; simp⟩
  show (match (if (dOk (dt a) && dOk (ldt xs)) = true then some ((xs.map dt).any fun z => eqP z (dt a)) else none) with | some b => R.ok (D.bl b) | none => .stk) = _
  rw [c1, c2, e]
  rfl
theorem s_dash : Str.ofString "-" = tx [45] := by decide +kernel
theorem s_zero : Str.ofString "0" = tx [48] := by decide +kernel
theorem s_one : Str.ofString "1" = tx [49] := by decide +kernel
theorem s_none : Str.ofString "" = tx [] := by decide +kernel
theorem str_bit {b : Int} (h : 0 ≤ b ∧ b < 2) : strOfD [.int b] = .ok (dt [48 + b.toNat]) := by
  have : b = 0 ∨ b = 1 := by omega
  rcases this with rfl | rfl
  · show (if (0 : Int).natAbs.log2 < 1920 then R.ok (D.str (toString (0 : Int))) else .stk) = _
    rw [if_pos (by decide)]
    exact congrArg (fun s => R.ok (D.str s)) (by decide +kernel : Str.ofString (toString (0 : Int)) = tx [48])
  · show (if (1 : Int).natAbs.log2 < 1920 then R.ok (D.str (toString (1 : Int))) else .stk) = _
    rw [if_pos (by decide)]
    exact congrArg (fun s => R.ok (D.str s)) (by decide +kernel : Str.ofString (toString (1 : Int)) = tx [49])
end H

set_option Elab.async false
set_option linter.all false
set_option maxRecDepth 100000
set_option exponentiation.threshold 300
namespace H
open PySem PySem.Spec PyProof.Rows L2 Y
/-! ### the second family's cells -/
theorem take2_ok {n m : Int} (h0 : 0 < m) (h1 : m < 1073741824) : C.g__law_take_2 [.lst [.int n], .int m] = .ok (.vl (.int (n % m)), [some (.lst [.int (n / m)]), none]) := by
  have a : atI [D.int n] 0 = some (.int n) := rfl
  have b : ixN 1 0 = some 0 := rfl
  simp only [C.g__law_take_2, C.m__law_take_2]
  simp [e_fnD, smallPos_of h0 h1, h0, a, b, ixD]
def box2N (c : Int) (k : Nat) : Nat → Int × Int
  | 0 => (0, c % 2147483647)
  | j + 1 =>
    let m := ((box2N c k j).2 * 48271 + 7 * (j : Int) * j + 11 * k + 1) % 2147483647
    ((box2N c k j).1 * 2147483647 + m, m)
theorem box2_ok {ns : List Int} {k : Nat} (hk : k < 1000) : ∃ b : Int, C.g__law_box_2 [.arg ns, .int k] = .ok (.fr (.lst [.int b])) := by
  have h : forL (tmName 5) C.b__law_box_2_1 [5] [] ((List.range 24).map fun j : Nat => D.int (j : Nat)) [some (.arg ns), some (.int k), some (.int (cellI ns k)), some (.int 0), some (.int (cellI ns k % 2147483647)), none] = .ok (.nx, [some (.arg ns), some (.int k), some (.int (cellI ns k)), some (.int (box2N (cellI ns k) k 24).1), some (.int (box2N (cellI ns k) k 24).2), none]) :=
    for_rng (fun j : Nat => D.int (j : Nat)) (fun j => [some (.arg ns), some (.int k), some (.int (cellI ns k)), some (.int (box2N (cellI ns k) k j).1), some (.int (box2N (cellI ns k) k j).2), none]) (fun j hj => by
      refine ⟨by simp, ?_⟩
      have b1 : ∀ p : Int, mulOk p 2147483647 = true := fun p => mulOk_r (by decide)
      have b2 : ∀ p : Int, mulOk p 48271 = true := fun p => mulOk_r (by decide)
      have b3 : mulOk 7 j = true := mulOk_l (by decide)
      have b4 : mulOk 11 k = true := mulOk_l (by decide)
      have b5 : mulOk (7 * (j : Int)) j = true := mulOk_l (by omega)
      simp only [turnF, C.b__law_box_2_1]
      simp [b1, b2, b3, b4, b5, box2N])
  have hr : rngOk 24 = true := by decide
  have hz : szOk 24 = true := by decide
  have r24 : rng1D [.int 24] = .ok ((List.range 24).map fun j : Nat => D.int (j : Nat)) := by rw [d_rng1, if_pos hr]; rfl
  have z24 : szOk ((List.range 24).map fun j : Nat => D.int (j : Nat)).length = true := by simp [hz]
  by_cases e : cellI ns k % 2 = 0
  · refine ⟨cellI ns k / 2, ?_⟩
    rcases cell_ok (ns := ns) (k := k) with c | c <;> simp only [C.g__law_box_2, C.m__law_box_2] <;> simp [e_fnP, c, e, smallPos_of]
  · refine ⟨(box2N (cellI ns k) k 24).1, ?_⟩
    rcases cell_ok (ns := ns) (k := k) with c | c <;> simp only [C.g__law_box_2, C.m__law_box_2] <;> generalize C.b__law_box_2_1 = B at h ⊢ <;> generalize (List.range 24).map (fun j : Nat => D.int (j : Nat)) = L24 at h r24 z24 <;> simp [e_fnP, c, e, r24, z24, h, -d_rng1]
/-! ### readings -/
theorem mem_stands : ∀ {m : Nat} {st : List Int}, st ∈ stands m ↔ IsSt m st
  | 0, st => by
    constructor
    · exact stands_st
    · intro h
      have := h.len
      cases st with
      | nil => simp [stands]
      | cons => simp at this
  | m + 1, st => by
    constructor
    · exact stands_st
    · intro h
      cases st with
      | nil => have := h.len; simp at this
      | cons x st =>
        have hx := h.bit x (by simp)
        have hs : IsSt m st := ⟨by have := h.len; simpa using this, fun y hy => h.bit y (by simp [hy])⟩
        have : st ∈ stands m := mem_stands.mpr hs
        have e : x = 0 ∨ x = 1 := by omega
        rcases e with rfl | rfl <;> simp [stands, this]
theorem stands_lt : ∀ m, (stands m).Pairwise fun a b => ltL a b = true
  | 0 => by simp [stands]
  | m + 1 => by
    have ih := stands_lt m
    unfold stands
    rw [List.pairwise_append]
    refine ⟨?_, ?_, ?_⟩
    · rw [List.pairwise_map]; exact ih.imp fun h => by simpa [ltL] using h
    · rw [List.pairwise_map]; exact ih.imp fun h => by simpa [ltL] using h
    · intro a ha b hb
      obtain ⟨x, _, rfl⟩ := List.mem_map.mp ha
      obtain ⟨y, _, rfl⟩ := List.mem_map.mp hb
      simp [ltL]
theorem stands_nodup (m : Nat) : (stands m).Nodup := (stands_lt m).imp fun {a b} h e => by
  subst e
  rw [ltL_asym h] at h
  cases h
theorem stands_sorted {m : Nat} {xs : List (List Int)} (p : xs.Perm (stands m)) : sortL xs = stands m :=
  (sortL_of p.symm ((stands_lt m).imp fun h => ltL_asym h)).symm
/-- readings, the last bit grown -/
def rowsR : Nat → List (List Int)
  | 0 => [[]]
  | m + 1 => (rowsR m).map (· ++ [0]) ++ (rowsR m).map (· ++ [1])
theorem rowsR_st : ∀ {m : Nat} {st : List Int}, st ∈ rowsR m → IsSt m st
  | 0, st, h => by simp [rowsR] at h; subst h; exact ⟨rfl, by simp⟩
  | m + 1, st, h => by
    simp only [rowsR, List.mem_append, List.mem_map] at h
    rcases h with ⟨s, h, rfl⟩ | ⟨s, h, rfl⟩
    · have := rowsR_st h
      refine ⟨by simp [this.len], fun x hx => ?_⟩
      rcases List.mem_append.mp hx with hx | hx
      · exact this.bit x hx
      · simp at hx; omega
    · have := rowsR_st h
      refine ⟨by simp [this.len], fun x hx => ?_⟩
      rcases List.mem_append.mp hx with hx | hx
      · exact this.bit x hx
      · simp at hx; omega
theorem rowsR_len : ∀ m, (rowsR m).length = 2 ^ m
  | 0 => rfl
  | m + 1 => by simp [rowsR, rowsR_len m, Nat.pow_succ]; omega
theorem rowsR_nodup : ∀ m, (rowsR m).Nodup
  | 0 => by simp [rowsR]
  | m + 1 => by
    have ih := rowsR_nodup m
    unfold rowsR
    refine List.pairwise_append.mpr ⟨?_, ?_, ?_⟩
    · rw [List.pairwise_map]; exact ih.imp fun h e => h (List.append_cancel_right e)
    · rw [List.pairwise_map]; exact ih.imp fun h e => h (List.append_cancel_right e)
    · intro a ha b hb e
      obtain ⟨x, _, rfl⟩ := List.mem_map.mp ha
      obtain ⟨y, _, rfl⟩ := List.mem_map.mp hb
      have := List.append_inj' e rfl
      simp at this
theorem mem_rowsR : ∀ {m : Nat} {st : List Int}, IsSt m st → st ∈ rowsR m
  | 0, st, h => by
    have := h.len
    cases st with
    | nil => simp [rowsR]
    | cons => simp at this
  | m + 1, st, h => by
    rcases List.eq_nil_or_concat st with rfl | ⟨s, b, rfl⟩
    · have := h.len; simp at this
    · have hs : IsSt m s := ⟨by have := h.len; simpa using this, fun y hy => h.bit y (by simp [hy])⟩
      have hb := h.bit b (by simp)
      have := mem_rowsR hs
      have e : b = 0 ∨ b = 1 := by omega
      rcases e with rfl | rfl <;> simp [rowsR, this]
theorem rowsR_perm (m : Nat) : (rowsR m).Perm (stands m) :=
  (List.perm_ext_iff_of_nodup (rowsR_nodup m) (stands_nodup m)).mpr fun st => ⟨fun h => mem_stands.mpr (rowsR_st h), fun h => mem_rowsR (stands_st h)⟩
theorem readings_ok {m : Nat} (hm : m ≤ 20) : C.g__law_readings [.int m] = .ok (.fr (lti (stands m))) := by
  have hp : ∀ k, k ≤ 20 → 2 ^ k ≤ 1048576 := fun k hk => Nat.pow_le_pow_right (by omega) hk
  have h := for_rng (tm := tmName 2) (body := C.b__law_readings_1) (vs := [2]) (ws := []) (n := m) (fun k : Nat => D.int (k : Nat)) (fun k => [some (.int m), some (lti (rowsR k)), none, none]) (fun i hi => by
    have hz := hp i (by omega)
    have hz2 := hp (i + 1) (by omega)
    have c1 : cCompL (tmName 3) cYes C.e__law_readings_1 [3] [] ((rowsR i).map ti) [some (.int m), some (lti (rowsR i)), some (.int (i : Nat)), none] = .ok (((rowsR i).map fun s => ti (s ++ [0])), [some (.int m), some (lti (rowsR i)), some (.int (i : Nat)), none]) :=
      comp_map ti (fun s => ti (s ++ [0])) (rowsR i) (fun s hs => by
        have := (rowsR_st hs).len
        simp only [turnC, C.e__law_readings_1]
        simp [szOk_of (show s.length + 1 ≤ 16777216 by omega)])
    have c2 : cCompL (tmName 3) cYes C.e__law_readings_2 [3] [] ((rowsR i).map ti) [some (.int m), some (lti (rowsR i)), some (.int (i : Nat)), none] = .ok (((rowsR i).map fun s => ti (s ++ [1])), [some (.int m), some (lti (rowsR i)), some (.int (i : Nat)), none]) :=
      comp_map ti (fun s => ti (s ++ [1])) (rowsR i) (fun s hs => by
        have := (rowsR_st hs).len
        simp only [turnC, C.e__law_readings_2]
        simp [szOk_of (show s.length + 1 ≤ 16777216 by omega)])
    have hl := rowsR_len i
    have z1 : szOk (rowsR i).length = true := szOk_of (by omega)
    have z2 : szOk ((rowsR i).length + (rowsR i).length) = true := szOk_of (by rw [Nat.pow_succ] at hz2; omega)
    refine ⟨by simp, ?_⟩
    simp only [turnF, C.b__law_readings_1]
    simp [c1, c2, z1, z2, rowsR, Function.comp_def])
  have hr : rngOk m = true := rngOk_of (by omega) (by omega)
  have hz2 : szOk m = true := szOk_of (by omega)
  have h : forL (tmName 2) C.b__law_readings_1 [2] [] ((List.range m).map fun k : Nat => D.int (k : Nat)) [some (.int m), some (.lst [.tup []]), none, none] = _ := h
  have hs : sortD [lti (rowsR m)] = .ok (lti (stands m)) := by
    cases e : rowsR m with
    | nil => have := rowsR_len m; rw [e] at this; have := Nat.pow_pos (n := m) (show 0 < 2 by omega); simp at *; omega
    | cons x xs =>
      have ok : sortOk (x :: xs) = true := by
        unfold sortOk
        cases m with
        | zero => simp [rowsR] at e; obtain ⟨rfl, rfl⟩ := e; rfl
        | succ m =>
          rw [Bool.or_eq_true]
          right
          rw [← e, List.all_eq_true]
          intro y hy
          have := (rowsR_st hy).len
          cases y with
          | nil => simp at this
          | cons => rfl
      have := sortD_tups ok
      rw [← e] at this
      rw [← e, this, stands_sorted (rowsR_perm m)]
  generalize lti (rowsR m) = F at h hs
  simp only [C.g__law_readings, C.m__law_readings]
  simp [e_fnP, hr, hz2, h, hs]
end H

set_option Elab.async false
set_option linter.all false
set_option maxRecDepth 100000
set_option exponentiation.threshold 300
namespace H
open PySem PySem.Spec PyProof.Rows L2 Y
/-- for over range(n), by what holds at each turn -/
theorem for_inx {tm : GM} {body : SM} {vs ws : List Nat} (F : Nat → D) (I : Nat → Y.Env → Prop) (n : Nat) (ρ : Y.Env) (h0 : I 0 ρ)
    (hs : ∀ i ρ, i < n → I i ρ → ∃ ρ', turnF tm body vs (F i) ρ = .ok (.nx, ρ') ∧ I (i + 1) ρ' ∧ ∀ w ∈ ws, ρ'[w]? = ρ[w]?) : ∃ ρ', forL tm body vs ws ((List.range n).map F) ρ = .ok (.nx, ρ') ∧ I n ρ' := by
  have : ∀ (k i : Nat) (ρ : Y.Env), i + k = n → I i ρ → ∃ ρ', forL tm body vs ws ((List.range' i k).map F) ρ = .ok (.nx, ρ') ∧ I n ρ' := by
    intro k
    induction k with
    | zero => intro i ρ e h; exact ⟨ρ, rfl, by rw [← e]; exact h⟩
    | succ k ih =>
      intro i ρ e h
      obtain ⟨ρ1, e1, h1, w1⟩ := hs i ρ (by omega) h
      obtain ⟨ρ2, e2, h2⟩ := ih (i + 1) ρ1 (by omega) h1
      rw [List.range'_succ, List.map_cons]
      exact ⟨ρ2, for_cons e1 w1 e2, h2⟩
  rw [List.range_eq_range']
  exact this n 0 ρ (by omega) h0
theorem sub_range {es : List Nat} {m : Nat} (h : es.Pairwise (· < ·)) (hm : ∀ x ∈ es, x < m) : es.Sublist (List.range m) := by
  have e : es = (List.range m).filter fun k => decide (k ∈ es) := by
    have hf : ((List.range m).filter fun k => decide (k ∈ es)).Pairwise (· < ·) := List.Pairwise.filter _ List.pairwise_lt_range
    refine List.Perm.eq_of_pairwise (le := fun a b : Nat => a < b) (fun a b _ _ h1 h2 => by omega) h hf ?_
    refine (List.perm_ext_iff_of_nodup (h.imp fun h => by omega) (hf.imp fun h => by omega)).mpr fun k => ?_
    rw [List.mem_filter, List.mem_range, decide_eq_true_eq]
    exact ⟨fun h => ⟨hm k h, h⟩, fun h => h.2⟩
  rw [e]
  exact List.filter_sublist
/-- whole numbers, none twice, sorted: a part of a range -/
theorem sort_sub {E : List Nat} {m : Nat} (hn : E.Nodup) (hm : ∀ x ∈ E, x < m) : ∃ es : List Nat, sortI (E.map fun k : Nat => (k : Int)) = es.map (fun k : Nat => (k : Int)) ∧ es.Sublist (List.range m) ∧ es.length = E.length := by
  have p := sortI_perm (E.map fun k : Nat => (k : Int))
  have pw := sortI_pw (E.map fun k : Nat => (k : Int))
  generalize sortI (E.map fun k : Nat => (k : Int)) = S at p pw
  have nn : ∀ x ∈ S, 0 ≤ x ∧ x < m := fun x hx => by
    obtain ⟨k, hk, rfl⟩ := List.mem_map.mp (p.mem_iff.mp hx)
    have := hm k hk
    omega
  have e : S = (S.map Int.toNat).map fun k : Nat => (k : Int) := by
    rw [List.map_map]
    conv => lhs; rw [← List.map_id S]
    exact List.map_congr_left fun x hx => by
      have := nn x hx
      show x = ((x.toNat : Nat) : Int)
      omega
  refine ⟨S.map Int.toNat, e, sub_range ?_ fun x hx => ?_, ?_⟩
  · have nd : S.Nodup := p.nodup_iff.mpr (by
      refine List.pairwise_map.mpr (hn.imp fun {a b} h z => h ?_)
      exact_mod_cast z)
    rw [List.pairwise_map]
    have := List.Pairwise.and pw nd
    refine List.Pairwise.imp_of_mem (fun {a b} ha hb h => ?_) this
    have h1 := nn a ha
    have h2 := nn b hb
    have h3 := h.1
    have h4 : a ≠ b := h.2
    omega
  · obtain ⟨y, hy, rfl⟩ := List.mem_map.mp hx
    have := nn y hy
    omega
  · have := p.length_eq
    simpa using this
theorem erase_map {α β : Type} {f : α → β} : ∀ {xs : List α} {j : Nat}, (xs.map f).eraseIdx j = (xs.eraseIdx j).map f
  | [], _ => by simp
  | x :: xs, 0 => by simp
  | x :: xs, j + 1 => by simp [erase_map (xs := xs)]
theorem pick_perm {α : Type} : ∀ {xs : List α} {j : Nat} (h : j < xs.length), (xs[j] :: xs.eraseIdx j).Perm xs
  | x :: xs, 0, _ => by simp
  | x :: xs, j + 1, h => by
    have h : j < xs.length := by simpa using h
    have := pick_perm h
    rw [List.eraseIdx_cons_succ, List.getElem_cons_succ]
    exact (List.Perm.swap x xs[j] (xs.eraseIdx j)).trans (this.cons x)
theorem nls_rg {n : Int} : nls (rgD 0 n) = true := nls_map fun _ _ => by simp
theorem rule2_any {n : Int} {m : Nat} (hm : m ≤ 100) : ∃ (r : RuleT) (n' : Int), C.g__law_rule_2 [.lst [.int n], .int m] = .ok (.fr (dRule r), [some (.lst [.int n']), none]) ∧ RuleOk m r := by
  obtain ⟨M, hM⟩ : ∃ M : Nat, min (n % 5) (m : Int) = M := ⟨(min (n % 5) (m : Int)).toNat, by have := Int.emod_nonneg n (b := 5) (by omega); omega⟩
  have hM4 : M ≤ 4 ∧ M ≤ m := by have := Int.emod_lt_of_pos n (b := 5) (by omega); omega
  obtain ⟨ρ1, hl, n1, L, E, o, eρ, pm, el⟩ := for_inx (tm := tmName 4) (body := C.b__law_rule_2_1) (vs := []) (ws := []) (fun k : Nat => D.int (k : Nat))
    (fun i ρ => ∃ (b : Int) (L E : List Nat) (o : Option D), ρ = [some (.lst [.int b]), some (.int m), some (ln' L), some (ln' E), o, none, none, none, none, none, none, none] ∧ (E ++ L).Perm (List.range m) ∧ E.length = i) M
    [some (.lst [.int (n / 5)]), some (.int m), some (ln' (List.range m)), some (.lst []), none, none, none, none, none, none, none, none]
    ⟨n / 5, List.range m, [], none, rfl, by simp, rfl⟩ (fun i ρ hi ⟨b, L, E, o, eρ, pm, el⟩ => by
      subst eρ
      have ll : L.length = m - i := by have := pm.length_eq; rw [List.length_append, List.length_range] at this; omega
      have tk := take2_ok (n := b) (m := L.length) (by omega) (by omega)
      obtain ⟨j, hj⟩ : ∃ j : Nat, b % (L.length : Int) = j := ⟨(b % (L.length : Int)).toNat, by have := Int.emod_nonneg b (b := (L.length : Int)) (by omega); omega⟩
      have hjl : j < L.length := by have := Int.emod_lt_of_pos b (b := (L.length : Int)) (by omega); omega
      have ix := ixN_nat (n := L.length) (k := j) hjl
      have zl : szOk L.length = true := szOk_of (by omega)
      have ze : szOk (E.length + 1) = true := szOk_of (by omega)
      refine ⟨[some (.lst [.int (b / L.length)]), some (.int m), some (ln' (L.eraseIdx j)), some (ln' (E ++ [L[j]])), some (.int i), none, none, none, none, none, none, none], ?_, ⟨_, L.eraseIdx j, E ++ [L[j]], _, rfl, ?_, by simp [el]⟩, by simp⟩
      · simp only [turnF, C.b__law_rule_2_1]
        simp [tk, hj, popRes, zl, ze, ix, hjl, erase_map]
      · have := pick_perm hjl
        rw [List.append_assoc]
        exact (List.Perm.append_left E this).trans pm)
  subst eρ
  have nd : E.Nodup := by
    have : (E ++ L).Nodup := pm.nodup_iff.mpr List.nodup_range
    exact (List.pairwise_append.mp this).1
  have em : ∀ x ∈ E, x < m := fun x hx => List.mem_range.mp (pm.mem_iff.mp (by simp [hx]))
  obtain ⟨es, hs, sub, le⟩ := sort_sub nd em
  have hsd : sortD [ln' E] = .ok (.lst ((es.map fun k : Nat => (k : Int)).map D.int)) := by
    have : ln' E = .lst ((E.map fun k : Nat => (k : Int)).map D.int) := by rw [List.map_map]; rfl
    rw [this, d_sortN, hs]
  have rok : ∀ t : List Int, t.length = 2 ^ E.length → (∀ x ∈ t, 0 ≤ x ∧ x < 2) → RuleOk m (es.map (fun k : Nat => (k : Int)), t) := fun t h1 h2 => ⟨by simp [le]; omega, ⟨es, rfl, sub⟩, by simpa [le] using h1, h2⟩
  have rd := readings_ok (m := E.length) (by omega)
  have sl := stands_len E.length
  have pw : 2 ^ E.length ≤ 16 := Nat.pow_le_pow_right (n := 2) (by omega) (show E.length ≤ 4 by omega)
  have zE : szOk E.length = true := szOk_of (by omega)
  have rE : rngOk E.length = true := rngOk_of (by omega) (by omega)
  have zS : szOk (stands E.length).length = true := szOk_of (by omega)
  have rM : rngOk M = true := rngOk_of (by omega) (by omega)
  have zM : szOk M = true := szOk_of (by omega)
  have rg := rgB_of (n := m) (by omega)
  have rg0 : ln' (List.range m) = .lst (rgD 0 m) := by rw [rgD_nat]
  rw [rg0] at hl
  have t3 : ∀ b : Int, C.g__law_take_2 [.lst [.int b], .int 3] = .ok (.vl (.int (b % 3)), [some (.lst [.int (b / 3)]), none]) := fun b => take2_ok (by omega) (by omega)
  have t2 : ∀ b : Int, C.g__law_take_2 [.lst [.int b], .int 2] = .ok (.vl (.int (b % 2)), [some (.lst [.int (b / 2)]), none]) := fun b => take2_ok (by omega) (by omega)
  have t5 : C.g__law_take_2 [.lst [.int n], .int 5] = .ok (.vl (.int (n % 5)), [some (.lst [.int (n / 5)]), none]) := take2_ok (by omega) (by omega)
  have tl : ∀ b : Int, C.g__law_take_2 [.lst [.int b], .int ((E.length : Nat) + 2)] = .ok (.vl (.int (b % ((E.length : Nat) + 2))), [some (.lst [.int (b / ((E.length : Nat) + 2))]), none]) := fun b => take2_ok (by omega) (by omega)
  have hlen : lenD [ln' E] = .ok (.int E.length) := by simp
  have hmu : D.shallow (ln' E) = true := by simp [nls_all]
  have hix : itD (ln' E) = .ok (E.map fun k : Nat => D.int (k : Nat)) := rfl
  generalize hX : ln' E = XE at hl hsd hlen hmu hix
  generalize hSt : lti (stands E.length) = XS at rd
  by_cases w0 : n1 % 3 = 0
  · obtain ⟨ts, n2, e2, l2, p2⟩ := comp_ex (tm := tmName 11) (t := cYes) (e := C.e__law_rule_2_1) (vs := [11]) (ws := []) ti D.int (fun b : Int => [some (.lst [.int b]), some (.int m), some (ln' L), some XE, o, some XS, some (.int 0), none, none, none, none, none]) (fun x : Int => 0 ≤ x ∧ x < 2) (stands E.length) (n1 / 3) (fun b st hst => by
      refine ⟨b % 2, b / 2, ?_, by omega, by simp⟩
      simp only [turnC, C.e__law_rule_2_1]
      simp [t2])
    refine ⟨(es.map (fun k : Nat => (k : Int)), ts), n2, ?_, rok ts (by rw [l2, sl]) p2⟩
    subst hSt
    simp only [C.g__law_rule_2, C.m__law_rule_2]
    generalize C.b__law_rule_2_1 = B1 at hl ⊢
    simp [e_fnD, t5, hM, rM, zM, rg, hl, shAt, chkO_ws, nls_rg, hmu, hlen, rd, t3, w0, hsd, zS, e2]
  · -- by how many of its ears
    have tab : ∀ (ss : List Int) (x0 x2 x6 : Option D) (le : Int) (o : Option D), ss.length = E.length → ∃ (ts : List Int) (o' : Option D), cCompL (tmName 11) cYes C.e__law_rule_2_5 [11] [] ((stands E.length).map ti) [x0, some (.int m), x2, some XE, o, some XS, x6, some (.lst (ss.map D.int)), some (.int le), none, none, none] = .ok (ts.map D.int, [x0, some (.int m), x2, some XE, o', some XS, x6, some (.lst (ss.map D.int)), some (.int le), none, none, none]) ∧ ts.length = 2 ^ E.length ∧ ∀ x ∈ ts, 0 ≤ x ∧ x < 2 := fun ss x0 x2 x6 le o hl => by
      obtain ⟨ts, o', e, l, p⟩ := comp_ex (tm := tmName 11) (t := cYes) (e := C.e__law_rule_2_5) (vs := [11]) (ws := []) ti D.int (fun o : Option D => [x0, some (.int m), x2, some XE, o, some XS, x6, some (.lst (ss.map D.int)), some (.int le), none, none, none]) (fun x : Int => 0 ≤ x ∧ x < 2) (stands E.length) o (fun o st hst => by
        have hs := stands_st hst
        have inner : cCompL (tmName 4) C.t__law_rule_2_4 C.e__law_rule_2_4 [4] [] ((List.range E.length).map fun k : Nat => D.int (k : Nat)) [x0, some (.int m), x2, some XE, none, some XS, x6, some (.lst (ss.map D.int)), some (.int le), none, none, some (ti st)] = .ok (((List.range E.length).filter fun k => decide (st.getD k 0 = ss.getD k 0)).map fun k : Nat => D.int (k : Nat), [x0, some (.int m), x2, some XE, none, some XS, x6, some (.lst (ss.map D.int)), some (.int le), none, none, some (ti st)]) :=
          comp_filter (fun k : Nat => D.int (k : Nat)) (fun k => decide (st.getD k 0 = ss.getD k 0)) (fun k : Nat => D.int (k : Nat)) (List.range E.length) (fun k hk => by
            have hk := List.mem_range.mp hk
            have a1 := atI_mapI (xs := st) (i := k) (by omega) (by rw [hs.len]; omega)
            have a2 := atI_mapI (xs := ss) (i := k) (by omega) (by omega)
            simp only [Int.toNat_natCast] at a1 a2
            simp only [turnC, C.t__law_rule_2_4, C.e__law_rule_2_4]
            simp [a1, a2, ixD, -List.getD_eq_getElem?_getD]
            split <;> rfl)
        refine ⟨if le ≤ (((List.range E.length).filter fun k => decide (st.getD k 0 = ss.getD k 0)).length : Nat) then 1 else 0, none, ?_, by split <;> omega, by simp⟩
        generalize ((List.range E.length).filter fun k => decide (st.getD k 0 = ss.getD k 0)) = Fl at inner ⊢
        simp only [turnC, C.e__law_rule_2_5]
        simp [hlen, rE, zE, inner])
      exact ⟨ts, o', e, by rw [l, sl], p⟩
    have ones : ∀ (x0 x2 x4 x6 x7 : Option D), cCompL (tmName 10) cYes C.e__law_rule_2_2 [10] [3] (E.map fun k : Nat => D.int (k : Nat)) [x0, some (.int m), x2, some XE, x4, some XS, x6, x7, none, none, none, none] = .ok ((E.map fun _ => (1 : Int)).map D.int, [x0, some (.int m), x2, some XE, x4, some XS, x6, x7, none, none, none, none]) := fun x0 x2 x4 x6 x7 => by
      rw [List.map_map]
      exact comp_map (fun k : Nat => D.int (k : Nat)) (fun _ => D.int 1) E fun k hk => by
        simp only [turnC, C.e__law_rule_2_2]
        simp
    by_cases w1 : n1 % 3 = 1
    · obtain ⟨ss, n2, e2, l2, p2⟩ := comp_ex (tm := tmName 10) (t := cYes) (e := C.e__law_rule_2_3) (vs := [10]) (ws := [3]) (fun k : Nat => D.int (k : Nat)) D.int (fun b : Int => [some (.lst [.int b]), some (.int m), some (ln' L), some XE, o, some XS, some (.int 1), some (.lst ((E.map fun _ => (1 : Int)).map D.int)), none, none, none, none]) (fun x : Int => True) E (n1 / 3) (fun b k hk => by
        refine ⟨b % 2, b / 2, ?_, trivial, by simp⟩
        simp only [turnC, C.e__law_rule_2_3]
        simp [t2])
      obtain ⟨ts, o', e3, l3, p3⟩ := tab ss (some (.lst [.int (n2 / ((E.length : Nat) + 2))])) (some (ln' L)) (some (.int 1)) (n2 % ((E.length : Nat) + 2)) o l2
      refine ⟨(es.map (fun k : Nat => (k : Int)), ts), n2 / ((E.length : Nat) + 2), ?_, rok ts l3 p3⟩
      subst hSt
      have on := ones (some (.lst [.int (n1 / 3)])) (some (ln' L)) o (some (.int 1)) none
      simp only [C.g__law_rule_2, C.m__law_rule_2]
      generalize C.b__law_rule_2_1 = B1 at hl ⊢
      generalize (E.map fun _ => (1 : Int)).map D.int = ON at on e2
      simp [e_fnD, t5, hM, rM, zM, rg, hl, shAt, chkO_ws, nls_rg, hmu, hlen, rd, t3, w1, hsd, zS, hix, zE, on, e2, tl, e3]
      trace_state
    · obtain ⟨ts, o', e3, l3, p3⟩ := tab (E.map fun _ => (1 : Int)) (some (.lst [.int (n1 / 3 / ((E.length : Nat) + 2))])) (some (ln' L)) (some (.int (n1 % 3))) (n1 / 3 % ((E.length : Nat) + 2)) o (by simp)
      refine ⟨(es.map (fun k : Nat => (k : Int)), ts), n1 / 3 / ((E.length : Nat) + 2), ?_, rok ts l3 p3⟩
      subst hSt
      have on := ones (some (.lst [.int (n1 / 3)])) (some (ln' L)) o (some (.int (n1 % 3))) none
      simp only [C.g__law_rule_2, C.m__law_rule_2]
      generalize C.b__law_rule_2_1 = B1 at hl ⊢
      generalize (E.map fun _ => (1 : Int)).map D.int = ON at on e3
      simp [e_fnD, t5, hM, rM, zM, rg, hl, shAt, chkO_ws, nls_rg, hmu, hlen, rd, t3, w0, w1, hsd, zS, hix, zE, on, tl, e3]
      trace_state
theorem rule2_ok {n : Int} {m : Nat} (h1 : 1 ≤ m) (hm : m ≤ 100) : ∃ (r : RuleT) (n' : Int), C.g__law_rule_2 [.lst [.int n], .int m] = .ok (.fr (dRule r), [some (.lst [.int n']), none]) ∧ RuleOk m r := rule2_any hm
end H

set_option Elab.async false
set_option linter.all false
set_option maxRecDepth 100000
namespace H
open PySem PySem.Spec PyProof.Rows L2 Y
/-- for x in xs: if not p x: return rv -/
theorem for_all {α : Type} {tm : GM} {body : SM} {vs ws : List Nat} (F : α → D) (p : α → Bool) (rv : Hd) : ∀ (xs : List α) (ρ : Y.Env), (∀ x ∈ xs, p x = true → turnF tm body vs (F x) ρ = .ok (.nx, ρ)) → (∀ x ∈ xs, p x = false → ∃ ρ', turnF tm body vs (F x) ρ = .ok (.rt rv, ρ')) →
    ∃ ρ', forL tm body vs ws (xs.map F) ρ = if xs.all p = true then .ok (.nx, ρ) else .ok (.rt rv, ρ')
  | [], ρ, _, _ => ⟨ρ, rfl⟩
  | x :: xs, ρ, h1, h2 => by
    cases e : p x with
    | true =>
      obtain ⟨ρ', h⟩ := for_all F p rv xs ρ (fun y hy => h1 y (by simp [hy])) (fun y hy => h2 y (by simp [hy]))
      refine ⟨ρ', ?_⟩
      rw [List.map_cons, for_cons (h1 x (by simp) e) (fun _ _ => rfl) h, List.all_cons, e]
      rfl
    | false =>
      obtain ⟨ρ', h⟩ := h2 x (by simp) e
      refine ⟨ρ', ?_⟩
      rw [List.map_cons, for_rt h, List.all_cons, e]
      rfl
theorem place0 : ∀ {xs : List Int} {p : Int}, xs.foldl (fun p b => 2 * p + b) p = p * 2 ^ xs.length + placeI xs
  | [], p => by simp [placeI]
  | x :: xs, p => by
    have h1 := place0 (xs := xs) (p := 2 * p + x)
    have h2 := place0 (xs := xs) (p := 2 * 0 + x)
    unfold placeI
    rw [List.foldl_cons, List.foldl_cons, h1, h2, List.length_cons, Int.pow_succ]
    have : (2 * p + x) * 2 ^ xs.length = p * (2 ^ xs.length * 2) + x * 2 ^ xs.length := by
      rw [Int.add_mul, Int.mul_comm 2 p, Int.mul_assoc, Int.mul_comm 2]
    rw [this]
    simp only [Int.mul_zero, Int.zero_add]
    omega
theorem place_cons {x : Int} {xs : List Int} : placeI (x :: xs) = x * 2 ^ xs.length + placeI xs := by
  have := place0 (xs := xs) (p := 2 * 0 + x)
  unfold placeI at this ⊢
  rw [List.foldl_cons, this]
  simp
theorem place_stands : ∀ {m k : Nat} (h : k < (stands m).length), placeI ((stands m)[k]) = k
  | 0, k, h => by
    have : k = 0 := by simpa [stands] using h
    subst this
    rfl
  | m + 1, k, h => by
    have sl := stands_len m
    by_cases c : k < (stands m).length
    · have e : (stands (m + 1))[k] = 0 :: (stands m)[k] := by
        simp only [stands]
        rw [List.getElem_append_left (by simpa using c)]
        simp
      rw [e, place_cons, place_stands c]
      simp
    · have l1 : (stands (m + 1)).length = (stands m).length + (stands m).length := by simp [stands]
      have c2 : k - (stands m).length < (stands m).length := by omega
      have e : (stands (m + 1))[k] = 1 :: (stands m)[k - (stands m).length] := by
        simp only [stands]
        rw [List.getElem_append_right (by simpa using Nat.le_of_not_lt c)]
        simp
      rw [e, place_cons, place_stands c2, (stands_st (List.getElem_mem c2)).len, sl]
      have : k = 2 ^ m + (k - 2 ^ m) := by omega
      have p : ((2 ^ m : Nat) : Int) = 2 ^ m := by simp
      omega
theorem stands_at {m : Nat} {st : List Int} (h : IsSt m st) : (stands m)[(placeI st).toNat]? = some st := by
  obtain ⟨k, hk, e⟩ := List.getElem_of_mem (mem_stands.mpr h)
  have := place_stands hk
  rw [e] at this
  rw [this]
  show (stands m)[k]? = some st
  rw [List.getElem?_eq_getElem hk, e]
/-! ### rules, readings -/
def tolI (r : RuleT) (st : List Int) : Int := r.2.getD (placeI st).toNat 0
structure RuleLk (r : RuleT) : Prop where
  len : r.1.length ≤ 8
  tab : r.2.length = 2 ^ r.1.length
  bit : ∀ x ∈ r.2, 0 ≤ x ∧ x < 2
theorem RuleOk.lk {m : Nat} {r : RuleT} (h : RuleOk m r) : RuleLk r := ⟨Nat.le_trans h.len (by omega), h.tab, h.bit⟩
theorem told_at_ok {r : RuleT} {st : List Int} (h : RuleLk r) (hs : IsSt r.1.length st) : C.g_told_at [dRule r, ti st] = .ok (.vl (.int (tolI r st))) := by
  have p := place_of_tup (xs := st) (by rw [hs.len]; have := h.len; omega)
  have b := placeI_lt hs.bit
  rw [hs.len] at b
  have a := atI_mapI (xs := r.2) b.1 (by rw [h.tab]; exact_mod_cast b.2)
  simp only [C.g_told_at, C.m_told_at]
  simp [e_fnP, ixD, atI_of (i := 1) (j := 1), p, a, tolI, -List.getD_eq_getElem?_getD]
theorem tol_bit {r : RuleT} {st : List Int} (h : RuleLk r) : 0 ≤ tolI r st ∧ tolI r st < 2 := getD_bit h.bit _
/-! ### cases -/
def hasB (cs : List Nat) (st : List Int) : Bool := (cs.zip st).all fun p => decide (p.1 = 45) || decide (p.1 = 48 + p.2.toNat)
structure CaseOk (n : Nat) (cs : List Nat) : Prop where
  len : cs.length = n
  sg : ∀ c ∈ cs, c = 45 ∨ c = 48 ∨ c = 49
theorem CaseOk.sgok {n : Nat} {cs : List Nat} (h : CaseOk n cs) : SgOk cs := fun c hc => by rcases h.sg c hc with e | e | e <;> omega
theorem sg1 {c : Nat} (h : c < 1114112) : SgOk [c] := fun x hx => by simp at hx; omega
theorem has_signs_ok {n : Nat} {cs : List Nat} {st : List Int} (hn : n ≤ 20) (hc : CaseOk n cs) (hs : IsSt n st) : C.g_has_signs [dt cs, ti st] = .ok (.fr (.bl (hasB cs st))) := by
  obtain ⟨ρ', h⟩ := for_all (tm := tmTup [2, 3]) (body := C.b_has_signs_1) (vs := [2, 3]) (ws := []) (fun p : Nat × Int => D.tup [dt [p.1], .int p.2]) (fun p => decide (p.1 = 45) || decide (p.1 = 48 + p.2.toNat)) (.fr (.bl false)) (cs.zip st) [some (dt cs), some (ti st), none, none]
    (fun p hp hq => by
      have h1 := hc.sgok p.1 (List.of_mem_zip hp).1
      have h2 := hs.bit p.2 (List.of_mem_zip hp).2
      have e1 := ne_dt (a := [p.1]) (b := [45]) (sg1 h1) (sg1 (by omega))
      have e2 := str_bit h2
      have e3 := ne_dt (a := [p.1]) (b := [48 + p.2.toNat]) (sg1 h1) (sg1 (by omega))
      simp only [turnF, C.b_has_signs_1, s_dash]
      simp [e1, e2, e3]
      simp at hq
      rcases hq with hq | hq <;> simp [hq])
    (fun p hp hq => by
      have h1 := hc.sgok p.1 (List.of_mem_zip hp).1
      have h2 := hs.bit p.2 (List.of_mem_zip hp).2
      have e1 := ne_dt (a := [p.1]) (b := [45]) (sg1 h1) (sg1 (by omega))
      have e2 := str_bit h2
      have e3 := ne_dt (a := [p.1]) (b := [48 + p.2.toNat]) (sg1 h1) (sg1 (by omega))
      simp at hq
      refine ⟨[some (dt cs), some (ti st), some (dt [p.1]), some (.int p.2)], ?_⟩
      simp only [turnF, C.b_has_signs_1, s_dash]
      simp [e1, e2, e3, hq])
  have z : szOk (min cs.length st.length) = true := szOk_of (by rw [hc.len, hs.len]; omega)
  have pz : pairsD (cs.map fun c => dt [c]) (st.map D.int) = (cs.zip st).map fun p : Nat × Int => D.tup [dt [p.1], .int p.2] := pairsD_map
  have it := it_dt (a := cs)
  have pl := pairsD_len (cs.map fun c => dt [c]) (st.map D.int)
  simp only [C.g_has_signs, C.m_has_signs]
  generalize C.b_has_signs_1 = B at h ⊢
  cases e : hasB cs st with
  | true =>
    have h : forL _ _ _ _ _ _ = _ := h.trans (if_pos e)
    simp [e_fnP, it, itD, pz, z, h]
  | false =>
    have h : forL _ _ _ _ _ _ = _ := h.trans (if_neg (by unfold hasB at e; rw [e]; simp))
    simp [e_fnP, it, itD, pz, z, h]
def tellsB (r : RuleT) (cs : List Nat) (bit : Int) : Bool := (stands r.1.length).all fun st => !hasB cs st || decide (tolI r st = bit)
theorem tells_bit_ok {r : RuleT} {cs : List Nat} {bit : Int} (h : RuleLk r) (hc : CaseOk r.1.length cs) : C.g_tells_bit [dRule r, dt cs, .int bit] = .ok (.fr (.bl (tellsB r cs bit))) := by
  have hl := h.len
  obtain ⟨ρ', h1⟩ := for_all (tm := tmName 3) (body := C.b_tells_bit_1) (vs := [3]) (ws := []) ti (fun st => !hasB cs st || decide (tolI r st = bit)) (.fr (.bl false)) (stands r.1.length) [some (dRule r), some (dt cs), some (.int bit), none]
    (fun st hst hq => by
      have hs := stands_st hst
      have e1 := has_signs_ok (by omega) hc hs
      have e2 := told_at_ok h hs
      simp only [turnF, C.b_tells_bit_1]
      cases c : hasB cs st with
      | false => rw [c] at e1; simp [e1]
      | true =>
        rw [c] at e1 hq
        simp at hq
        simp [e1, e2, hq])
    (fun st hst hq => by
      have hs := stands_st hst
      have e1 := has_signs_ok (by omega) hc hs
      have e2 := told_at_ok h hs
      simp at hq
      rw [hq.1] at e1
      refine ⟨[some (dRule r), some (dt cs), some (.int bit), some (ti st)], ?_⟩
      simp only [turnF, C.b_tells_bit_1]
      simp [e1, e2, hq.2])
  have so := stands_of_ok (m := r.1.length) (by omega)
  have zs : szOk (stands r.1.length).length = true := szOk_of (by
    rw [stands_len]
    exact Nat.le_trans (Nat.pow_le_pow_right (by omega) hl) (by omega))
  have a1 : atI [ti r.1, ti r.2] 0 = some (ti r.1) := rfl
  simp only [C.g_tells_bit, C.m_tells_bit]
  generalize C.b_tells_bit_1 = B at h1 ⊢
  cases e : tellsB r cs bit with
  | true =>
    have h1 : forL _ _ _ _ _ _ = _ := h1.trans (if_pos e)
    simp [e_fnP, ixD, a1, so, itD, zs, h1]
  | false =>
    have h1 : forL _ _ _ _ _ _ = _ := h1.trans (if_neg (by unfold tellsB at e; rw [e]; simp))
    simp [e_fnP, ixD, a1, so, itD, zs, h1]
def wide (cs : List Nat) (k : Nat) : List Nat := cs.take k ++ 45 :: cs.drop (k + 1)
theorem CaseOk.wide {n : Nat} {cs : List Nat} (h : CaseOk n cs) {k : Nat} (hk : k < n) : CaseOk n (wide cs k) := by
  refine ⟨by have := h.len; simp [H.wide]; omega, fun c hc => ?_⟩
  rcases List.mem_append.mp hc with hc | hc
  · exact h.sg c (List.mem_of_mem_take hc)
  · rcases List.mem_cons.mp hc with rfl | hc
    · exact .inl rfl
    · exact h.sg c (List.mem_of_mem_drop hc)
def caseB (r : RuleT) (cs : List Nat) (bit : Int) : Bool := tellsB r cs bit && (List.range cs.length).all fun k => decide (cs.getD k 0 = 45) || !tellsB r (wide cs k) bit
theorem numD_map {α : Type} {f : α → D} {xs : List α} : numD (xs.map f) = ((List.range xs.length).zip xs).map fun p => D.tup [.int (p.1 : Nat), f p.2] := by
  unfold numD
  rw [List.length_map, pairsD_map]
theorem all_range {α : Type} {xs : List α} {d : α} {p : Nat → α → Bool} : ((List.range xs.length).zip xs).all (fun q => p q.1 q.2) = (List.range xs.length).all fun k => p k (xs.getD k d) := by
  rw [Bool.eq_iff_iff, List.all_eq_true, List.all_eq_true]
  constructor
  · intro h k hk
    have hk := List.mem_range.mp hk
    have : (k, xs[k]) ∈ (List.range xs.length).zip xs := by
      refine List.mem_iff_getElem?.mpr ⟨k, ?_⟩
      rw [List.getElem?_zip_eq_some]
      exact ⟨List.getElem?_range hk, List.getElem?_eq_getElem hk⟩
    have := h _ this
    rwa [List.getD_eq_getElem?_getD, List.getElem?_eq_getElem hk]
  · intro h q hq
    obtain ⟨i, hi⟩ := List.mem_iff_getElem?.mp hq
    rw [List.getElem?_zip_eq_some] at hi
    have il := (List.getElem?_eq_some_iff.mp hi.2).1
    have e1 := hi.1
    rw [List.getElem?_range il] at e1
    have e1 : i = q.1 := Option.some.inj e1
    have := h q.1 (List.mem_range.mpr (by omega))
    rw [List.getD_eq_getElem?_getD, ← e1, hi.2] at this
    rw [← e1]
    exact this
theorem zip_range {α : Type} {xs : List α} {q : Nat × α} (h : q ∈ (List.range xs.length).zip xs) : xs[q.1]? = some q.2 := by
  obtain ⟨i, hi⟩ := List.mem_iff_getElem?.mp h
  rw [List.getElem?_zip_eq_some] at hi
  have il := (List.getElem?_eq_some_iff.mp hi.2).1
  have e1 := hi.1
  rw [List.getElem?_range il] at e1
  have e1 : i = q.1 := Option.some.inj e1
  rw [← e1]
  exact hi.2
theorem is_case_ok {r : RuleT} {cs : List Nat} {bit : Int} (h : RuleLk r) (hc : CaseOk r.1.length cs) : C.g_is_case [dRule r, dt cs, .int bit] = .ok (.fr (.bl (caseB r cs bit))) := by
  have hl := h.len
  have cl := hc.len
  have t0 := tells_bit_ok (bit := bit) h hc
  have parts : ∀ (k : Nat), k < cs.length → ∀ x : D, sliceD (dt cs) none (some (k : Int)) = .ok (dt (cs.take k)) ∧ addD (dt (cs.take k)) (dt [45]) = .ok (dt (cs.take k ++ [45])) ∧ sliceD (dt cs) (some ((k : Int) + 1)) none = .ok (dt (cs.drop (k + 1))) ∧ addD (dt (cs.take k ++ [45])) (dt (cs.drop (k + 1))) = .ok (dt (wide cs k)) := fun k hk x => by
    have s2 := slice_up (l := cs) (k := k + 1) (by omega)
    rw [show ((k + 1 : Nat) : Int) = (k : Int) + 1 by omega] at s2
    refine ⟨slice_lo (by omega), add_dt (by simp; omega), s2, ?_⟩
    rw [add_dt (by simp; omega), List.append_assoc]
    rfl
  obtain ⟨ρ', h1⟩ := for_all (tm := tmTup [3, 4]) (body := C.b_is_case_1) (vs := [3, 4]) (ws := []) (fun p : Nat × Nat => D.tup [.int (p.1 : Nat), dt [p.2]]) (fun p => decide (p.2 = 45) || !tellsB r (wide cs p.1) bit) (.fr (.bl false)) ((List.range cs.length).zip cs) [some (dRule r), some (dt cs), some (.int bit), none, none]
    (fun p hp hq => by
      have hk := (List.getElem?_eq_some_iff.mp (zip_range hp)).1
      have e1 := ne_dt (a := [p.2]) (b := [45]) (sg1 (hc.sgok p.2 (List.of_mem_zip hp).2)) (sg1 (by omega))
      have t1 := tells_bit_ok (bit := bit) h (hc.wide (k := p.1) (by omega))
      obtain ⟨a1, a2, a3, a4⟩ := parts p.1 hk .non
      simp only [turnF, C.b_is_case_1, s_dash]
      simp at hq
      by_cases c : p.2 = 45
      · rw [c] at e1
        simp [e1, c]
      · have hq := hq.resolve_left c
        rw [hq] at t1
        simp [e1, c, a1, a2, a3, a4, t1, -d_addS])
    (fun p hp hq => by
      have hk := (List.getElem?_eq_some_iff.mp (zip_range hp)).1
      have e1 := ne_dt (a := [p.2]) (b := [45]) (sg1 (hc.sgok p.2 (List.of_mem_zip hp).2)) (sg1 (by omega))
      have t1 := tells_bit_ok (bit := bit) h (hc.wide (k := p.1) (by omega))
      obtain ⟨a1, a2, a3, a4⟩ := parts p.1 hk .non
      simp at hq
      rw [hq.2] at t1
      refine ⟨[some (dRule r), some (dt cs), some (.int bit), some (.int p.1), some (dt [p.2])], ?_⟩
      simp only [turnF, C.b_is_case_1, s_dash]
      simp [e1, hq.1, a1, a2, a3, a4, t1, -d_addS])
  rw [all_range (d := 0) (p := fun k c => decide (c = 45) || !tellsB r (wide cs k) bit)] at h1
  have z : szOk cs.length = true := szOk_of (by omega)
  have nm := numD_map (f := fun c : Nat => dt [c]) (xs := cs)
  have it := it_dt (a := cs)
  simp only [C.g_is_case, C.m_is_case]
  generalize C.b_is_case_1 = B at h1 ⊢
  unfold caseB
  generalize (List.range cs.length).all (fun k => decide (cs.getD k 0 = 45) || !tellsB r (wide cs k) bit) = A at h1 ⊢
  generalize tellsB r cs bit = T at t0 ⊢
  cases T with
  | false => simp [e_fnP, t0]
  | true => cases A <;> simp [e_fnP, t0, it, nm, z, h1]
end H

set_option Elab.async false
set_option linter.all false
set_option maxRecDepth 100000
namespace H
open PySem PySem.Spec PyProof.Rows L2 Y
/-- all texts of signs -/
def everyC : Nat → List (List Nat)
  | 0 => [[]]
  | n + 1 => (everyC n).map (· ++ [45]) ++ (everyC n).map (· ++ [48]) ++ (everyC n).map (· ++ [49])
theorem everyC_ok : ∀ {n : Nat} {cs : List Nat}, cs ∈ everyC n → CaseOk n cs
  | 0, cs, h => by simp [everyC] at h; subst h; exact ⟨rfl, by simp⟩
  | n + 1, cs, h => by
    have go : ∀ (s : List Nat) (c : Nat), s ∈ everyC n → (c = 45 ∨ c = 48 ∨ c = 49) → CaseOk (n + 1) (s ++ [c]) := fun s c hs hc => by
      have := everyC_ok hs
      refine ⟨by simp [this.len], fun x hx => ?_⟩
      rcases List.mem_append.mp hx with hx | hx
      · exact this.sg x hx
      · simp at hx; rw [hx]; exact hc
    simp only [everyC, List.mem_append, List.mem_map] at h
    rcases h with (⟨s, h, rfl⟩ | ⟨s, h, rfl⟩) | ⟨s, h, rfl⟩
    · exact go s 45 h (by simp)
    · exact go s 48 h (by simp)
    · exact go s 49 h (by simp)
theorem mem_everyC : ∀ {n : Nat} {cs : List Nat}, CaseOk n cs → cs ∈ everyC n
  | 0, cs, h => by
    have := h.len
    cases cs with
    | nil => simp [everyC]
    | cons => simp at this
  | n + 1, cs, h => by
    rcases List.eq_nil_or_concat cs with rfl | ⟨s, c, rfl⟩
    · have := h.len; simp at this
    · have hs : CaseOk n s := ⟨by have := h.len; simpa using this, fun y hy => h.sg y (by simp [hy])⟩
      have := mem_everyC hs
      rcases h.sg c (by simp) with rfl | rfl | rfl <;> simp [everyC, this]
theorem everyC_len : ∀ n, (everyC n).length = 3 ^ n
  | 0 => rfl
  | n + 1 => by simp [everyC, everyC_len n, Nat.pow_succ]; omega
theorem s_texts : D.lst [.str (Str.ofString "")] = ldt (everyC 0) := by rw [s_none]; rfl
/-- one ear more -/
theorem every_turn {n : Nat} (hn : n ≤ 7) {ρ : Y.Env} {e1 e2 e3 : EM} {i : Nat} (h1 : ∀ s ∈ everyC n, turnC (tmName i) cYes e1 [i] (dt s) ρ = .ok (some (dt (s ++ [45])), ρ)) (h2 : ∀ s ∈ everyC n, turnC (tmName i) cYes e2 [i] (dt s) ρ = .ok (some (dt (s ++ [48])), ρ)) (h3 : ∀ s ∈ everyC n, turnC (tmName i) cYes e3 [i] (dt s) ρ = .ok (some (dt (s ++ [49])), ρ)) :
    cCompL (tmName i) cYes e1 [i] [] ((everyC n).map dt) ρ = .ok ((everyC n).map (fun s => dt (s ++ [45])), ρ) ∧ cCompL (tmName i) cYes e2 [i] [] ((everyC n).map dt) ρ = .ok ((everyC n).map (fun s => dt (s ++ [48])), ρ) ∧ cCompL (tmName i) cYes e3 [i] [] ((everyC n).map dt) ρ = .ok ((everyC n).map (fun s => dt (s ++ [49])), ρ) :=
  ⟨comp_map dt _ _ h1, comp_map dt _ _ h2, comp_map dt _ _ h3⟩
theorem every_next {n : Nat} : (everyC n).map (fun s => dt (s ++ [45])) ++ ((everyC n).map (fun s => dt (s ++ [48])) ++ (everyC n).map (fun s => dt (s ++ [49]))) = (everyC (n + 1)).map dt := by
  simp [everyC, Function.comp_def]
theorem pow3 {n : Nat} (h : n ≤ 8) : 3 ^ n ≤ 6561 := Nat.pow_le_pow_right (n := 3) (by omega) h
theorem texts_loop {r : RuleT} {bit : Int} (h : RuleLk r) : forL (tmName 3) C.b_cases_of_1 [3] [] (r.1.map D.int) [some (dRule r), some (.int bit), some (ldt (everyC 0)), none, none, none] = .ok (.nx, [some (dRule r), some (.int bit), some (ldt (everyC r.1.length)), none, none, none]) :=
  for_idx D.int r.1 (fun i => [some (dRule r), some (.int bit), some (ldt (everyC i)), none, none, none]) (fun i hi => by
    have hl := h.len
    refine ⟨by simp, ?_⟩
    have len := fun s (hs : s ∈ everyC i) => (everyC_ok hs).len
    obtain ⟨c1, c2, c3⟩ := every_turn (n := i) (by omega) (i := 5) (e1 := C.e_cases_of_1) (e2 := C.e_cases_of_2) (e3 := C.e_cases_of_3) (ρ := [some (dRule r), some (.int bit), some (ldt (everyC i)), some (.int r.1[i]), none, none])
      (fun s hs => by
        have a := add_dt (a := s) (b := [45]) (by have := len s hs; simp; omega)
        simp only [turnC, C.e_cases_of_1, s_dash]
        simp [a, -d_addS])
      (fun s hs => by
        have a := add_dt (a := s) (b := [48]) (by have := len s hs; simp; omega)
        simp only [turnC, C.e_cases_of_2, s_zero]
        simp [a, -d_addS])
      (fun s hs => by
        have a := add_dt (a := s) (b := [49]) (by have := len s hs; simp; omega)
        simp only [turnC, C.e_cases_of_3, s_one]
        simp [a, -d_addS])
    have el := everyC_len i
    have p := pow3 (n := i) (by omega)
    have z1 : szOk (everyC i).length = true := szOk_of (by omega)
    have z2 : szOk ((everyC i).length + (everyC i).length) = true := szOk_of (by omega)
    have z3 : szOk ((everyC i).length + (everyC i).length + (everyC i).length) = true := szOk_of (by omega)
    have en := every_next (n := i)
    simp only [turnF, C.b_cases_of_1]
    simp [itD, c1, c2, c3, z1, z2, z3, en])
def casesI (r : RuleT) (bit : Int) : List (List Nat) := (everyC r.1.length).filter fun cs => caseB r cs bit
def sortC (xs : List (List Nat)) : D := .lst ((sortS (xs.map tx)).map D.str)
theorem sort_ldt {xs : List (List Nat)} : sortD [ldt xs] = .ok (sortC xs) := by
  have : ldt xs = .lst ((xs.map tx).map D.str) := by rw [List.map_map]; rfl
  rw [this, d_sortSt]
  rfl
theorem cases_of_ok {r : RuleT} {bit : Int} (h : RuleLk r) : C.g_cases_of [dRule r, .int bit] = .ok (.fr (sortC (casesI r bit))) := by
  have hl := h.len
  have h1 := texts_loop (bit := bit) h
  have h2 : cCompL (tmName 4) C.t_cases_of_4 C.e_cases_of_4 [4] [] ((everyC r.1.length).map dt) [some (dRule r), some (.int bit), some (ldt (everyC r.1.length)), none, none, none] = .ok ((casesI r bit).map dt, [some (dRule r), some (.int bit), some (ldt (everyC r.1.length)), none, none, none]) :=
    comp_filter dt (fun cs => caseB r cs bit) dt (everyC r.1.length) (fun cs hcs => by
      have t := is_case_ok (bit := bit) h (everyC_ok hcs)
      simp only [turnC, C.t_cases_of_4, C.e_cases_of_4]
      simp [t]
      split <;> rfl)
  have el := everyC_len r.1.length
  have p := pow3 hl
  have z1 : szOk (everyC r.1.length).length = true := szOk_of (by omega)
  have z2 : szOk r.1.length = true := szOk_of (by omega)
  have a1 : atI [ti r.1, ti r.2] 0 = some (ti r.1) := rfl
  have so := sort_ldt (xs := casesI r bit)
  simp only [C.g_cases_of, C.m_cases_of]
  generalize C.b_cases_of_1 = B at h1 ⊢
  rw [← s_texts] at h1
  simp [e_fnP, ixD, a1, itD, z1, z2, h1, h2, so]
/-! ### the law's look -/
theorem law_has_ok {n : Nat} {cs : List Nat} {st : List Int} (hn : n ≤ 20) (hc : CaseOk n cs) (hs : IsSt n st) : C.g__law_has [dt cs, ti st] = .ok (.fr (.bl (hasB cs st))) := by
  have h : cCompL (tmTup [2, 3]) cYes C.e__law_has_1 [2, 3] [] ((cs.zip st).map fun p : Nat × Int => D.tup [dt [p.1], .int p.2]) [some (dt cs), some (ti st), none, none] = .ok (((cs.zip st).map fun p => decide (p.1 = 45) || decide (p.1 = 48 + p.2.toNat)).map D.bl, [some (dt cs), some (ti st), none, none]) := by
    rw [List.map_map]
    exact comp_map (fun p : Nat × Int => D.tup [dt [p.1], .int p.2]) (fun p => D.bl (decide (p.1 = 45) || decide (p.1 = 48 + p.2.toNat))) (cs.zip st) fun p hp => by
      have h1 := hc.sgok p.1 (List.of_mem_zip hp).1
      have h2 := hs.bit p.2 (List.of_mem_zip hp).2
      have e2 := str_bit h2
      have e3 : inD (dt [p.1]) (.lst [dt [45], dt [48 + p.2.toNat]]) = .ok (.bl (decide ([p.1] ∈ [[45], [48 + p.2.toNat]]))) := in_ldt (a := [p.1]) (xs := [[45], [48 + p.2.toNat]]) (sg1 h1) (fun x hx => by simp at hx; rcases hx with rfl | rfl <;> exact sg1 (by omega))
      rw [show decide ([p.1] ∈ [[45], [48 + p.2.toNat]]) = (decide (p.1 = 45) || decide (p.1 = 48 + p.2.toNat)) by simp] at e3
      simp only [turnC, C.e__law_has_1, s_dash]
      simp [e2, e3]
  have z : szOk (min cs.length st.length) = true := szOk_of (by rw [hc.len, hs.len]; omega)
  have pz : pairsD (cs.map fun c => dt [c]) (st.map D.int) = (cs.zip st).map fun p : Nat × Int => D.tup [dt [p.1], .int p.2] := pairsD_map
  have it := it_dt (a := cs)
  have a1 : allD [.lst (((cs.zip st).map fun p => decide (p.1 = 45) || decide (p.1 = 48 + p.2.toNat)).map D.bl)] = .ok (.bl (hasB cs st)) := by
    rw [d_all, List.all_map]; rfl
  generalize (((cs.zip st).map fun p => decide (p.1 = 45) || decide (p.1 = 48 + p.2.toNat)).map D.bl) = L at h a1
  simp only [C.g__law_has, C.m__law_has]
  simp [e_fnP, it, itD, pz, z, h, a1, -d_all]
def hitsI (r : RuleT) (cs : List Nat) : List Int := ((List.range (2 ^ r.1.length)).filter fun k => hasB cs ((stands r.1.length).getD k [])).map fun k => r.2.getD k 0
theorem law_hits_ok {r : RuleT} {cs : List Nat} (h : RuleLk r) (hc : CaseOk r.1.length cs) : C.g__law_hits [dRule r, dt cs] = .ok (.fr (.lst ((hitsI r cs).map D.int))) := by
  have hl := h.len
  have sl := stands_len r.1.length
  have pw : 2 ^ r.1.length ≤ 256 := Nat.pow_le_pow_right (n := 2) (by omega) hl
  have h1 : cCompL (tmName 3) C.t__law_hits_1 C.e__law_hits_1 [3] [] ((List.range (2 ^ r.1.length)).map fun k : Nat => D.int (k : Nat)) [some (dRule r), some (dt cs), some (lti (stands r.1.length)), none] = .ok ((hitsI r cs).map D.int, [some (dRule r), some (dt cs), some (lti (stands r.1.length)), none]) := by
    unfold hitsI
    rw [List.map_map]
    exact comp_filter (fun k : Nat => D.int (k : Nat)) (fun k => hasB cs ((stands r.1.length).getD k [])) (fun k => D.int (r.2.getD k 0)) (List.range (2 ^ r.1.length)) (fun k hk => by
      have hk := List.mem_range.mp hk
      have e : (stands r.1.length).getD k [] = (stands r.1.length)[k]'(by omega) := by rw [List.getD_eq_getElem?_getD, List.getElem?_eq_getElem (by omega)]; rfl
      have hs : IsSt r.1.length ((stands r.1.length).getD k []) := by rw [e]; exact stands_st (List.getElem_mem _)
      have t := law_has_ok (by omega) hc hs
      have a1 : atI ((stands r.1.length).map ti) (k : Int) = some (ti ((stands r.1.length).getD k [])) := by rw [atI_map, atI_nat' (by omega), e]; rfl
      have a2 := atI_mapI (xs := r.2) (i := k) (by omega) (by have := h.tab; omega)
      simp only [Int.toNat_natCast] at a2
      have a3 : atI [ti r.1, ti r.2] 1 = some (ti r.2) := rfl
      simp only [turnC, C.t__law_hits_1, C.e__law_hits_1]
      simp [ixD, a1, a2, a3, t, -List.getD_eq_getElem?_getD]
      split <;> rfl)
  have rd := readings_ok (m := r.1.length) (by omega)
  have z : szOk (2 ^ r.1.length) = true := szOk_of (by omega)
  have rr : rngOk ((2 ^ r.1.length : Nat) : Int) = true := rngOk_of (by omega) (by omega)
  have a1 : atI [ti r.1, ti r.2] 0 = some (ti r.1) := rfl
  have ln : lenD [lti (stands r.1.length)] = .ok (.int (2 ^ r.1.length : Nat)) := by simp [sl]
  generalize lti (stands r.1.length) = S at h1 rd ln
  generalize 2 ^ r.1.length = T at *
  simp only [C.g__law_hits, C.m__law_hits]
  simp [e_fnP, ixD, a1, rd, ln, z, rr, h1]
theorem hits_tells {r : RuleT} {cs : List Nat} {bit : Int} (h : RuleLk r) (hb : 0 ≤ bit ∧ bit < 2) : decide (1 - bit ∈ hitsI r cs) = !tellsB r cs bit := by
  have sl := stands_len r.1.length
  rw [Bool.eq_iff_iff, decide_eq_true_eq, Bool.not_eq_true', ← Bool.not_eq_true]
  unfold hitsI tellsB
  rw [List.all_eq_true, List.mem_map]
  constructor
  · rintro ⟨k, hk, e⟩ z
    obtain ⟨h1, h2⟩ := List.mem_filter.mp hk
    have h1 := List.mem_range.mp h1
    have e2 : (stands r.1.length).getD k [] = (stands r.1.length)[k]'(by omega) := by rw [List.getD_eq_getElem?_getD, List.getElem?_eq_getElem (by omega)]; rfl
    rw [e2] at h2
    have := z _ (List.getElem_mem (by omega : k < (stands r.1.length).length))
    rw [h2] at this
    simp at this
    unfold tolI at this
    rw [place_stands] at this
    simp only [Int.toNat_natCast] at this
    rw [List.getD_eq_getElem?_getD] at e
    rw [List.getD_eq_getElem?_getD] at this
    omega
  · intro z
    refine Classical.byContradiction fun no => z fun st hst => ?_
    cases c : hasB cs st with
    | false => rfl
    | true =>
      have hs := stands_st hst
      have b := placeI_lt hs.bit
      rw [hs.len] at b
      have pl : (placeI st).toNat < 2 ^ r.1.length := by
        have : ((2 ^ r.1.length : Nat) : Int) = 2 ^ r.1.length := by simp
        omega
      have tb := tol_bit (st := st) h
      have : ¬ r.2.getD (placeI st).toNat 0 = 1 - bit := fun e => no ⟨_, List.mem_filter.mpr ⟨List.mem_range.mpr pl, by rw [List.getD_eq_getElem?_getD, stands_at hs]; exact c⟩, e⟩
      have this : ¬ tolI r st = 1 - bit := this
      have : tolI r st = bit := by omega
      simp [this]
end H

set_option Elab.async false
set_option linter.all false
set_option maxRecDepth 100000
namespace H
open PySem PySem.Spec PyProof.Rows L2 Y
/-! ### things of any kind -/
def Nd : Nat → D → Prop
  | 0, d => noDit d = true
  | n + 1, d => noDit d = true ∧ ∀ xs, d = .tup xs → xs.length ≤ 1000000 ∧ ∀ x ∈ xs, Nd n x
theorem Nd.no : ∀ {n : Nat} {d : D}, Nd n d → noDit d = true
  | 0, _, h => h
  | _ + 1, _, h => h.1
theorem Nd.down : ∀ {n : Nat} {d : D}, Nd (n + 1) d → Nd n d
  | 0, _, h => h.1
  | n + 1, _, h => ⟨h.1, fun xs e => ⟨(h.2 xs e).1, fun x hx => Nd.down ((h.2 xs e).2 x hx)⟩⟩
theorem nd_flat {n : Nat} {d : D} (h : noDit d = true) (h2 : ∀ xs, d ≠ .tup xs) : Nd n d := by
  cases n with
  | zero => exact h
  | succ n => exact ⟨h, fun xs e => absurd e (h2 xs)⟩
@[simp] theorem nd_int {n : Nat} {i : Int} : Nd n (.int i) := nd_flat rfl (by simp)
@[simp] theorem nd_bl {n : Nat} {b : Bool} : Nd n (.bl b) := nd_flat rfl (by simp)
@[simp] theorem nd_non {n : Nat} : Nd n .non := nd_flat rfl (by simp)
@[simp] theorem nd_str {n : Nat} {x : Str} : Nd n (.str x) := nd_flat rfl (by simp)
@[simp] theorem nd_lst {n : Nat} {x : List D} : Nd n (.lst x) := nd_flat rfl (by simp)
@[simp] theorem nd_dik {n : Nat} {k : List Key} {x : List D} : Nd n (.dik k x) := nd_flat rfl (by simp)
theorem nd_tup {n : Nat} {xs : List D} (hl : xs.length ≤ 1000000) (h : ∀ x ∈ xs, Nd n x) : Nd (n + 1) (.tup xs) := ⟨rfl, fun ys e => by cases e; exact ⟨hl, h⟩⟩
theorem Nd.tup {n : Nat} {xs : List D} (h : Nd (n + 1) (.tup xs)) : xs.length ≤ 1000000 ∧ ∀ x ∈ xs, Nd n x := h.2 xs rfl
theorem nd_ti {n : Nat} {xs : List Int} (hl : xs.length ≤ 1000000) : Nd n (ti xs) := by
  cases n with
  | zero => rfl
  | succ n =>
    refine nd_tup (by simpa using hl) fun x hx => ?_
    obtain ⟨y, _, rfl⟩ := List.mem_map.mp hx
    exact nd_int
theorem atI_any {L : List D} {i : Int} {p : D → Prop} (h0 : 0 ≤ i) (h : i < L.length) (hp : ∀ x ∈ L, p x) : ∃ d, atI L i = some d ∧ p d := by
  have e : atI L i = some L[i.toNat] := atI_of (j := i.toNat) (by omega) (List.getElem?_eq_getElem (by omega))
  exact ⟨_, e, hp _ (List.getElem_mem _)⟩
def whB : D → Bool
  | .int _ => true | _ => false
def upB (m : Int) : D → Bool
  | .int i => decide (0 ≤ i ∧ i < m) | _ => false
def bitsB (m : Int) : D → Bool
  | .tup xs => decide ((xs.length : Int) = m) && xs.all (upB 2) | _ => false
theorem whole_any {d : D} (h : noDit d = true) : C.g_is_whole [d] = .ok (.fr (.bl (whB d))) := by
  cases d <;> simp [noDit] at h <;> simp [C.g_is_whole, C.m_is_whole, e_fnP, noDit, Y.isInt, Y.isBl, whB]
theorem law_whole_any {d : D} (h : noDit d = true) : C.g__law_whole [d] = .ok (.fr (.bl (whB d))) := by
  cases d <;> simp [noDit] at h <;> simp [C.g__law_whole, C.m__law_whole, e_fnP, noDit, Y.isInt, Y.isBl, whB]
theorem upto_any {d : D} {m : Int} (h : noDit d = true) : C.g_is_upto [d, .int m] = .ok (.fr (.bl (upB m d))) := by
  have := whole_any h
  cases d with
  | int i => exact is_upto_int
  | _ => simp [C.g_is_upto, C.m_is_upto, e_fnP, this, whB, upB]
theorem are_bits_any {d : D} {m : Int} (h : Nd 1 d) : C.g_are_bits [d, .int m] = .ok (.fr (.bl (bitsB m d))) := by
  cases d with
  | tup xs =>
    obtain ⟨hl, hx⟩ := h.tup
    have c := comp_map (tm := tmName 2) (t := cYes) (e := C.e_are_bits_1) (vs := [2]) (ws := []) (ρ := [some (.tup xs), some (.int m), none]) (fun x : D => x) (fun x => D.bl (upB 2 x)) xs (fun x hx' => by
      have := upto_any (m := 2) (hx x hx').no
      simp [turnC, C.e_are_bits_1, this])
    rw [List.map_id'] at c
    have z : szOk xs.length = true := szOk_of (by omega)
    have e2 : (xs.map fun x => D.bl (upB 2 x)) = (xs.map (upB 2)).map D.bl := by rw [List.map_map]; rfl
    have e3 : allD [.lst (xs.map fun x => D.bl (upB 2 x))] = .ok (.bl (xs.all (upB 2))) := by rw [e2, d_all, List.all_map]; rfl
    simp only [C.g_are_bits, C.m_are_bits]
    generalize C.e_are_bits_1 = e1 at c ⊢
    by_cases hm : (xs.length : Int) = m <;> simp [e_fnP, noDit, Y.isTup, z, c, e3, hm, bitsB, -d_all]
  | dit _ _ => cases h.1
  | _ => simp [C.g_are_bits, C.m_are_bits, e_fnP, noDit, Y.isTup, bitsB]
theorem law_are_bits_any {d : D} {m : Int} (h : Nd 1 d) : C.g__law_are_bits [d, .int m] = .ok (.fr (.bl (bitsB m d))) := by
  cases d with
  | tup xs =>
    obtain ⟨hl, hx⟩ := h.tup
    have c := comp_map (tm := tmName 2) (t := cYes) (e := C.e__law_are_bits_1) (vs := [2]) (ws := []) (ρ := [some (.tup xs), some (.int m), none]) (fun x : D => x) (fun x => D.bl (upB 2 x)) xs (fun x hx' => by
      have := law_whole_any (hx x hx').no
      cases x with
      | int i =>
        by_cases h0 : 0 ≤ i
        · simp [turnC, C.e__law_are_bits_1, this, whB, upB, h0]
          exact ⟨fun h => by omega, fun h => by omega⟩
        · simp [turnC, C.e__law_are_bits_1, this, whB, upB, h0]
      | _ => simp [turnC, C.e__law_are_bits_1, this, whB, upB])
    rw [List.map_id'] at c
    have z : szOk xs.length = true := szOk_of (by omega)
    have e2 : (xs.map fun x => D.bl (upB 2 x)) = (xs.map (upB 2)).map D.bl := by rw [List.map_map]; rfl
    have e3 : allD [.lst (xs.map fun x => D.bl (upB 2 x))] = .ok (.bl (xs.all (upB 2))) := by rw [e2, d_all, List.all_map]; rfl
    simp only [C.g__law_are_bits, C.m__law_are_bits]
    generalize C.e__law_are_bits_1 = e1 at c ⊢
    by_cases hm : (xs.length : Int) = m <;> simp [e_fnP, noDit, Y.isTup, z, c, e3, hm, bitsB, -d_all]
  | dit _ _ => cases h.1
  | _ => simp [C.g__law_are_bits, C.m__law_are_bits, e_fnP, noDit, Y.isTup, bitsB]
theorem stand_any {n : List D} {d : D} (h : Nd 1 d) : C.g_is_stand [.tup n, d] = .ok (.fr (.bl (bitsB n.length d))) := by
  have := are_bits_any (m := n.length) h
  simp [C.g_is_stand, C.m_is_stand, e_fnP, this]
@[simp] theorem d_pow39 : powD (.int 10) (.int 39) = .ok (.int 1000000000000000000000000000000000000000) := by
  show (if shOk 10 39 = true then R.ok (D.int (10 ^ (39 : Int).toNat)) else .stk) = _
  rw [if_pos (by decide)]
  rfl
theorem odd_ok {n : Int} : ∃ (d : D) (n' : Int), C.g__law_odd [.lst [.int n]] = .ok (.vl d, [some (.lst [.int n'])]) ∧ Nd 3 d := by
  have tk := take_ok (n := n) (m := 27) (by omega) (by omega)
  obtain ⟨d, e, hd⟩ := atI_any (i := n % 27) (p := Nd 3) (L := [.non, .bl true, .bl false, .int (-1), .int 0, .int 1, .int 2, .int 9, .str "", .str "0", .str "-", .tup [], .tup [.int 0], .tup [.int 1], .tup [.bl true], .lst [.int 0], .dik [] [], .tup [.non], .int 1000000000000000000000000000000000000000,
    .tup [.tup [], .tup [.int 0]], .tup [.tup [.int 0], .tup [.int 0, .int 1]], .tup [.int 0, .int 1], .lst [.tup [], .tup [.int 1]], .str "0-1", .tup [.str "rest"], .tup [.tup [.int 0, .int 1]], .tup [.int 2]]) (by omega) (by simp; omega) (by
      intro x hx
      simp only [List.mem_cons, List.not_mem_nil, or_false] at hx
      rcases hx with h|h|h|h|h|h|h|h|h|h|h|h|h|h|h|h|h|h|h|h|h|h|h|h|h|h|h <;> subst h <;> simp [Nd, noDit])
  refine ⟨d, n / 27, ?_, hd⟩
  simp only [C.g__law_odd, C.m__law_odd]
  simp [e_fnD, tk, e, szOk_of]
theorem cutD_len {xs : List D} {a b : Option Int} : (Y.cutD xs a b).length ≤ xs.length := by
  unfold Y.cutD
  rw [List.length_take, List.length_drop]
  omega
theorem cutD_mem {xs : List D} {a b : Option Int} {x : D} (h : x ∈ Y.cutD xs a b) : x ∈ xs := by
  unfold Y.cutD at h
  exact List.mem_of_mem_drop (List.mem_of_mem_take h)
theorem strs_of {α : Type} {f : α → Str} : ∀ {xs : List α}, strsOf (xs.map fun x => D.str (f x)) = some (xs.map f)
  | [] => rfl
  | x :: xs => by simp [strsOf, strs_of (xs := xs)]
theorem sum_le {α : Type} {f : α → Nat} {m : Nat} : ∀ {xs : List α}, (∀ x ∈ xs, f x ≤ m) → (xs.map f).sum ≤ xs.length * m
  | [], _ => by simp
  | x :: xs, h => by
    have h1 := h x (by simp)
    have h2 := sum_le (xs := xs) fun y hy => h y (by simp [hy])
    simp only [List.map_cons, List.sum_cons, List.length_cons, Nat.succ_mul]
    omega
theorem joinD_lst {a : Str} {ds : List D} : joinD (.str a) (.lst ds) = (match strsOf ds with | some ys => if (ys.map (·.length)).sum + ys.length * a.length ≤ 16777216 then R.ok (.str (Txt.join a ys)) else .stk | none => .stk) := by
  cases e : strsOf ds <;> simp [joinD, e]
theorem join_any {α : Type} {f : α → Str} {xs : List α} (hl : xs.length ≤ 10000) (h : ∀ x ∈ xs, (f x).length ≤ 1000) : ∃ s, joinD (.str (Str.ofString "")) (.lst (xs.map fun x => D.str (f x))) = .ok (.str s) := by
  refine ⟨Txt.join (Str.ofString "") (xs.map f), ?_⟩
  rw [joinD_lst, strs_of]
  have z := sum_le (f := fun x => (f x).length) h
  have e : (Str.ofString "").length = 0 := by decide +kernel
  have e2 : ((xs.map f).map (·.length)).sum = (xs.map fun x => (f x).length).sum := by rw [List.map_map]; rfl
  simp only
  rw [if_pos]
  rw [e, e2]
  have := Nat.mul_le_mul_right 1000 hl
  omega
theorem bent2_ok {n : Int} {st : List Int} {m : Nat} (hs : IsSt m st) (h1 : 1 ≤ m) (h2 : m ≤ 20) : ∃ (d : D) (n' : Int), C.g__law_bent_2 [.lst [.int n], ti st] = .ok (.vl d, [some (.lst [.int n']), none]) ∧ Nd 1 d := by
  have hl := hs.len
  have tk := take_ok (n := n) (m := (m : Nat)) (by omega) (by omega)
  obtain ⟨odd, n2, ho, hd⟩ := odd_ok (n := n / (m : Nat))
  have tk2 := take_ok (n := n2) (m := 2) (by omega) (by omega)
  have tk9 := take_ok (n := n2 / 2) (m := 9) (by omega) (by omega)
  generalize n % (m : Nat) = w at tk
  obtain ⟨S, hS⟩ : ∃ S, st.map D.int = S := ⟨_, rfl⟩
  have lS : S.length = m := by rw [← hS, List.length_map, hl]
  have hb : Nd 1 odd := hd.down.down
  have hb0 : Nd 0 odd := hb.down
  have iS : ∀ x ∈ S, Nd 0 x := fun x hx => by
    rw [← hS] at hx
    obtain ⟨y, _, rfl⟩ := List.mem_map.mp hx
    exact nd_int
  have k1 := cutD_len (xs := S) (a := none) (b := some w)
  have k2 := cutD_len (xs := S) (a := some (w + 1)) (b := none)
  have k3 := cutD_len (xs := S) (a := some 1) (b := none)
  have c1 : ∀ ρ0 ρ1 ρ2 ρ3 ρ4, cCompL (tmName 5) cYes C.e__law_bent_2_2 [5] [] (st.map D.int) [ρ0, ρ1, ρ2, ρ3, ρ4, none] = .ok (st.map fun x => D.bl (decide (x = 1)), [ρ0, ρ1, ρ2, ρ3, ρ4, none]) := fun ρ0 ρ1 ρ2 ρ3 ρ4 =>
    comp_map D.int (fun x => D.bl (decide (x = 1))) st fun x hx => by simp [turnC, C.e__law_bent_2_2]
  have c2 : ∀ ρ0 ρ1 ρ2 ρ3 ρ4, cCompL (tmName 5) cYes C.e__law_bent_2_1 [5] [] (st.map D.int) [ρ0, ρ1, ρ2, ρ3, ρ4, none] = .ok (st.map fun x => dt [48 + x.toNat], [ρ0, ρ1, ρ2, ρ3, ρ4, none]) := fun ρ0 ρ1 ρ2 ρ3 ρ4 =>
    comp_map D.int (fun x => dt [48 + x.toNat]) st fun x hx => by
      have := str_bit (hs.bit x hx)
      simp [turnC, C.e__law_bent_2_1, this]
  obtain ⟨js, hj⟩ := join_any (f := fun x : Int => tx [48 + x.toNat]) (xs := st) (by omega) (fun x _ => by rw [tx_len]; simp)
  rw [hS] at c1 c2
  have z1 : szOk ((Y.cutD S none (some w)).length + 1) = true := szOk_of (by omega)
  have z2 : szOk ((Y.cutD S none (some w)).length + 1 + (Y.cutD S (some (w + 1)) none).length) = true := szOk_of (by omega)
  have z3 : szOk (m + 1) = true := szOk_of (by omega)
  have z4 : szOk m = true := szOk_of (by omega)
  obtain ⟨d, e, hN⟩ := atI_any (i := n2 / 2 % 9) (p := Nd 1) (L := [.tup (Y.cutD S none (some w) ++ odd :: Y.cutD S (some (w + 1)) none), .tup (S ++ [.int (n2 % 2)]), .tup (Y.cutD S (some 1) none), .lst S, odd,
    .tup (st.map fun x => D.bl (decide (x = 1))), .str js, .tup [.tup S], .tup S.reverse]) (by omega) (by simp; omega) (by
      intro x hx
      simp only [List.mem_cons, List.not_mem_nil, or_false] at hx
      rcases hx with h|h|h|h|h|h|h|h|h <;> subst h
      · refine nd_tup (by simp; omega) fun x hx => ?_
        simp only [List.mem_append, List.mem_cons] at hx
        rcases hx with h | rfl | h
        · exact iS _ (cutD_mem h)
        · exact hb0
        · exact iS _ (cutD_mem h)
      · refine nd_tup (by simp; omega) fun x hx => ?_
        simp only [List.mem_append, List.mem_cons, List.not_mem_nil, or_false] at hx
        rcases hx with h | rfl
        · exact iS _ h
        · exact nd_int
      · exact nd_tup (by omega) fun x hx => iS _ (cutD_mem hx)
      · exact nd_lst
      · exact hb
      · refine nd_tup (by simp; omega) fun x hx => ?_
        obtain ⟨y, _, rfl⟩ := List.mem_map.mp hx
        exact nd_bl
      · exact nd_str
      · refine nd_tup (by simp) fun x hx => ?_
        simp only [List.mem_cons, List.not_mem_nil, or_false] at hx
        subst hx; rfl
      · refine nd_tup (by simp; omega) fun x hx => iS _ (by simpa using hx))
  refine ⟨d, n2 / 2 / 9, ?_, hN⟩
  have eti : ti st = .tup S := by rw [← hS]
  rw [eti]
  simp only [C.g__law_bent_2, C.m__law_bent_2]
  generalize C.e__law_bent_2_1 = B1 at c2 ⊢
  generalize C.e__law_bent_2_2 = B2 at c1 ⊢
  simp [e_fnD, lS, tk, ho, tk2, tk9, c1, c2, hj, z1, z2, z3, z4, e, szOk_of]
end H

set_option Elab.async false
set_option linter.all false
set_option maxRecDepth 100000
namespace H
open PySem PySem.Spec PyProof.Rows L2 Y
/-! ### k02 -/
theorem drawn_stand_ok {n : Int} {m : Nat} (hm : m ≤ 20) : ∃ (st : List Int) (n' : Int), C.g__law_drawn_stand [.lst [.int n], .int m] = .ok (.fr (ti st), [some (.lst [.int n']), none]) ∧ IsSt m st := by
  obtain ⟨st, n2, e, hl, hb⟩ := comp_ex (tm := tmName 2) (t := cYes) (e := C.e__law_drawn_stand_1) (vs := [2]) (ws := []) (fun j : Nat => D.int (j : Nat)) D.int (fun b : Int => [some (.lst [.int b]), some (.int m), none]) (fun x => 0 ≤ x ∧ x < 2) (List.range m) n (fun b j hj => by
    have tk := take_ok (n := b) (m := 2) (by omega) (by omega)
    refine ⟨b % 2, b / 2, ?_, by omega, by simp⟩
    simp only [turnC, C.e__law_drawn_stand_1]
    simp [tk])
  rw [List.length_range] at hl
  have rM : rngOk m = true := rngOk_of (by omega) (by omega)
  have zM : szOk m = true := szOk_of (by omega)
  refine ⟨st, n2, ?_, hl, hb⟩
  simp only [C.g__law_drawn_stand, C.m__law_drawn_stand]
  generalize C.e__law_drawn_stand_1 = B at e ⊢
  simp [e_fnD, rM, zM, e]
theorem good_k02 : Good C.g_law_k02 63 := fun ns hl hb => by
  obtain ⟨M, hM⟩ : ∃ M : Nat, max (1 : Int) (min (ns.length : Int) 12) = M := ⟨(max (1 : Int) (min (ns.length : Int) 12)).toNat, by omega⟩
  have hM4 : M ≤ 12 := by omega
  have r2 : rng1D [.int 2] = .ok ((List.range 2).map fun j : Nat => D.int (j : Nat)) := by rw [d_rng1, if_pos (by decide)]; rfl
  obtain ⟨ρ', h, hρ⟩ := for_inv (tm := tmName 1) (body := C.b_law_k02_2) (vs := [1, 2, 3, 4, 5, 6, 7]) (ws := []) (fun k : Nat => D.int (k : Nat)) (fun ρ => ρ = [some (.arg ns), none, none, none, none, none, none, none]) (List.range M) _ rfl fun ρ k hρ hk => by
    subst hρ
    have hk := List.mem_range.mp hk
    obtain ⟨b, hbox⟩ := box_ok (ns := ns) (k := k) hb (by omega)
    obtain ⟨net, n', hnet, ok⟩ := net_ok (n := b) (most := 8) (by omega) (by omega)
    have hnet : C.g__law_net [.lst [.int b], .int 8] = _ := hnet
    have hle := ok.le
    have hpos := ok.pos
    obtain ⟨st, n2, hst, hs⟩ := drawn_stand_ok (n := n') (m := net.length) (by omega)
    have i1 := is_stand_ok (n := net.map dRule) (xs := st) (by have := hs.len; omega) hs.bit (by rw [hs.len, List.length_map])
    have i1 : C.g_is_stand [dNet net, ti st] = _ := i1
    obtain ⟨ρ2, ht, n3, rfl⟩ := for_inv (tm := tmName 5) (body := C.b_law_k02_1) (vs := [5, 6, 7]) (ws := []) (fun k : Nat => D.int (k : Nat)) (fun ρ => ∃ c : Int, ρ = [some (.arg ns), some (.int k), some (.lst [.int c]), some (dNet net), some (ti st), none, none, none]) (List.range 2) _ ⟨n2, rfl⟩ fun ρ j ⟨c, hρ⟩ hj => by
      subst hρ
      obtain ⟨d, c2, e, hd⟩ := bent2_ok (n := c) hs hpos (by omega)
      have a1 := stand_any (n := net.map dRule) hd
      have a1 : C.g_is_stand [dNet net, d] = _ := a1
      have a2 := law_are_bits_any (m := net.length) hd
      rw [List.length_map] at a1
      have c3 : neD (.bl (bitsB net.length d)) (.bl (bitsB net.length d)) = .ok (.bl false) := by cases bitsB net.length d <;> rfl
      have zn : szOk net.length = true := szOk_of (by omega)
      refine ⟨_, ?_, ⟨c2, rfl⟩, by simp⟩
      simp only [turnF, C.b_law_k02_1]
      generalize bitsB net.length d = q at a1 a2 c3
      simp [e, a1, a2, c3, noDit, Y.isBl, zn]
    have z2 : szOk ((List.range 2).map fun j : Nat => D.int (j : Nat)).length = true := by simp
    have zn : szOk net.length = true := szOk_of (by omega)
    refine ⟨_, ?_, rfl, by simp⟩
    simp only [turnF, C.b_law_k02_2]
    generalize C.b_law_k02_1 = B1 at ht ⊢
    generalize ((List.range 2).map fun j : Nat => D.int (j : Nat)) = L2' at ht r2 z2
    simp [hbox, hnet, hst, i1, zn, r2, z2, ht, shAt, -d_rng1]
  subst hρ
  have rM : rngOk M = true := rngOk_of (by omega) (by omega)
  have zM : szOk M = true := szOk_of (by omega)
  refine ⟨.fr (.bl true), ?_, .inl rfl⟩
  simp only [C.g_law_k02, C.m_law_k02]
  simp [e_fnP, hM, rM, zM, h]
end H

set_option Elab.async false
set_option linter.all false
set_option maxRecDepth 100000
namespace H
open PySem PySem.Spec PyProof.Rows L2 Y
/-! ### k03: what rules tell -/
theorem fit_tiZ {n : Nat} {xs : List Int} : Fit (n + 1) (ti xs) := fun d h => by
  obtain ⟨x, _, rfl⟩ := List.mem_map.mp h
  cases n <;> trivial
theorem e_dgetZ {a b : EM} {ρ : Y.Env} : cDGet a b ρ = (a ρ >>= fun p => b p.2 >>= fun q => (p.1.d q.2).nox >>= fun x => (q.1.d q.2).nox >>= fun y => (getDic x y).nox >>= fun o => match o with | some z => R.ok (.vl z, q.2) | none => .stk) := id rfl
def kI (st : List Int) : List Key := st.map fun i => (Sum.inl i : Key)
theorem kI_inj : ∀ {a b : List Int}, kI a = kI b → a = b
  | [], [], _ => rfl
  | [], _ :: _, h => by cases h
  | _ :: _, [], h => by cases h
  | x :: a, y :: b, h => by
    simp only [kI, List.map_cons, List.cons.injEq, Sum.inl.injEq] at h
    rw [h.1, kI_inj (a := a) (b := b) h.2]
theorem keysOf_ints : ∀ st : List Int, keysOf (st.map D.int) = some (kI st)
  | [] => rfl
  | i :: st => by
    simp only [List.map_cons, keysOf, Y.keyOf, keysOf_ints st]
    rfl
theorem keysT_ti : ∀ xs : List (List Int), keysT (xs.map ti) = some (xs.map kI)
  | [] => rfl
  | st :: xs => by
    simp only [List.map_cons, keysT, keysOf_ints, keysT_ti xs]
theorem findD_at {κ : Type} [DecidableEq κ] : ∀ {ks : List κ} {ds : List D} {i : Nat} {k : κ} {d : D}, ks.Nodup → ks[i]? = some k → ds[i]? = some d → findD ks ds k = some d
  | [], _, _, _, _, _, h, _ => by simp at h
  | _ :: _, [], _, _, _, _, _, h => by simp at h
  | k' :: ks, d' :: ds, 0, k, d, nd, h, h2 => by
    simp at h h2
    subst h h2
    rw [findD, if_pos rfl]
  | k' :: ks, d' :: ds, i + 1, k, d, nd, h, h2 => by
    have h : ks[i]? = some k := by simpa using h
    have ne : ¬ k' = k := fun e => (List.nodup_cons.mp nd).1 (e ▸ List.mem_of_getElem? h)
    rw [findD, if_neg ne]
    exact findD_at (List.nodup_cons.mp nd).2 h (by simpa using h2)
theorem stands_ne : ∀ m, ∃ st l, stands m = st :: l
  | m => by
    cases e : stands m with
    | nil =>
      have := stands_len m
      rw [e] at this
      have h2 : 0 < 2 ^ m := Nat.pow_pos (by decide)
      simp at this
      omega
    | cons a l => exact ⟨a, l, rfl⟩
theorem dict_rows {m : Nat} {ds : List D} (hm : m ≤ 20) (hl : ds.length = 2 ^ m) : dictZ (lti (stands m)) (.tup ds) = .ok (.dit ((stands m).map kI) ds) := by
  have hp : 2 ^ m ≤ 2 ^ 20 := Nat.pow_le_pow_right (by omega) hm
  have e1 : keysOf ((stands m).map ti) = none := by
    obtain ⟨a, l, e⟩ := stands_ne m
    rw [e]
    rfl
  have nd : ((stands m).map kI).Nodup := (List.pairwise_map.mpr ((stands_nodup m).imp fun h e => h (kI_inj e)))
  have c : ((stands m).map ti).length = ds.length ∧ szOk ((stands m).map ti).length = true := by
    rw [List.length_map, stands_len, hl]
    exact ⟨rfl, szOk_of (by omega)⟩
  show (if ((stands m).map ti).length = ds.length ∧ szOk ((stands m).map ti).length = true then _ else _) = _
  rw [if_pos c, e1, keysT_ti]
  show (if ((stands m).map kI).Nodup then R.ok (D.dit ((stands m).map kI) ds) else .stk) = _
  rw [if_pos nd]
theorem readings2_ok {m : Nat} (hm : m ≤ 20) : C.g__law_readings_2 [.int m] = .ok (.fr (lti (stands m))) := readings_ok hm
theorem law_due5_ok {ns : List RuleT} {st : List Int} {k : Nat} (g : GoodNet ns) (g4 : ∀ r ∈ ns, r.1.length ≤ 20) (hs : IsSt ns.length st) (hk : k < ns.length) : C.g__law_due_5 [dNet ns, ti st, .int k] = .ok (.vl (.int (oughtI ns st k))) := by
  obtain ⟨h1, h2, h3⟩ := g.at hk
  have l4 : (ns.getD k ([], [])).1.length ≤ 20 := by
    rw [List.getD_eq_getElem?_getD, List.getElem?_eq_getElem hk]
    exact g4 _ (List.getElem_mem hk)
  have e0 : oughtI ns st k = tellI (ns.getD k ([], [])) st := rfl
  rw [e0]
  have na := net_at hk
  generalize ns.getD k ([], []) = r at *
  obtain ⟨ears, table⟩ := r
  dsimp only at h1 h2 h3 l4
  have h := comp_map (tm := tmName 5) (t := cYes) (e := C.e__law_due_5_1) (vs := [5]) (ws := []) (ρ := [some (dNet ns), some (ti st), some (.int k), some (ti ears), some (ti table), none]) D.int (fun e => D.int (st.getD e.toNat 0)) ears (fun e he => by
    have := h2 e he
    simp [turnC, C.e__law_due_5_1, atI_mapI this.1 (by rw [hs.len]; exact this.2)])
  have hr : IsSt ears.length (ears.map fun e => st.getD e.toNat 0) := ⟨by simp, fun x hx => by
    obtain ⟨e, _, rfl⟩ := List.mem_map.mp hx
    exact getD_bit hs.bit _⟩
  have rd := readings2_ok (m := ears.length) (by omega)
  have dz := dict_rows (m := ears.length) (ds := table.map D.int) l4 (by rw [List.length_map, h3])
  have sa := stands_at hr
  have pl : (placeI (ears.map fun e => st.getD e.toNat 0)).toNat < table.length := by
    have := (List.getElem?_eq_some_iff.mp sa).1
    rwa [stands_len, ← h3] at this
  have fd : findD ((stands ears.length).map kI) (table.map D.int) (kI (ears.map fun e => st.getD e.toNat 0)) = some (.int (tellI (ears, table) st)) := by
    refine findD_at (i := (placeI (ears.map fun e => st.getD e.toNat 0)).toNat) (List.pairwise_map.mpr ((stands_nodup _).imp fun h e => h (kI_inj e))) (by rw [List.getElem?_map, sa]; rfl) ?_
    rw [List.getElem?_map, List.getElem?_eq_getElem pl]
    unfold tellI
    rw [List.getD_eq_getElem?_getD, List.getElem?_eq_getElem pl]
    rfl
  have gd : getDic (.dit ((stands ears.length).map kI) (table.map D.int)) (.tup (ears.map fun e => D.int (st.getD e.toNat 0))) = .ok (some (.int (tellI (ears, table) st))) := by
    have ke : keysOf (ears.map fun e => D.int (st.getD e.toNat 0)) = some (kI (ears.map fun e => st.getD e.toNat 0)) := by
      rw [← keysOf_ints, List.map_map]
      rfl
    show (match keysOf (ears.map fun e => D.int (st.getD e.toNat 0)) with | some k => R.ok (findD ((stands ears.length).map kI) (table.map D.int) k) | none => .stk) = _
    rw [ke]
    exact congrArg R.ok fd
  generalize D.int (tellI (ears, table) st) = z at gd ⊢
  have zs : szOk ears.length = true := szOk_of (by omega)
  have z2 : szOk (ears.map fun e => D.int (st.getD e.toNat 0)).length = true := szOk_of (by simp; omega)
  simp only [C.g__law_due_5, C.m__law_due_5]
  generalize C.e__law_due_5_1 = E1 at h ⊢
  generalize ears.map (fun e => D.int (st.getD e.toNat 0)) = rdg at *
  simp [e_fnP, na, h, rd, dz, gd, zs, z2, e_dgetZ, dRule]
theorem bits_eq {st : List Int} {k : Nat} (hs : ∀ x ∈ st, 0 ≤ x ∧ x < 2) : ∃ x, st[k]?.getD 0 = x := ⟨_, rfl⟩
theorem law_right5_ok {ns : List RuleT} {st : List Int} (g : GoodNet ns) (g4 : ∀ r ∈ ns, r.1.length ≤ 20) (hs : IsSt ns.length st) : C.g__law_right_5 [dNet ns, ti st] = .ok (.fr (.bl true)) := by
  have hz := g.sz
  have hl := hs.len
  have hr : rngOk ns.length = true := rngOk_of (by omega) (by omega)
  have hz2 : szOk ns.length = true := szOk_of (by omega)
  have h1 : cCompL (tmName 4) cYes C.e__law_right_5_1 [4] [] ((List.range ns.length).map fun k : Nat => D.int (k : Nat)) [some (dNet ns), some (ti st), none, none, none, none, none, none] = .ok ((allI ns st).map D.int, [some (dNet ns), some (ti st), none, none, none, none, none, none]) := by
    unfold allI
    rw [List.map_map]
    exact comp_map (fun k : Nat => D.int (k : Nat)) (fun k => D.int (oughtI ns st k)) (List.range ns.length) fun k hk => by
      simp only [turnC, C.e__law_right_5_1]
      simp [law_due5_ok g g4 hs (List.mem_range.mp hk)]
  have at1 : ∀ k, k < ns.length → atI ((allI ns st).map D.int) (k : Int) = some (.int (oughtI ns st k)) := fun k hk => by
    unfold allI
    rw [List.map_map, atI_map, atI_nat' (by rw [List.length_range]; exact hk)]
    simp
  have at2 : ∀ k, k < ns.length → atI (st.map D.int) (k : Int) = some (.int (st.getD k 0)) := fun k hk => by
    have := atI_mapI (xs := st) (i := (k : Int)) (by omega) (by rw [hl]; exact_mod_cast hk)
    simpa using this
  have h2 : cCompL (tmName 4) C.t__law_right_5_2 C.e__law_right_5_2 [4] [] ((List.range ns.length).map fun k : Nat => D.int (k : Nat)) [some (dNet ns), some (ti st), some (.lst ((allI ns st).map D.int)), none, none, none, none, none] = .ok ((wrongI ns st).map fun k => D.int (k : Nat), [some (dNet ns), some (ti st), some (.lst ((allI ns st).map D.int)), none, none, none, none, none]) :=
    comp_filter (fun k : Nat => D.int (k : Nat)) (fun k => !decide (oughtI ns st k = st.getD k 0)) (fun k => D.int (k : Nat)) (List.range ns.length) (fun k hk => by
      have a1 := at1 k (List.mem_range.mp hk)
      have a2 := at2 k (List.mem_range.mp hk)
      simp only [turnC, C.t__law_right_5_2, C.e__law_right_5_2]
      generalize st.getD k 0 = x at *
      generalize oughtI ns st k = y at *
      by_cases c : y = x <;> simp [a1, a2, c])
  obtain ⟨ρ2, h3, hρ2⟩ := for_inv (tm := tmName 4) (body := C.b__law_right_5_1) (vs := [4, 5]) (ws := []) (fun k : Nat => D.int (k : Nat)) (fun ρ => ρ = [some (dNet ns), some (ti st), some (.lst ((allI ns st).map D.int)), some (ln' (wrongI ns st)), none, none, none, none]) (List.range ns.length) _ rfl fun ρ k hρ hk => by
    subst hρ
    have hk := List.mem_range.mp hk
    have a1 := at1 k hk
    have t1 := told_by_ok g hs hk
    have t2 := turned_ok g hs hk
    have c1 := cut_to (ds := st.map D.int) (k := k)
    have c2 := cut_from (ds := st.map D.int) (k := k + 1)
    rw [show ((k + 1 : Nat) : Int) = (k : Int) + 1 by omega] at c2
    have z1 : szOk (min k st.length + 1) = true := szOk_of (by omega)
    have z3 : szOk (min k st.length + 1 + (st.length - (k + 1))) = true := szOk_of (by omega)
    have lw := law_whole_any (d := .int (oughtI ns st k)) rfl
    have wh : whB (.int (oughtI ns st k)) = true := rfl
    rw [wh] at lw
    have n1 : neD (.int (oughtI ns st k)) (.int (oughtI ns st k)) = .ok (.bl false) := neD_refl (n := 0) trivial
    have n2 : neD (ti (withI st k (oughtI ns st k))) (ti (withI st k (oughtI ns st k))) = .ok (.bl false) := neD_refl (n := 1) fit_tiZ
    unfold withI at n2 t2
    rw [show ti (st.take k ++ oughtI ns st k :: st.drop (k + 1)) = D.tup ((st.map D.int).take k ++ D.int (oughtI ns st k) :: (st.map D.int).drop (k + 1)) by simp [List.map_append, List.map_take, List.map_drop]] at n2 t2
    refine ⟨_, ?_, rfl, by simp⟩
    simp only [turnF, C.b__law_right_5_1]
    generalize oughtI ns st k = y at *
    simp [t1, t2, a1, lw, n1, n2, c1, c2, z1, z3]
  subst hρ2
  have r2 : rng1D [.int 2] = .ok ((List.range 2).map fun j : Nat => D.int (j : Nat)) := by rw [d_rng1, if_pos (by decide)]; rfl
  have wl : (wrongI ns st).length ≤ ns.length := by
    unfold wrongI
    exact Nat.le_trans (List.length_filter_le _ _) (by simp)
  obtain ⟨ρ3, h4, hρ3⟩ := for_inv (tm := tmName 6) (body := C.b__law_right_5_2) (vs := [6, 7]) (ws := []) (fun j : Nat => D.int (j : Nat)) (fun ρ => ρ = [some (dNet ns), some (ti st), some (.lst ((allI ns st).map D.int)), some (ln' (wrongI ns st)), none, none, none, none]) (List.range 2) _ rfl fun ρ j hρ hj => by
    subst hρ
    have w := wrong_ones_ok g hs
    have e : neD (ln' (wrongI ns st)) (ln' (wrongI ns st)) = .ok (.bl false) := neD_refl (n := 1) fit_ln
    have z : szOk ((wrongI ns st).length + 1) = true := szOk_of (by omega)
    refine ⟨_, ?_, rfl, by simp⟩
    simp only [turnF, C.b__law_right_5_2]
    simp [w, e, z, shAt, Y.isLst, noDit, chkO_ws]
  subst hρ3
  have zr : szOk ((List.range 2).map fun j : Nat => D.int (j : Nat)).length = true := by simp
  have rn : rng1D [.int ns.length] = .ok ((List.range ns.length).map fun j : Nat => D.int (j : Nat)) := by rw [d_rng1, if_pos hr]; rfl
  have zn : szOk ((List.range ns.length).map fun j : Nat => D.int (j : Nat)).length = true := by rw [List.length_map, List.length_range]; exact hz2
  have at3 := all_turned_ok g hs
  have la : (allI ns st).length = ns.length := by simp [allI]
  have eq : eqD (ti (allI ns st)) (ti (allI ns st)) = .ok (.bl true) := eqD_refl (n := 1) fit_tiZ
  have za : szOk (allI ns st).length = true := szOk_of (by omega)
  simp only [C.g__law_right_5, C.m__law_right_5]
  generalize C.e__law_right_5_1 = E1 at h1 ⊢
  generalize C.t__law_right_5_2 = T2 at h2 ⊢
  generalize C.e__law_right_5_2 = E2 at h2 ⊢
  generalize C.b__law_right_5_1 = B1 at h3 ⊢
  generalize C.b__law_right_5_2 = B2 at h4 ⊢
  generalize ((List.range 2).map fun j : Nat => D.int (j : Nat)) = R2 at *
  generalize ((List.range ns.length).map fun j : Nat => D.int (j : Nat)) = RN at *
  simp [e_fnP, hz2, h1, h2, h3, h4, r2, zr, rn, zn, at3, eq, za, -d_rng1]
theorem good_k03 : Good C.g_law_k03 63 := fun ns hl hb => by
  have r3 : rng1D [.int 3] = .ok ((List.range 3).map fun j : Nat => D.int (j : Nat)) := by rw [d_rng1, if_pos (by decide)]; rfl
  obtain ⟨M, hM⟩ : ∃ M : Nat, max (1 : Int) (min (ns.length : Int) 6) = M := ⟨(max (1 : Int) (min (ns.length : Int) 6)).toNat, by omega⟩
  have hM4 : M ≤ 6 := by omega
  obtain ⟨ρ', h, hρ⟩ := for_inv (tm := tmName 1) (body := C.b_law_k03_2) (vs := [1, 2, 3, 4]) (ws := []) (fun k : Nat => D.int (k : Nat)) (fun ρ => ρ = [some (.arg ns), none, none, none, none]) (List.range M) _ rfl fun ρ k hρ hk => by
    subst hρ
    have hk := List.mem_range.mp hk
    obtain ⟨b, hbox⟩ := box_ok (ns := ns) (k := k) hb (by omega)
    obtain ⟨net, n', hnet, ok⟩ := net_ok (n := b) (most := 8) (by omega) (by omega)
    have hnet : C.g__law_net [.lst [.int b], .int 8] = _ := hnet
    have g := ok.good (by omega)
    have g4 : ∀ r ∈ net, r.1.length ≤ 20 := fun r hr => by have := (ok.rule r hr).len; omega
    have zn : szOk net.length = true := szOk_of (by have := ok.le; omega)
    obtain ⟨ρ2, h2, n3, hρ2⟩ := for_inv (tm := tmName 4) (body := C.b_law_k03_1) (vs := [4]) (ws := []) (fun j : Nat => D.int (j : Nat)) (fun ρ => ∃ c : Int, ρ = [some (.arg ns), some (.int k), some (.lst [.int c]), some (dNet net), none]) (List.range 3) _ ⟨n', rfl⟩ fun ρ j ⟨c, hρ⟩ hj => by
      subst hρ
      obtain ⟨st, n2, hst, hs⟩ := drawn_stand_ok (n := c) (m := net.length) (by have := ok.le; omega)
      have lr := law_right5_ok g g4 hs
      refine ⟨_, ?_, ⟨n2, rfl⟩, by simp⟩
      simp only [turnF, C.b_law_k03_1]
      simp [hst, lr, zn, shAt]
    subst hρ2
    have zr : szOk ((List.range 3).map fun j : Nat => D.int (j : Nat)).length = true := by simp
    refine ⟨_, ?_, rfl, by simp⟩
    simp only [turnF, C.b_law_k03_2]
    generalize C.b_law_k03_1 = B1 at h2 ⊢
    generalize ((List.range 3).map fun j : Nat => D.int (j : Nat)) = R3 at *
    simp [hbox, hnet, h2, r3, zr, shAt, -d_rng1]
  subst hρ
  have rM : rngOk M = true := rngOk_of (by omega) (by omega)
  have zM : szOk M = true := szOk_of (by omega)
  refine ⟨.fr (.bl true), ?_, .inl rfl⟩
  simp only [C.g_law_k03, C.m_law_k03]
  simp [e_fnP, hM, rM, zM, h]
end H

set_option Elab.async false
set_option linter.all false
set_option maxRecDepth 100000
namespace K03
open PySem PySem.Spec PyProof.Rows L2 Y
def top (i : Nat) : Stmt := PySem.Challenge.pw_switchnets_k03_what_rules_tell.main.body.getD i (.Pass ⟨0, 0, 0, 0⟩)
abbrev s_is_whole : Stmt := top 5
theorem sc_is_whole : FnScope ["thing"] ["thing"] (defScope s_is_whole) := ⟨rfl, rfl, rfl, by decide +kernel, rfl, by decide +kernel, by decide +kernel⟩
abbrev s_is_upto : Stmt := top 6
theorem sc_is_upto : FnScope ["thing", "many"] ["thing", "many"] (defScope s_is_upto) := ⟨rfl, rfl, rfl, by decide +kernel, rfl, by decide +kernel, by decide +kernel⟩
abbrev s_are_bits : Stmt := top 7
theorem sc_are_bits : FnScope ["thing", "many", "one"] ["thing", "many"] (defScope s_are_bits) := ⟨rfl, rfl, rfl, by decide +kernel, rfl, by decide +kernel, by decide +kernel⟩
abbrev s_is_stand : Stmt := top 8
theorem sc_is_stand : FnScope ["net", "thing"] ["net", "thing"] (defScope s_is_stand) := ⟨rfl, rfl, rfl, by decide +kernel, rfl, by decide +kernel, by decide +kernel⟩
abbrev s_look_at_stand : Stmt := top 9
theorem sc_look_at_stand : FnScope ["net", "thing"] ["net", "thing"] (defScope s_look_at_stand) := ⟨rfl, rfl, rfl, by decide +kernel, rfl, by decide +kernel, by decide +kernel⟩
abbrev s_look_at_switch : Stmt := top 10
theorem sc_look_at_switch : FnScope ["net", "thing"] ["net", "thing"] (defScope s_look_at_switch) := ⟨rfl, rfl, rfl, by decide +kernel, rfl, by decide +kernel, by decide +kernel⟩
abbrev s_place_of : Stmt := top 11
theorem sc_place_of : FnScope ["bits", "place", "bit"] ["bits"] (defScope s_place_of) := ⟨rfl, rfl, rfl, by decide +kernel, rfl, by decide +kernel, by decide +kernel⟩
abbrev s_ought : Stmt := top 12
theorem sc_ought : FnScope ["net", "stand", "k", "ears", "table", "ear"] ["net", "stand", "k"] (defScope s_ought) := ⟨rfl, rfl, rfl, by decide +kernel, rfl, by decide +kernel, by decide +kernel⟩
abbrev s_with_bit : Stmt := top 13
theorem sc_with_bit : FnScope ["stand", "k", "bit"] ["stand", "k", "bit"] (defScope s_with_bit) := ⟨rfl, rfl, rfl, by decide +kernel, rfl, by decide +kernel, by decide +kernel⟩
abbrev s_told_by : Stmt := top 14
theorem sc_told_by : FnScope ["net", "stand", "k"] ["net", "stand", "k"] (defScope s_told_by) := ⟨rfl, rfl, rfl, by decide +kernel, rfl, by decide +kernel, by decide +kernel⟩
abbrev s_wrong_ones : Stmt := top 15
theorem sc_wrong_ones : FnScope ["net", "stand", "k"] ["net", "stand"] (defScope s_wrong_ones) := ⟨rfl, rfl, rfl, by decide +kernel, rfl, by decide +kernel, by decide +kernel⟩
abbrev s_turned : Stmt := top 16
theorem sc_turned : FnScope ["net", "stand", "k"] ["net", "stand", "k"] (defScope s_turned) := ⟨rfl, rfl, rfl, by decide +kernel, rfl, by decide +kernel, by decide +kernel⟩
abbrev s_all_turned : Stmt := top 17
theorem sc_all_turned : FnScope ["net", "stand", "k"] ["net", "stand"] (defScope s_all_turned) := ⟨rfl, rfl, rfl, by decide +kernel, rfl, by decide +kernel, by decide +kernel⟩
abbrev s__law_cell : Stmt := top 19
theorem sc__law_cell : FnScope ["script", "k"] ["script", "k"] (defScope s__law_cell) := ⟨rfl, rfl, rfl, by decide +kernel, rfl, by decide +kernel, by decide +kernel⟩
abbrev s__law_mix : Stmt := top 20
theorem sc__law_mix : FnScope ["cell", "k", "number"] ["cell", "k"] (defScope s__law_mix) := ⟨rfl, rfl, rfl, by decide +kernel, rfl, by decide +kernel, by decide +kernel⟩
abbrev s__law_box : Stmt := top 21
theorem sc__law_box : FnScope ["script", "k", "here", "number", "j"] ["script", "k"] (defScope s__law_box) := ⟨rfl, rfl, rfl, by decide +kernel, rfl, by decide +kernel, by decide +kernel⟩
abbrev s__law_take : Stmt := top 22
theorem sc__law_take : FnScope ["box", "many", "left", "digit"] ["box", "many"] (defScope s__law_take) := ⟨rfl, rfl, rfl, by decide +kernel, rfl, by decide +kernel, by decide +kernel⟩
abbrev s__law_rule : Stmt := top 23
theorem sc__law_rule : FnScope ["box", "many", "ears", "size", "number", "mask", "least", "table", "place", "j"] ["box", "many"] (defScope s__law_rule) := ⟨rfl, rfl, rfl, by decide +kernel, rfl, by decide +kernel, by decide +kernel⟩
abbrev s__law_net : Stmt := top 24
theorem sc__law_net : FnScope ["box", "most", "many", "k"] ["box", "most"] (defScope s__law_net) := ⟨rfl, rfl, rfl, by decide +kernel, rfl, by decide +kernel, by decide +kernel⟩
abbrev s__law_drawn_stand : Stmt := top 25
theorem sc__law_drawn_stand : FnScope ["box", "many", "k"] ["box", "many"] (defScope s__law_drawn_stand) := ⟨rfl, rfl, rfl, by decide +kernel, rfl, by decide +kernel, by decide +kernel⟩
abbrev s__law_whole : Stmt := top 26
theorem sc__law_whole : FnScope ["found"] ["found"] (defScope s__law_whole) := ⟨rfl, rfl, rfl, by decide +kernel, rfl, by decide +kernel, by decide +kernel⟩
abbrev s__law_readings : Stmt := top 27
theorem sc__law_readings : FnScope ["many", "found", "k", "reading"] ["many"] (defScope s__law_readings) := ⟨rfl, rfl, rfl, by decide +kernel, rfl, by decide +kernel, by decide +kernel⟩
abbrev s__law_due : Stmt := top 28
theorem sc__law_due : FnScope ["net", "stand", "k", "ears", "table", "ear"] ["net", "stand", "k"] (defScope s__law_due) := ⟨rfl, rfl, rfl, by decide +kernel, rfl, by decide +kernel, by decide +kernel⟩
abbrev s__law_right : Stmt := top 29
theorem sc__law_right : FnScope ["net", "stand", "due", "wrong", "k", "bit", "turn", "found"] ["net", "stand"] (defScope s__law_right) := ⟨rfl, rfl, rfl, by decide +kernel, rfl, by decide +kernel, by decide +kernel⟩
abbrev s_law : Stmt := top 30
theorem sc_law : FnScope ["script", "k", "box", "net", "turn"] ["script"] (defScope s_law) := ⟨rfl, rfl, rfl, by decide +kernel, rfl, by decide +kernel, by decide +kernel⟩
structure Txt (K : PySem.W.Frag) (mg : Str → Option Value) : Prop where
  d_is_whole : Def K mg "is_whole" s_is_whole
  d_is_upto : Def K mg "is_upto" s_is_upto
  d_are_bits : Def K mg "are_bits" s_are_bits
  d_is_stand : Def K mg "is_stand" s_is_stand
  d_look_at_stand : Def K mg "look_at_stand" s_look_at_stand
  d_look_at_switch : Def K mg "look_at_switch" s_look_at_switch
  d_place_of : Def K mg "place_of" s_place_of
  d_ought : Def K mg "ought" s_ought
  d_with_bit : Def K mg "with_bit" s_with_bit
  d_told_by : Def K mg "told_by" s_told_by
  d_wrong_ones : Def K mg "wrong_ones" s_wrong_ones
  d_turned : Def K mg "turned" s_turned
  d_all_turned : Def K mg "all_turned" s_all_turned
  d__law_cell : Def K mg "_law_cell" s__law_cell
  d__law_mix : Def K mg "_law_mix" s__law_mix
  d__law_box : Def K mg "_law_box" s__law_box
  d__law_take : Def K mg "_law_take" s__law_take
  d__law_rule : Def K mg "_law_rule" s__law_rule
  d__law_net : Def K mg "_law_net" s__law_net
  d__law_drawn_stand : Def K mg "_law_drawn_stand" s__law_drawn_stand
  d__law_whole : Def K mg "_law_whole" s__law_whole
  d__law_readings : Def K mg "_law_readings" s__law_readings
  d__law_due : Def K mg "_law_due" s__law_due
  d__law_right : Def K mg "_law_right" s__law_right
  e_NoStand : ErrT K mg "NoStand"
  e_NoSwitch : ErrT K mg "NoSwitch"
  z_all : mg "all" = none
  z_bool : mg "bool" = none
  z_dict : mg "dict" = none
  z_divmod : mg "divmod" = none
  z_int : mg "int" = none
  z_isinstance : mg "isinstance" = none
  z_len : mg "len" = none
  z_list : mg "list" = none
  z_max : mg "max" = none
  z_min : mg "min" = none
  z_range : mg "range" = none
  z_sorted : mg "sorted" = none
  z_sum : mg "sum" = none
  z_tuple : mg "tuple" = none
  z_zip : mg "zip" = none
section
variable {P : Program} {w : World} {K : PySem.W.Frag} {mg : Str → Option Value} {base : Heap}
theorem ok_is_whole (T : Txt K mg) : Glo P w K mg base "is_whole" 1 1 [] (pureF C.g_is_whole) :=
  (glo_mk (O := []) (Oc := []) (W := []) (U := []) T.d_is_whole sc_is_whole (fun f cdv A outer s H E P0 hr => (cs_one (cs_ret (ce_and (ce_isi isk_int T.z_isinstance T.z_int (ce_var 0) bo_isinstance bo_int) (ce_one (ce_not (ce_isi isk_bool T.z_isinstance T.z_bool (ce_var 0) bo_isinstance bo_bool))))))) (fun _ _ _ _ _ _ us hl => match us, hl with | [_], _ => rfl)).pure
theorem ok_is_upto (T : Txt K mg) : Glo P w K mg base "is_upto" 2 2 [] (pureF C.g_is_upto) :=
  (glo_mk (O := []) (Oc := []) (W := []) (U := []) T.d_is_upto sc_is_upto (fun f cdv A outer s H E P0 hr => (cs_one (cs_ret (ce_and (ce_call (ok_is_whole T) out2_body (hr.mono (by decide)) (ca_cons (ce_var 0) ca_nil) (alen_cons alen_nil)) (ce_one (ce_chain od_le od_lt ce_int (ce_var 0) (ce_var 1))))))) (fun _ _ _ _ _ _ us hl => match us, hl with | [_, _], _ => rfl)).pure
theorem ok_are_bits (T : Txt K mg) : Glo P w K mg base "are_bits" 3 2 [] (pureF C.g_are_bits) :=
  (glo_mk (O := []) (Oc := []) (W := []) (U := []) T.d_are_bits sc_are_bits (fun f cdv A outer s H E P0 hr => (cs_one (cs_ret (ce_and (ce_isi isk_tuple T.z_isinstance T.z_tuple (ce_var 0) bo_isinstance bo_tuple) (ce_and (ce_cmp (od_eq hr.units) (ce_callB cd_len T.z_len bo_len (ca_cons (ce_var 0) ca_nil)) (ce_var 1)) (ce_one (ce_callB (cd_all rfl) T.z_all bo_all (ca_cons (ce_comp rfl sc_are_bits.nd (ci_any (ce_var 0)) (blkOk_by (own := [("one", 2)]) (by kernel_rfl)) (fun P0 s H C cl fp => (cg_name 2 sc_are_bits.nd)) (fun s H C cl fp => cts_nil) (fun P0 s H C cl fp => (ce_call (ok_is_upto T) Out2.blk (hr.mono (by decide)) (ca_cons (ce_var 2) (ca_cons ce_int ca_nil)) (alen_cons (alen_cons alen_nil))))) ca_nil)))))))) (fun _ _ _ _ _ _ us hl => match us, hl with | [_, _], _ => rfl)).pure
theorem ok_is_stand (T : Txt K mg) : Glo P w K mg base "is_stand" 4 2 [] (pureF C.g_is_stand) :=
  (glo_mk (O := []) (Oc := []) (W := []) (U := []) T.d_is_stand sc_is_stand (fun f cdv A outer s H E P0 hr => (cs_one (cs_ret (ce_call (ok_are_bits T) out2_body (hr.mono (by decide)) (ca_cons (ce_var 1) (ca_cons (ce_callB cd_len T.z_len bo_len (ca_cons (ce_var 0) ca_nil)) ca_nil)) (alen_cons (alen_cons alen_nil)))))) (fun _ _ _ _ _ _ us hl => match us, hl with | [_, _], _ => rfl)).pure
theorem ok_look_at_stand (T : Txt K mg) : Glo P w K mg base "look_at_stand" 5 2 [] (pureF C.g_look_at_stand) :=
  (glo_mk (O := []) (Oc := []) (W := []) (U := []) T.d_look_at_stand sc_look_at_stand (fun f cdv A outer s H E P0 hr => (cs_one (cs_if (ct_not (ct_val (ce_call (ok_is_stand T) out2_body (hr.mono (by decide)) (ca_cons (ce_var 0) (ca_cons (ce_var 1) ca_nil)) (alen_cons (alen_cons alen_nil))))) (cs_one (cs_raise T.e_NoStand rfl (L2N.takes_of rfl rfl rfl rfl))) cs_nil))) (fun _ _ _ _ _ _ us hl => match us, hl with | [_, _], _ => rfl)).pure
theorem ok_look_at_switch (T : Txt K mg) : Glo P w K mg base "look_at_switch" 3 2 [] (pureF C.g_look_at_switch) :=
  (glo_mk (O := []) (Oc := []) (W := []) (U := []) T.d_look_at_switch sc_look_at_switch (fun f cdv A outer s H E P0 hr => (cs_one (cs_if (ct_not (ct_val (ce_call (ok_is_upto T) out2_body (hr.mono (by decide)) (ca_cons (ce_var 1) (ca_cons (ce_callB cd_len T.z_len bo_len (ca_cons (ce_var 0) ca_nil)) ca_nil)) (alen_cons (alen_cons alen_nil))))) (cs_one (cs_raise T.e_NoSwitch rfl (L2N.takes_of rfl rfl rfl rfl))) cs_nil))) (fun _ _ _ _ _ _ us hl => match us, hl with | [_, _], _ => rfl)).pure
theorem ok_place_of (T : Txt K mg) : Glo P w K mg base "place_of" 1 1 [] (pureF C.g_place_of) :=
  (glo_mk (O := []) (Oc := []) (W := []) (U := []) T.d_place_of sc_place_of (fun f cdv A outer s H E P0 hr => (cs_cons (cs_asg ce_int (cg_name 1 sc_place_of.nd))
    (cs_cons (cs_for (U' := []) (vs := [2]) (passes_of rfl) rfl (ci_any (ce_var 0)) (cg_name 2 sc_place_of.nd) (cs_one (cs_asg (ce_bin od_add (ce_bin od_mul ce_int (ce_var 1)) (ce_var 2)) (cg_name 1 sc_place_of.nd))))
    (cs_one (cs_ret (ce_var 1)))))) (fun _ _ _ _ _ _ us hl => match us, hl with | [_], _ => rfl)).pure
theorem ok_ought (T : Txt K mg) : Glo P w K mg base "ought" 2 3 [] (pureF C.g_ought) :=
  (glo_mk (O := []) (Oc := []) (W := []) (U := []) T.d_ought sc_ought (fun f cdv A outer s H E P0 hr => (cs_cons (cs_asg (ce_ix (ce_var 0) (ce_var 2)) (cg_tup [3, 4] rfl (cgs_cons 3 sc_ought.nd (cgs_cons 4 sc_ought.nd cgs_nil))))
    (cs_one (cs_ret (ce_ix (ce_var 4) (ce_call (ok_place_of T) out2_body (hr.mono (by decide)) (ca_cons (ce_comp rfl sc_ought.nd (ci_any (ce_var 3)) (blkOk_by (own := [("ear", 5)]) (by kernel_rfl)) (fun P0 s H C cl fp => (cg_name 5 sc_ought.nd)) (fun s H C cl fp => cts_nil) (fun P0 s H C cl fp => (ce_ix (ce_var 1) (ce_var 5)))) ca_nil) (alen_cons alen_nil))))))) (fun _ _ _ _ _ _ us hl => match us, hl with | [_, _, _], _ => rfl)).pure
theorem ok_with_bit (T : Txt K mg) : Glo P w K mg base "with_bit" 1 3 [] (pureF C.g_with_bit) :=
  (glo_mk (O := []) (Oc := []) (W := []) (U := []) T.d_with_bit sc_with_bit (fun f cdv A outer s H E P0 hr => (cs_one (cs_ret (ce_bin od_add (ce_bin od_add (ce_slice (ce_var 0) co_none (co_some (ce_var 1))) (ce_tup (ca_cons (ce_var 2) ca_nil))) (ce_slice (ce_var 0) (co_some (ce_bin od_add (ce_var 1) ce_int)) co_none))))) (fun _ _ _ _ _ _ us hl => match us, hl with | [_, _, _], _ => rfl)).pure
theorem ok_told_by (T : Txt K mg) : Glo P w K mg base "told_by" 6 3 [] (pureF C.g_told_by) :=
  (glo_mk (O := []) (Oc := []) (W := []) (U := []) T.d_told_by sc_told_by (fun f cdv A outer s H E P0 hr => (cs_cons (cs_expr (ce_call (ok_look_at_stand T) out2_body (hr.mono (by decide)) (ca_cons (ce_var 0) (ca_cons (ce_var 1) ca_nil)) (alen_cons (alen_cons alen_nil))))
    (cs_cons (cs_expr (ce_call (ok_look_at_switch T) out2_body (hr.mono (by decide)) (ca_cons (ce_var 0) (ca_cons (ce_var 2) ca_nil)) (alen_cons (alen_cons alen_nil))))
    (cs_one (cs_ret (ce_call (ok_ought T) out2_body (hr.mono (by decide)) (ca_cons (ce_var 0) (ca_cons (ce_var 1) (ca_cons (ce_var 2) ca_nil))) (alen_cons (alen_cons (alen_cons alen_nil))))))))) (fun _ _ _ _ _ _ us hl => match us, hl with | [_, _, _], _ => rfl)).pure
theorem ok_wrong_ones (T : Txt K mg) : Glo P w K mg base "wrong_ones" 6 2 [] (pureF C.g_wrong_ones) :=
  (glo_mk (O := []) (Oc := []) (W := []) (U := []) T.d_wrong_ones sc_wrong_ones (fun f cdv A outer s H E P0 hr => (cs_cons (cs_expr (ce_call (ok_look_at_stand T) out2_body (hr.mono (by decide)) (ca_cons (ce_var 0) (ca_cons (ce_var 1) ca_nil)) (alen_cons (alen_cons alen_nil))))
    (cs_one (cs_ret (ce_comp rfl sc_wrong_ones.nd (ci_range1 T.z_range (ca_cons (ce_callB cd_len T.z_len bo_len (ca_cons (ce_var 0) ca_nil)) ca_nil)) (blkOk_by (own := [("k", 2)]) (by kernel_rfl)) (fun P0 s H C cl fp => (cg_name 2 sc_wrong_ones.nd)) (fun s H C cl fp => (cts_one fun P0 => (ct_cmp (od_ne hr.units) (ce_call (ok_ought T) Out2.blk (hr.mono (by decide)) (ca_cons (ce_var 0) (ca_cons (ce_var 1) (ca_cons (ce_var 2) ca_nil))) (alen_cons (alen_cons (alen_cons alen_nil)))) (ce_ix (ce_var 1) (ce_var 2))))) (fun P0 s H C cl fp => (ce_var 2))))))) (fun _ _ _ _ _ _ us hl => match us, hl with | [_, _], _ => rfl)).pure
theorem ok_turned (T : Txt K mg) : Glo P w K mg base "turned" 7 3 [] (pureF C.g_turned) :=
  (glo_mk (O := []) (Oc := []) (W := []) (U := []) T.d_turned sc_turned (fun f cdv A outer s H E P0 hr => (cs_one (cs_ret (ce_call (ok_with_bit T) out2_body (hr.mono (by decide)) (ca_cons (ce_var 1) (ca_cons (ce_var 2) (ca_cons (ce_call (ok_told_by T) out2_body (hr.mono (by decide)) (ca_cons (ce_var 0) (ca_cons (ce_var 1) (ca_cons (ce_var 2) ca_nil))) (alen_cons (alen_cons (alen_cons alen_nil)))) ca_nil))) (alen_cons (alen_cons (alen_cons alen_nil))))))) (fun _ _ _ _ _ _ us hl => match us, hl with | [_, _, _], _ => rfl)).pure
theorem ok_all_turned (T : Txt K mg) : Glo P w K mg base "all_turned" 6 2 [] (pureF C.g_all_turned) :=
  (glo_mk (O := []) (Oc := []) (W := []) (U := []) T.d_all_turned sc_all_turned (fun f cdv A outer s H E P0 hr => (cs_cons (cs_expr (ce_call (ok_look_at_stand T) out2_body (hr.mono (by decide)) (ca_cons (ce_var 0) (ca_cons (ce_var 1) ca_nil)) (alen_cons (alen_cons alen_nil))))
    (cs_one (cs_ret (ce_callT cd_tuple T.z_tuple bo_tuple (ca_cons (ce_comp rfl sc_all_turned.nd (ci_range1 T.z_range (ca_cons (ce_callB cd_len T.z_len bo_len (ca_cons (ce_var 0) ca_nil)) ca_nil)) (blkOk_by (own := [("k", 2)]) (by kernel_rfl)) (fun P0 s H C cl fp => (cg_name 2 sc_all_turned.nd)) (fun s H C cl fp => cts_nil) (fun P0 s H C cl fp => (ce_call (ok_ought T) Out2.blk (hr.mono (by decide)) (ca_cons (ce_var 0) (ca_cons (ce_var 1) (ca_cons (ce_var 2) ca_nil))) (alen_cons (alen_cons (alen_cons alen_nil)))))) ca_nil)))))) (fun _ _ _ _ _ _ us hl => match us, hl with | [_, _], _ => rfl)).pure
theorem ok__law_cell (T : Txt K mg) : Glo P w K mg base "_law_cell" 1 2 [] (pureF C.g__law_cell) :=
  (glo_mk (O := []) (Oc := []) (W := []) (U := []) T.d__law_cell sc__law_cell (fun f cdv A outer s H E P0 hr => (cs_cons (cs_if (ct_cmp od_lt (ce_var 1) (ce_callB cd_len T.z_len bo_len (ca_cons (ce_var 0) ca_nil))) (cs_one (cs_ret (ce_ix (ce_var 0) (ce_var 1)))) cs_nil)
    (cs_one (cs_ret (ce_bin od_add (ce_bin od_mul ce_int (ce_var 1)) ce_int))))) (fun _ _ _ _ _ _ us hl => match us, hl with | [_, _], _ => rfl)).pure
theorem ok__law_mix (T : Txt K mg) : Glo P w K mg base "_law_mix" 1 2 [] (pureF C.g__law_mix) :=
  (glo_mk (O := []) (Oc := []) (W := []) (U := []) T.d__law_mix sc__law_mix (fun f cdv A outer s H E P0 hr => (cs_cons (cs_asg (ce_bin od_add (ce_bin od_mul (ce_bin od_add (ce_var 0) ce_int) ce_int) (ce_bin od_mul ce_int (ce_var 1))) (cg_name 2 sc__law_mix.nd))
    (cs_cons (cs_asg (ce_bin od_add (ce_bin od_mod (ce_bin od_mul (ce_var 2) (ce_var 2)) ce_int) (ce_var 1)) (cg_name 2 sc__law_mix.nd))
    (cs_one (cs_ret (ce_bin od_mod (ce_bin od_mul (ce_var 2) (ce_bin od_add (ce_var 2) ce_int)) ce_int)))))) (fun _ _ _ _ _ _ us hl => match us, hl with | [_, _], _ => rfl)).pure
theorem ok__law_box (T : Txt K mg) : Glo P w K mg base "_law_box" 2 2 [] (pureF C.g__law_box) :=
  (glo_mk (O := []) (Oc := []) (W := []) (U := []) T.d__law_box sc__law_box (fun f cdv A outer s H E P0 hr => (cs_cons (cs_asg (ce_call (ok__law_cell T) out2_body (hr.mono (by decide)) (ca_cons (ce_var 0) (ca_cons (ce_var 1) ca_nil)) (alen_cons (alen_cons alen_nil))) (cg_name 2 sc__law_box.nd))
    (cs_cons (cs_if (ct_cmp (od_eq hr.units) (ce_bin od_mod (ce_var 2) ce_int) ce_int) (cs_one (cs_ret (ce_lst (ca_cons (ce_bin od_fdiv (ce_var 2) ce_int) ca_nil)))) cs_nil)
    (cs_cons (cs_asg ce_int (cg_name 3 sc__law_box.nd))
    (cs_cons (cs_for (U' := []) (vs := [4]) (passes_of rfl) rfl (ci_range1 T.z_range (ca_cons ce_int ca_nil)) (cg_name 4 sc__law_box.nd) (cs_one (cs_asg (ce_bin od_add (ce_bin od_mul (ce_var 3) ce_int) (ce_call (ok__law_mix T) out2_body (hr.mono (by decide)) (ca_cons (ce_var 2) (ca_cons (ce_var 4) ca_nil)) (alen_cons (alen_cons alen_nil)))) (cg_name 3 sc__law_box.nd))))
    (cs_one (cs_ret (ce_lst (ca_cons (ce_var 3) ca_nil))))))))) (fun _ _ _ _ _ _ us hl => match us, hl with | [_, _], _ => rfl)).pure
theorem ok__law_take (T : Txt K mg) : Glo P w K mg base "_law_take" 1 2 [0] C.g__law_take :=
  (glo_mk (O := [0]) (Oc := [0]) (W := []) (U := [0]) T.d__law_take sc__law_take (fun f cdv A outer s H E P0 hr => (cs_cons (cs_asg (ce_callB cd_divmod T.z_divmod bo_divmod (ca_cons (ce_ix (ce_own 0) ce_int) (ca_cons (ce_var 1) ca_nil))) (cg_tup [2, 3] rfl (cgs_cons 2 sc__law_take.nd (cgs_cons 3 sc__law_take.nd cgs_nil))))
    (cs_cons (cs_setix (i := 0) (ce_var 2) ce_int)
    (cs_one (cs_ret (ce_var 3)))))) (fun _ _ _ _ _ _ us hl => match us, hl with | [_, _], _ => rfl))
theorem ok__law_rule (T : Txt K mg) : Glo P w K mg base "_law_rule" 2 2 [0] C.g__law_rule :=
  (glo_mk (O := [0]) (Oc := [0, 7]) (W := [0]) (U := [0]) T.d__law_rule sc__law_rule (fun f cdv A outer s H E P0 hr => (cs_cons (cs_asg (ce_callT cd_tuple T.z_tuple bo_tuple (ca_cons (ce_slice (ce_comp rfl sc__law_rule.nd (ci_range1 T.z_range (ca_cons (ce_var 1) ca_nil)) (blkOk_by (own := [("j", 9)]) (by kernel_rfl)) (fun P0 s H C cl fp => (cg_name 9 sc__law_rule.nd)) (fun s H C cl fp => (cts_one fun P0 => (ct_cmp (od_eq hr.units) (ce_callIO (ok__law_take T) [(0, 0)] Out2.blk (hr.mono (by decide)) (ca_cons (ce_own 0) (ca_cons ce_int ca_nil)) (alen_cons (alen_cons alen_nil))) ce_int))) (fun P0 s H C cl fp => (ce_var 9))) co_none (co_some ce_int)) ca_nil)) (cg_name 2 sc__law_rule.nd))
    (cs_cons (cs_asg (ce_bin od_shl ce_int (ce_callB cd_len T.z_len bo_len (ca_cons (ce_var 2) ca_nil))) (cg_name 3 sc__law_rule.nd))
    (cs_cons (cs_if (ct_cmp od_gt (ce_callIO (ok__law_take T) [(0, 0)] out2_body (hr.mono (by decide)) (ca_cons (ce_own 0) (ca_cons ce_int ca_nil)) (alen_cons (alen_cons alen_nil))) ce_int) (cs_cons (cs_asg (ce_callIO (ok__law_take T) [(0, 0)] out2_body (hr.mono (by decide)) (ca_cons (ce_own 0) (ca_cons (ce_bin od_shl ce_int (ce_var 3)) ca_nil)) (alen_cons (alen_cons alen_nil))) (cg_name 4 sc__law_rule.nd))
    (cs_one (cs_ret (ce_tup (ca_cons (ce_var 2) (ca_cons (ce_callT cd_tuple T.z_tuple bo_tuple (ca_cons (ce_comp rfl sc__law_rule.nd (ci_range1 T.z_range (ca_cons (ce_var 3) ca_nil)) (blkOk_by (own := [("place", 8)]) (by kernel_rfl)) (fun P0 s H C cl fp => (cg_name 8 sc__law_rule.nd)) (fun s H C cl fp => cts_nil) (fun P0 s H C cl fp => (ce_bin od_and (ce_bin od_shr (ce_var 4) (ce_var 8)) ce_int))) ca_nil)) ca_nil)))))) cs_nil)
    (cs_cons (cs_asg (ce_callIO (ok__law_take T) [(0, 0)] out2_body (hr.mono (by decide)) (ca_cons (ce_own 0) (ca_cons (ce_var 3) ca_nil)) (alen_cons (alen_cons alen_nil))) (cg_name 5 sc__law_rule.nd))
    (cs_cons (cs_asg (ce_callIO (ok__law_take T) [(0, 0)] out2_body (hr.mono (by decide)) (ca_cons (ce_own 0) (ca_cons (ce_bin od_add (ce_callB cd_len T.z_len bo_len (ca_cons (ce_var 2) ca_nil)) ce_int) ca_nil)) (alen_cons (alen_cons alen_nil))) (cg_name 6 sc__law_rule.nd))
    (cs_cons (cs_own (i := 7) sc__law_rule.nd (ce_lst ca_nil))
    (cs_cons (cs_for (U' := [0]) (vs := [8]) (passes_of rfl) rfl (ci_range1 T.z_range (ca_cons (ce_var 3) ca_nil)) (cg_name 8 sc__law_rule.nd) (cs_one (cs_append (i := 7) (ce_callT cd_int T.z_int bo_int (ca_cons (ce_cmp od_ge (ce_callB (cd_sum rfl) T.z_sum bo_sum (ca_cons (ce_comp rfl sc__law_rule.nd (ci_range1 T.z_range (ca_cons (ce_callB cd_len T.z_len bo_len (ca_cons (ce_var 2) ca_nil)) ca_nil)) (blkOk_by (own := [("j", 9)]) (by kernel_rfl)) (fun P0 s H C cl fp => (cg_name 9 sc__law_rule.nd)) (fun s H C cl fp => cts_nil) (fun P0 s H C cl fp => (ce_bin od_and (ce_bin od_shr (ce_bin od_xor (ce_var 8) (ce_var 5)) (ce_var 9)) ce_int))) ca_nil)) (ce_var 6)) ca_nil)))))
    (cs_one (cs_ret (ce_tup (ca_cons (ce_var 2) (ca_cons (ce_callT cd_tuple T.z_tuple bo_tuple (ca_cons (ce_own 7) ca_nil)) ca_nil))))))))))))) (fun _ _ _ _ _ _ us hl => match us, hl with | [_, _], _ => rfl))
theorem ok__law_net (T : Txt K mg) : Glo P w K mg base "_law_net" 3 2 [0] C.g__law_net :=
  (glo_mk (O := [0]) (Oc := [0]) (W := [0]) (U := [0]) T.d__law_net sc__law_net (fun f cdv A outer s H E P0 hr => (cs_cons (cs_asg (ce_bin od_add ce_int (ce_callIO (ok__law_take T) [(0, 0)] out2_body (hr.mono (by decide)) (ca_cons (ce_own 0) (ca_cons (ce_var 1) ca_nil)) (alen_cons (alen_cons alen_nil)))) (cg_name 2 sc__law_net.nd))
    (cs_one (cs_ret (ce_callT cd_tuple T.z_tuple bo_tuple (ca_cons (ce_comp rfl sc__law_net.nd (ci_range1 T.z_range (ca_cons (ce_var 2) ca_nil)) (blkOk_by (own := [("k", 3)]) (by kernel_rfl)) (fun P0 s H C cl fp => (cg_name 3 sc__law_net.nd)) (fun s H C cl fp => cts_nil) (fun P0 s H C cl fp => (ce_callIO (ok__law_rule T) [(0, 0)] Out2.blk (hr.mono (by decide)) (ca_cons (ce_own 0) (ca_cons (ce_var 2) ca_nil)) (alen_cons (alen_cons alen_nil))))) ca_nil)))))) (fun _ _ _ _ _ _ us hl => match us, hl with | [_, _], _ => rfl))
theorem ok__law_drawn_stand (T : Txt K mg) : Glo P w K mg base "_law_drawn_stand" 2 2 [0] C.g__law_drawn_stand :=
  (glo_mk (O := [0]) (Oc := [0]) (W := [0]) (U := [0]) T.d__law_drawn_stand sc__law_drawn_stand (fun f cdv A outer s H E P0 hr => (cs_one (cs_ret (ce_callT cd_tuple T.z_tuple bo_tuple (ca_cons (ce_comp rfl sc__law_drawn_stand.nd (ci_range1 T.z_range (ca_cons (ce_var 1) ca_nil)) (blkOk_by (own := [("k", 2)]) (by kernel_rfl)) (fun P0 s H C cl fp => (cg_name 2 sc__law_drawn_stand.nd)) (fun s H C cl fp => cts_nil) (fun P0 s H C cl fp => (ce_callIO (ok__law_take T) [(0, 0)] Out2.blk (hr.mono (by decide)) (ca_cons (ce_own 0) (ca_cons ce_int ca_nil)) (alen_cons (alen_cons alen_nil))))) ca_nil))))) (fun _ _ _ _ _ _ us hl => match us, hl with | [_, _], _ => rfl))
theorem ok__law_whole (T : Txt K mg) : Glo P w K mg base "_law_whole" 1 1 [] (pureF C.g__law_whole) :=
  (glo_mk (O := []) (Oc := []) (W := []) (U := []) T.d__law_whole sc__law_whole (fun f cdv A outer s H E P0 hr => (cs_one (cs_ret (ce_and (ce_isi isk_int T.z_isinstance T.z_int (ce_var 0) bo_isinstance bo_int) (ce_one (ce_not (ce_isi isk_bool T.z_isinstance T.z_bool (ce_var 0) bo_isinstance bo_bool))))))) (fun _ _ _ _ _ _ us hl => match us, hl with | [_], _ => rfl)).pure
theorem ok__law_readings (T : Txt K mg) : Glo P w K mg base "_law_readings" 1 1 [] (pureF C.g__law_readings_2) :=
  (glo_mk (O := []) (Oc := []) (W := []) (U := []) T.d__law_readings sc__law_readings (fun f cdv A outer s H E P0 hr => (cs_cons (cs_asg (ce_lst (ca_cons (ce_tup ca_nil) ca_nil)) (cg_name 1 sc__law_readings.nd))
    (cs_cons (cs_for (U' := []) (vs := [2]) (passes_of rfl) rfl (ci_range1 T.z_range (ca_cons (ce_var 0) ca_nil)) (cg_name 2 sc__law_readings.nd) (cs_one (cs_asg (ce_bin od_add (ce_comp rfl sc__law_readings.nd (ci_any (ce_var 1)) (blkOk_by (own := [("reading", 3)]) (by kernel_rfl)) (fun P0 s H C cl fp => (cg_name 3 sc__law_readings.nd)) (fun s H C cl fp => cts_nil) (fun P0 s H C cl fp => (ce_bin od_add (ce_var 3) (ce_tup (ca_cons ce_int ca_nil))))) (ce_comp rfl sc__law_readings.nd (ci_any (ce_var 1)) (blkOk_by (own := [("reading", 3)]) (by kernel_rfl)) (fun P0 s H C cl fp => (cg_name 3 sc__law_readings.nd)) (fun s H C cl fp => cts_nil) (fun P0 s H C cl fp => (ce_bin od_add (ce_var 3) (ce_tup (ca_cons ce_int ca_nil)))))) (cg_name 1 sc__law_readings.nd))))
    (cs_one (cs_ret (ce_callB cd_sort T.z_sorted bo_sorted (ca_cons (ce_var 1) ca_nil))))))) (fun _ _ _ _ _ _ us hl => match us, hl with | [_], _ => rfl)).pure
theorem ok__law_due (T : Txt K mg) : Glo P w K mg base "_law_due" 2 3 [] (pureF C.g__law_due_5) :=
  (glo_mk (O := []) (Oc := []) (W := []) (U := []) T.d__law_due sc__law_due (fun f cdv A outer s H E P0 hr => (cs_cons (cs_asg (ce_ix (ce_var 0) (ce_var 2)) (cg_tup [3, 4] rfl (cgs_cons 3 sc__law_due.nd (cgs_cons 4 sc__law_due.nd cgs_nil))))
    (cs_one (cs_ret (ce_dget (Nat.lt_of_le_of_lt (Nat.add_le_add_left (by decide) _) hr.units65) (ce_dictZip hr.units rfl T.z_dict T.z_zip (ca_cons (ce_call (ok__law_readings T) out2_body (hr.mono (by decide)) (ca_cons (ce_callB cd_len T.z_len bo_len (ca_cons (ce_var 3) ca_nil)) ca_nil) (alen_cons alen_nil)) (ca_cons (ce_var 4) ca_nil))) (ce_callT cd_tuple T.z_tuple bo_tuple (ca_cons (ce_comp rfl sc__law_due.nd (ci_any (ce_var 3)) (blkOk_by (own := [("ear", 5)]) (by kernel_rfl)) (fun P0 s H C cl fp => (cg_name 5 sc__law_due.nd)) (fun s H C cl fp => cts_nil) (fun P0 s H C cl fp => (ce_ix (ce_var 1) (ce_var 5)))) ca_nil))))))) (fun _ _ _ _ _ _ us hl => match us, hl with | [_, _, _], _ => rfl)).pure
theorem ok__law_right (T : Txt K mg) : Glo P w K mg base "_law_right" 8 2 [] (pureF C.g__law_right_5) :=
  (glo_mk (O := []) (Oc := [7]) (W := []) (U := []) T.d__law_right sc__law_right (fun f cdv A outer s H E P0 hr => (cs_cons (cs_asg (ce_comp rfl sc__law_right.nd (ci_range1 T.z_range (ca_cons (ce_callB cd_len T.z_len bo_len (ca_cons (ce_var 0) ca_nil)) ca_nil)) (blkOk_by (own := [("k", 4)]) (by kernel_rfl)) (fun P0 s H C cl fp => (cg_name 4 sc__law_right.nd)) (fun s H C cl fp => cts_nil) (fun P0 s H C cl fp => (ce_call (ok__law_due T) Out2.blk (hr.mono (by decide)) (ca_cons (ce_var 0) (ca_cons (ce_var 1) (ca_cons (ce_var 4) ca_nil))) (alen_cons (alen_cons (alen_cons alen_nil)))))) (cg_name 2 sc__law_right.nd))
    (cs_cons (cs_asgLc (i := 3) rfl sc__law_right.nd rfl rfl (sw_true rfl rfl rfl (by decide +kernel)) (ci_range1 T.z_range (ca_cons (ce_callB cd_len T.z_len bo_len (ca_cons (ce_var 0) ca_nil)) ca_nil)) (blkOk_by (own := [("k", 4)]) (by kernel_rfl)) (fun P0 s H C cl fp => (cg_name 4 sc__law_right.nd)) (fun s H C cl fp => (cts_one fun P0 => (ct_cmp (od_ne hr.units) (ce_ix (ce_var 2) (ce_var 4)) (ce_ix (ce_var 1) (ce_var 4))))) (fun P0 s H C cl fp => (ce_var 4)))
    (cs_cons (cs_for (U' := []) (vs := [4, 5]) (passes_of rfl) rfl (ci_range1 T.z_range (ca_cons (ce_callB cd_len T.z_len bo_len (ca_cons (ce_var 0) ca_nil)) ca_nil)) (cg_name 4 sc__law_right.nd) (cs_cons (cs_asg (ce_call (ok_told_by T) out2_body (hr.mono (by decide)) (ca_cons (ce_var 0) (ca_cons (ce_var 1) (ca_cons (ce_var 4) ca_nil))) (alen_cons (alen_cons (alen_cons alen_nil)))) (cg_name 5 sc__law_right.nd))
    (cs_one (cs_if (ct_w (cw_or (ct_not (ct_val (ce_call (ok__law_whole T) out2_body (hr.mono (by decide)) (ca_cons (ce_var 5) ca_nil) (alen_cons alen_nil)))) (cw_or (ct_cmp (od_ne hr.units) (ce_var 5) (ce_ix (ce_var 2) (ce_var 4))) (cw_or1 (ct_cmp (od_ne hr.units) (ce_call (ok_turned T) out2_body (hr.mono (by decide)) (ca_cons (ce_var 0) (ca_cons (ce_var 1) (ca_cons (ce_var 4) ca_nil))) (alen_cons (alen_cons (alen_cons alen_nil)))) (ce_bin od_add (ce_bin od_add (ce_slice (ce_var 1) co_none (co_some (ce_var 4))) (ce_tup (ca_cons (ce_ix (ce_var 2) (ce_var 4)) ca_nil))) (ce_slice (ce_var 1) (co_some (ce_bin od_add (ce_var 4) ce_int)) co_none))))))) (cs_one (cs_ret ce_bl)) cs_nil))))
    (cs_cons (cs_for (U' := []) (vs := [6, 7]) (passes_of rfl) rfl (ci_range1 T.z_range (ca_cons ce_int ca_nil)) (cg_name 6 sc__law_right.nd) (cs_cons (cs_own (i := 7) sc__law_right.nd (ce_call (ok_wrong_ones T) out2_body (hr.mono (by decide)) (ca_cons (ce_var 0) (ca_cons (ce_var 1) ca_nil)) (alen_cons (alen_cons alen_nil))))
    (cs_cons (cs_if (ct_w (cw_or (ct_not (ct_val (ce_isi isk_list T.z_isinstance T.z_list (ce_own 7) bo_isinstance bo_list))) (cw_or1 (ct_cmp (od_ne hr.units) (ce_own 7) (ce_var 3))))) (cs_one (cs_ret ce_bl)) cs_nil)
    (cs_one (cs_append (i := 7) ce_int)))))
    (cs_one (cs_ret (ce_cmp (od_eq hr.units) (ce_call (ok_all_turned T) out2_body (hr.mono (by decide)) (ca_cons (ce_var 0) (ca_cons (ce_var 1) ca_nil)) (alen_cons (alen_cons alen_nil))) (ce_callT cd_tuple T.z_tuple bo_tuple (ca_cons (ce_var 2) ca_nil)))))))))) (fun _ _ _ _ _ _ us hl => match us, hl with | [_, _], _ => rfl)).pure
theorem ok_law (T : Txt K mg) {f : Addr} {fd : FuncData} (F : Fun K "law" "law" s_law f fd) : FnOk P w K mg base (L2N.CX P w) 9 f fd ["script"] (spD K mg 1 [] (pureF C.g_law_k03)) :=
  law_fn (Oc := [2]) (W := [2]) F sc_law (fun f cdv A outer s H E P0 hr => (cs_cons (cs_for (U' := []) (vs := [1, 2, 3, 4]) (passes_of rfl) rfl (ci_range1 T.z_range (ca_cons (ce_callB (cd_max rfl) T.z_max bo_max (ca_cons ce_int (ca_cons (ce_callB (cd_min rfl) T.z_min bo_min (ca_cons (ce_callB cd_len T.z_len bo_len (ca_cons (ce_var 0) ca_nil)) (ca_cons ce_int ca_nil))) ca_nil))) ca_nil)) (cg_name 1 sc_law.nd) (cs_cons (cs_own (i := 2) sc_law.nd (ce_call (ok__law_box T) out2_body (hr.mono (by decide)) (ca_cons (ce_var 0) (ca_cons (ce_var 1) ca_nil)) (alen_cons (alen_cons alen_nil))))
    (cs_cons (cs_asg (ce_callIO (ok__law_net T) [(0, 2)] out2_body (hr.mono (by decide)) (ca_cons (ce_own 2) (ca_cons ce_int ca_nil)) (alen_cons (alen_cons alen_nil))) (cg_name 3 sc_law.nd))
    (cs_one (cs_for (U' := []) (vs := [4]) (passes_of rfl) rfl (ci_range1 T.z_range (ca_cons ce_int ca_nil)) (cg_name 4 sc_law.nd) (cs_one (cs_if (ct_not (ct_val (ce_call (ok__law_right T) out2_body (hr.mono (by decide)) (ca_cons (ce_var 3) (ca_cons (ce_callIO (ok__law_drawn_stand T) [(0, 2)] out2_body (hr.mono (by decide)) (ca_cons (ce_own 2) (ca_cons (ce_callB cd_len T.z_len bo_len (ca_cons (ce_var 3) ca_nil)) ca_nil)) (alen_cons (alen_cons alen_nil))) ca_nil)) (alen_cons (alen_cons alen_nil))))) (cs_one (cs_ret ce_bl)) cs_nil)))))))
    (cs_one (cs_ret ce_bl))))
end
end K03

namespace K03
theorem good_law : Y.Good C.g_law_k03 63 := H.good_k03
end K03

namespace K03
open PySem PySem.Spec PyProof.Rows L2 Y
theorem all {l : PySem.W.OpenLaw} {w : World} {K : PySem.W.Frag} {h : Heap} {mg : Str → Option Value} {fa : Addr} (X : K.In h) (G : h.Ns mainGlobals mg) (hfa : mg "law" = some (.ref fa)) (hg : Good C.g_law_k03 63)
{f0 : Addr} {od0 an0 : Option Addr} {sl0 : Array (Option Value)} {oc0 kV0 dc0 pm0 cd0 ct0 : Value}
    (a0 : PySem.W.nsIn K mainGlobals "is_whole" = some (some (.ref f0))) (l0 : K.lookup f0 = some ⟨oc0, od0, .func (PySem.W.fnOf "is_whole" "is_whole" (defArgs s_is_whole) (defBody s_is_whole) (defScope s_is_whole) .none kV0 dc0 pm0 an0 cd0 ct0), sl0⟩) (c0 : PySem.W.codeIn K cd0 "is_whole" = true) (k0 : PySem.W.keepIn K (.ref f0) = true)
{f1 : Addr} {od1 an1 : Option Addr} {sl1 : Array (Option Value)} {oc1 kV1 dc1 pm1 cd1 ct1 : Value}
    (a1 : PySem.W.nsIn K mainGlobals "is_upto" = some (some (.ref f1))) (l1 : K.lookup f1 = some ⟨oc1, od1, .func (PySem.W.fnOf "is_upto" "is_upto" (defArgs s_is_upto) (defBody s_is_upto) (defScope s_is_upto) .none kV1 dc1 pm1 an1 cd1 ct1), sl1⟩) (c1 : PySem.W.codeIn K cd1 "is_upto" = true) (k1 : PySem.W.keepIn K (.ref f1) = true)
{f2 : Addr} {od2 an2 : Option Addr} {sl2 : Array (Option Value)} {oc2 kV2 dc2 pm2 cd2 ct2 : Value}
    (a2 : PySem.W.nsIn K mainGlobals "are_bits" = some (some (.ref f2))) (l2 : K.lookup f2 = some ⟨oc2, od2, .func (PySem.W.fnOf "are_bits" "are_bits" (defArgs s_are_bits) (defBody s_are_bits) (defScope s_are_bits) .none kV2 dc2 pm2 an2 cd2 ct2), sl2⟩) (c2 : PySem.W.codeIn K cd2 "are_bits" = true) (k2 : PySem.W.keepIn K (.ref f2) = true)
{f3 : Addr} {od3 an3 : Option Addr} {sl3 : Array (Option Value)} {oc3 kV3 dc3 pm3 cd3 ct3 : Value}
    (a3 : PySem.W.nsIn K mainGlobals "is_stand" = some (some (.ref f3))) (l3 : K.lookup f3 = some ⟨oc3, od3, .func (PySem.W.fnOf "is_stand" "is_stand" (defArgs s_is_stand) (defBody s_is_stand) (defScope s_is_stand) .none kV3 dc3 pm3 an3 cd3 ct3), sl3⟩) (c3 : PySem.W.codeIn K cd3 "is_stand" = true) (k3 : PySem.W.keepIn K (.ref f3) = true)
{f4 : Addr} {od4 an4 : Option Addr} {sl4 : Array (Option Value)} {oc4 kV4 dc4 pm4 cd4 ct4 : Value}
    (a4 : PySem.W.nsIn K mainGlobals "look_at_stand" = some (some (.ref f4))) (l4 : K.lookup f4 = some ⟨oc4, od4, .func (PySem.W.fnOf "look_at_stand" "look_at_stand" (defArgs s_look_at_stand) (defBody s_look_at_stand) (defScope s_look_at_stand) .none kV4 dc4 pm4 an4 cd4 ct4), sl4⟩) (c4 : PySem.W.codeIn K cd4 "look_at_stand" = true) (k4 : PySem.W.keepIn K (.ref f4) = true)
{f5 : Addr} {od5 an5 : Option Addr} {sl5 : Array (Option Value)} {oc5 kV5 dc5 pm5 cd5 ct5 : Value}
    (a5 : PySem.W.nsIn K mainGlobals "look_at_switch" = some (some (.ref f5))) (l5 : K.lookup f5 = some ⟨oc5, od5, .func (PySem.W.fnOf "look_at_switch" "look_at_switch" (defArgs s_look_at_switch) (defBody s_look_at_switch) (defScope s_look_at_switch) .none kV5 dc5 pm5 an5 cd5 ct5), sl5⟩) (c5 : PySem.W.codeIn K cd5 "look_at_switch" = true) (k5 : PySem.W.keepIn K (.ref f5) = true)
{f6 : Addr} {od6 an6 : Option Addr} {sl6 : Array (Option Value)} {oc6 kV6 dc6 pm6 cd6 ct6 : Value}
    (a6 : PySem.W.nsIn K mainGlobals "place_of" = some (some (.ref f6))) (l6 : K.lookup f6 = some ⟨oc6, od6, .func (PySem.W.fnOf "place_of" "place_of" (defArgs s_place_of) (defBody s_place_of) (defScope s_place_of) .none kV6 dc6 pm6 an6 cd6 ct6), sl6⟩) (c6 : PySem.W.codeIn K cd6 "place_of" = true) (k6 : PySem.W.keepIn K (.ref f6) = true)
{f7 : Addr} {od7 an7 : Option Addr} {sl7 : Array (Option Value)} {oc7 kV7 dc7 pm7 cd7 ct7 : Value}
    (a7 : PySem.W.nsIn K mainGlobals "ought" = some (some (.ref f7))) (l7 : K.lookup f7 = some ⟨oc7, od7, .func (PySem.W.fnOf "ought" "ought" (defArgs s_ought) (defBody s_ought) (defScope s_ought) .none kV7 dc7 pm7 an7 cd7 ct7), sl7⟩) (c7 : PySem.W.codeIn K cd7 "ought" = true) (k7 : PySem.W.keepIn K (.ref f7) = true)
{f8 : Addr} {od8 an8 : Option Addr} {sl8 : Array (Option Value)} {oc8 kV8 dc8 pm8 cd8 ct8 : Value}
    (a8 : PySem.W.nsIn K mainGlobals "with_bit" = some (some (.ref f8))) (l8 : K.lookup f8 = some ⟨oc8, od8, .func (PySem.W.fnOf "with_bit" "with_bit" (defArgs s_with_bit) (defBody s_with_bit) (defScope s_with_bit) .none kV8 dc8 pm8 an8 cd8 ct8), sl8⟩) (c8 : PySem.W.codeIn K cd8 "with_bit" = true) (k8 : PySem.W.keepIn K (.ref f8) = true)
{f9 : Addr} {od9 an9 : Option Addr} {sl9 : Array (Option Value)} {oc9 kV9 dc9 pm9 cd9 ct9 : Value}
    (a9 : PySem.W.nsIn K mainGlobals "told_by" = some (some (.ref f9))) (l9 : K.lookup f9 = some ⟨oc9, od9, .func (PySem.W.fnOf "told_by" "told_by" (defArgs s_told_by) (defBody s_told_by) (defScope s_told_by) .none kV9 dc9 pm9 an9 cd9 ct9), sl9⟩) (c9 : PySem.W.codeIn K cd9 "told_by" = true) (k9 : PySem.W.keepIn K (.ref f9) = true)
{f10 : Addr} {od10 an10 : Option Addr} {sl10 : Array (Option Value)} {oc10 kV10 dc10 pm10 cd10 ct10 : Value}
    (a10 : PySem.W.nsIn K mainGlobals "wrong_ones" = some (some (.ref f10))) (l10 : K.lookup f10 = some ⟨oc10, od10, .func (PySem.W.fnOf "wrong_ones" "wrong_ones" (defArgs s_wrong_ones) (defBody s_wrong_ones) (defScope s_wrong_ones) .none kV10 dc10 pm10 an10 cd10 ct10), sl10⟩) (c10 : PySem.W.codeIn K cd10 "wrong_ones" = true) (k10 : PySem.W.keepIn K (.ref f10) = true)
{f11 : Addr} {od11 an11 : Option Addr} {sl11 : Array (Option Value)} {oc11 kV11 dc11 pm11 cd11 ct11 : Value}
    (a11 : PySem.W.nsIn K mainGlobals "turned" = some (some (.ref f11))) (l11 : K.lookup f11 = some ⟨oc11, od11, .func (PySem.W.fnOf "turned" "turned" (defArgs s_turned) (defBody s_turned) (defScope s_turned) .none kV11 dc11 pm11 an11 cd11 ct11), sl11⟩) (c11 : PySem.W.codeIn K cd11 "turned" = true) (k11 : PySem.W.keepIn K (.ref f11) = true)
{f12 : Addr} {od12 an12 : Option Addr} {sl12 : Array (Option Value)} {oc12 kV12 dc12 pm12 cd12 ct12 : Value}
    (a12 : PySem.W.nsIn K mainGlobals "all_turned" = some (some (.ref f12))) (l12 : K.lookup f12 = some ⟨oc12, od12, .func (PySem.W.fnOf "all_turned" "all_turned" (defArgs s_all_turned) (defBody s_all_turned) (defScope s_all_turned) .none kV12 dc12 pm12 an12 cd12 ct12), sl12⟩) (c12 : PySem.W.codeIn K cd12 "all_turned" = true) (k12 : PySem.W.keepIn K (.ref f12) = true)
{f13 : Addr} {od13 an13 : Option Addr} {sl13 : Array (Option Value)} {oc13 kV13 dc13 pm13 cd13 ct13 : Value}
    (a13 : PySem.W.nsIn K mainGlobals "_law_cell" = some (some (.ref f13))) (l13 : K.lookup f13 = some ⟨oc13, od13, .func (PySem.W.fnOf "_law_cell" "_law_cell" (defArgs s__law_cell) (defBody s__law_cell) (defScope s__law_cell) .none kV13 dc13 pm13 an13 cd13 ct13), sl13⟩) (c13 : PySem.W.codeIn K cd13 "_law_cell" = true) (k13 : PySem.W.keepIn K (.ref f13) = true)
{f14 : Addr} {od14 an14 : Option Addr} {sl14 : Array (Option Value)} {oc14 kV14 dc14 pm14 cd14 ct14 : Value}
    (a14 : PySem.W.nsIn K mainGlobals "_law_mix" = some (some (.ref f14))) (l14 : K.lookup f14 = some ⟨oc14, od14, .func (PySem.W.fnOf "_law_mix" "_law_mix" (defArgs s__law_mix) (defBody s__law_mix) (defScope s__law_mix) .none kV14 dc14 pm14 an14 cd14 ct14), sl14⟩) (c14 : PySem.W.codeIn K cd14 "_law_mix" = true) (k14 : PySem.W.keepIn K (.ref f14) = true)
{f15 : Addr} {od15 an15 : Option Addr} {sl15 : Array (Option Value)} {oc15 kV15 dc15 pm15 cd15 ct15 : Value}
    (a15 : PySem.W.nsIn K mainGlobals "_law_box" = some (some (.ref f15))) (l15 : K.lookup f15 = some ⟨oc15, od15, .func (PySem.W.fnOf "_law_box" "_law_box" (defArgs s__law_box) (defBody s__law_box) (defScope s__law_box) .none kV15 dc15 pm15 an15 cd15 ct15), sl15⟩) (c15 : PySem.W.codeIn K cd15 "_law_box" = true) (k15 : PySem.W.keepIn K (.ref f15) = true)
{f16 : Addr} {od16 an16 : Option Addr} {sl16 : Array (Option Value)} {oc16 kV16 dc16 pm16 cd16 ct16 : Value}
    (a16 : PySem.W.nsIn K mainGlobals "_law_take" = some (some (.ref f16))) (l16 : K.lookup f16 = some ⟨oc16, od16, .func (PySem.W.fnOf "_law_take" "_law_take" (defArgs s__law_take) (defBody s__law_take) (defScope s__law_take) .none kV16 dc16 pm16 an16 cd16 ct16), sl16⟩) (c16 : PySem.W.codeIn K cd16 "_law_take" = true) (k16 : PySem.W.keepIn K (.ref f16) = true)
{f17 : Addr} {od17 an17 : Option Addr} {sl17 : Array (Option Value)} {oc17 kV17 dc17 pm17 cd17 ct17 : Value}
    (a17 : PySem.W.nsIn K mainGlobals "_law_rule" = some (some (.ref f17))) (l17 : K.lookup f17 = some ⟨oc17, od17, .func (PySem.W.fnOf "_law_rule" "_law_rule" (defArgs s__law_rule) (defBody s__law_rule) (defScope s__law_rule) .none kV17 dc17 pm17 an17 cd17 ct17), sl17⟩) (c17 : PySem.W.codeIn K cd17 "_law_rule" = true) (k17 : PySem.W.keepIn K (.ref f17) = true)
{f18 : Addr} {od18 an18 : Option Addr} {sl18 : Array (Option Value)} {oc18 kV18 dc18 pm18 cd18 ct18 : Value}
    (a18 : PySem.W.nsIn K mainGlobals "_law_net" = some (some (.ref f18))) (l18 : K.lookup f18 = some ⟨oc18, od18, .func (PySem.W.fnOf "_law_net" "_law_net" (defArgs s__law_net) (defBody s__law_net) (defScope s__law_net) .none kV18 dc18 pm18 an18 cd18 ct18), sl18⟩) (c18 : PySem.W.codeIn K cd18 "_law_net" = true) (k18 : PySem.W.keepIn K (.ref f18) = true)
{f19 : Addr} {od19 an19 : Option Addr} {sl19 : Array (Option Value)} {oc19 kV19 dc19 pm19 cd19 ct19 : Value}
    (a19 : PySem.W.nsIn K mainGlobals "_law_drawn_stand" = some (some (.ref f19))) (l19 : K.lookup f19 = some ⟨oc19, od19, .func (PySem.W.fnOf "_law_drawn_stand" "_law_drawn_stand" (defArgs s__law_drawn_stand) (defBody s__law_drawn_stand) (defScope s__law_drawn_stand) .none kV19 dc19 pm19 an19 cd19 ct19), sl19⟩) (c19 : PySem.W.codeIn K cd19 "_law_drawn_stand" = true) (k19 : PySem.W.keepIn K (.ref f19) = true)
{f20 : Addr} {od20 an20 : Option Addr} {sl20 : Array (Option Value)} {oc20 kV20 dc20 pm20 cd20 ct20 : Value}
    (a20 : PySem.W.nsIn K mainGlobals "_law_whole" = some (some (.ref f20))) (l20 : K.lookup f20 = some ⟨oc20, od20, .func (PySem.W.fnOf "_law_whole" "_law_whole" (defArgs s__law_whole) (defBody s__law_whole) (defScope s__law_whole) .none kV20 dc20 pm20 an20 cd20 ct20), sl20⟩) (c20 : PySem.W.codeIn K cd20 "_law_whole" = true) (k20 : PySem.W.keepIn K (.ref f20) = true)
{f21 : Addr} {od21 an21 : Option Addr} {sl21 : Array (Option Value)} {oc21 kV21 dc21 pm21 cd21 ct21 : Value}
    (a21 : PySem.W.nsIn K mainGlobals "_law_readings" = some (some (.ref f21))) (l21 : K.lookup f21 = some ⟨oc21, od21, .func (PySem.W.fnOf "_law_readings" "_law_readings" (defArgs s__law_readings) (defBody s__law_readings) (defScope s__law_readings) .none kV21 dc21 pm21 an21 cd21 ct21), sl21⟩) (c21 : PySem.W.codeIn K cd21 "_law_readings" = true) (k21 : PySem.W.keepIn K (.ref f21) = true)
{f22 : Addr} {od22 an22 : Option Addr} {sl22 : Array (Option Value)} {oc22 kV22 dc22 pm22 cd22 ct22 : Value}
    (a22 : PySem.W.nsIn K mainGlobals "_law_due" = some (some (.ref f22))) (l22 : K.lookup f22 = some ⟨oc22, od22, .func (PySem.W.fnOf "_law_due" "_law_due" (defArgs s__law_due) (defBody s__law_due) (defScope s__law_due) .none kV22 dc22 pm22 an22 cd22 ct22), sl22⟩) (c22 : PySem.W.codeIn K cd22 "_law_due" = true) (k22 : PySem.W.keepIn K (.ref f22) = true)
{f23 : Addr} {od23 an23 : Option Addr} {sl23 : Array (Option Value)} {oc23 kV23 dc23 pm23 cd23 ct23 : Value}
    (a23 : PySem.W.nsIn K mainGlobals "_law_right" = some (some (.ref f23))) (l23 : K.lookup f23 = some ⟨oc23, od23, .func (PySem.W.fnOf "_law_right" "_law_right" (defArgs s__law_right) (defBody s__law_right) (defScope s__law_right) .none kV23 dc23 pm23 an23 cd23 ct23), sl23⟩) (c23 : PySem.W.codeIn K cd23 "_law_right" = true) (k23 : PySem.W.keepIn K (.ref f23) = true)
{f24 : Addr} {od24 an24 : Option Addr} {sl24 : Array (Option Value)} {oc24 kV24 dc24 pm24 cd24 ct24 : Value}
    (a24 : PySem.W.nsIn K mainGlobals "law" = some (some (.ref f24))) (l24 : K.lookup f24 = some ⟨oc24, od24, .func (PySem.W.fnOf "law" "law" (defArgs s_law) (defBody s_law) (defScope s_law) .none kV24 dc24 pm24 an24 cd24 ct24), sl24⟩) (c24 : PySem.W.codeIn K cd24 "law" = true) (k24 : PySem.W.keepIn K (.ref f24) = true)
    {C0 : Addr} (x0 : PySem.W.nsIn K mainGlobals "NoStand" = some (some (.ref C0))) (xe0 : PySem.W.excIn K C0 Y.veB "ValueError.__new__" = true) (xk0 : PySem.W.keepIn K (.ref C0) = true) (xb0 : PySem.W.subIn K (.ref C0) (.type "BaseException") = some true) (xt0 : PySem.W.typeIn K (.ref C0) = some (.type "type"))
    {C1 : Addr} (x1 : PySem.W.nsIn K mainGlobals "NoSwitch" = some (some (.ref C1))) (xe1 : PySem.W.excIn K C1 Y.veB "ValueError.__new__" = true) (xk1 : PySem.W.keepIn K (.ref C1) = true) (xb1 : PySem.W.subIn K (.ref C1) (.type "BaseException") = some true) (xt1 : PySem.W.typeIn K (.ref C1) = some (.type "type"))
    (z0 : PySem.W.nsIn K mainGlobals "all" = some none)
    (z1 : PySem.W.nsIn K mainGlobals "bool" = some none)
    (z2 : PySem.W.nsIn K mainGlobals "dict" = some none)
    (z3 : PySem.W.nsIn K mainGlobals "divmod" = some none)
    (z4 : PySem.W.nsIn K mainGlobals "int" = some none)
    (z5 : PySem.W.nsIn K mainGlobals "isinstance" = some none)
    (z6 : PySem.W.nsIn K mainGlobals "len" = some none)
    (z7 : PySem.W.nsIn K mainGlobals "list" = some none)
    (z8 : PySem.W.nsIn K mainGlobals "max" = some none)
    (z9 : PySem.W.nsIn K mainGlobals "min" = some none)
    (z10 : PySem.W.nsIn K mainGlobals "range" = some none)
    (z11 : PySem.W.nsIn K mainGlobals "sorted" = some none)
    (z12 : PySem.W.nsIn K mainGlobals "sum" = some none)
    (z13 : PySem.W.nsIn K mainGlobals "tuple" = some none)
    (z14 : PySem.W.nsIn K mainGlobals "zip" = some none)
    : ∃ fd : FuncData, (∀ (s : Shared) (u : Value), BindsTo s fd ⟨[u], []⟩ [("script", u)]) ∧ ∀ base : Heap, K.In base → base.Ns mainGlobals mg → FnOk l.prog w K mg base (L2N.CX l.prog w) 9 fa fd ["script"] (spL K 63) :=
  have T : Txt K mg := ⟨def_mk X G a0 l0 c0 k0, def_mk X G a1 l1 c1 k1, def_mk X G a2 l2 c2 k2, def_mk X G a3 l3 c3 k3, def_mk X G a4 l4 c4 k4, def_mk X G a5 l5 c5 k5, def_mk X G a6 l6 c6 k6, def_mk X G a7 l7 c7 k7, def_mk X G a8 l8 c8 k8, def_mk X G a9 l9 c9 k9, def_mk X G a10 l10 c10 k10, def_mk X G a11 l11 c11 k11, def_mk X G a12 l12 c12 k12, def_mk X G a13 l13 c13 k13, def_mk X G a14 l14 c14 k14, def_mk X G a15 l15 c15 k15, def_mk X G a16 l16 c16 k16, def_mk X G a17 l17 c17 k17, def_mk X G a18 l18 c18 k18, def_mk X G a19 l19 c19 k19, def_mk X G a20 l20 c20 k20, def_mk X G a21 l21 c21 k21, def_mk X G a22 l22 c22 k22, def_mk X G a23 l23 c23 k23, ⟨⟨_, PySem.W.mg_of X G x0, xe0, xk0, xb0, xt0⟩⟩, ⟨⟨_, PySem.W.mg_of X G x1, xe1, xk1, xb1, xt1⟩⟩, PySem.W.mg_none_of X G z0, PySem.W.mg_none_of X G z1, PySem.W.mg_none_of X G z2, PySem.W.mg_none_of X G z3, PySem.W.mg_none_of X G z4, PySem.W.mg_none_of X G z5, PySem.W.mg_none_of X G z6, PySem.W.mg_none_of X G z7, PySem.W.mg_none_of X G z8, PySem.W.mg_none_of X G z9, PySem.W.mg_none_of X G z10, PySem.W.mg_none_of X G z11, PySem.W.mg_none_of X G z12, PySem.W.mg_none_of X G z13, PySem.W.mg_none_of X G z14⟩
  law_all X G hfa hg (fun base {f} {fd} F => ok_law T F) (fun _ _ _ _ _ _ s u => .of_eq rfl) a24 l24 c24 k24
end K03
open PySem PySem.W PyProof.Rows
set_option maxHeartbeats 0 in
theorem PySem.Challenge.cw_switchnets_k03_what_rules_tell_holds : PySem.Challenge.rw_switchnets_k03_what_rules_tell.Holds := by
  w_on; o_law; k_head; (case hw => w_witness2)
  k_fill
  refine L2.walk_ofB (l := PySem.Challenge.rw_switchnets_k03_what_rules_tell) (n := 63) (k := 9) (x := "script") (CX := fun w => L2N.CX PySem.Challenge.rw_switchnets_k03_what_rules_tell.prog w) (sp := fun w => Y.spL _ 63) rfl (by decide) rfl ⟨rfl, by decide, by decide⟩ (fun w h Z => PySem.W.kIn_of Z) ?F (fun _ _ a ns hl hb _ hS => ⟨a, ns, rfl, hS, hl, hb, fun _ => rfl⟩) (fun _ _ _ _ _ h => Y.cx_none h)
  case F =>
    intro w mg fa h KX G hmg
    refine' K03.all KX G hmg K03.good_law ?a0 ?l0 ?c0 ?k0 ?a1 ?l1 ?c1 ?k1 ?a2 ?l2 ?c2 ?k2 ?a3 ?l3 ?c3 ?k3 ?a4 ?l4 ?c4 ?k4 ?a5 ?l5 ?c5 ?k5 ?a6 ?l6 ?c6 ?k6 ?a7 ?l7 ?c7 ?k7 ?a8 ?l8 ?c8 ?k8 ?a9 ?l9 ?c9 ?k9 ?a10 ?l10 ?c10 ?k10 ?a11 ?l11 ?c11 ?k11 ?a12 ?l12 ?c12 ?k12 ?a13 ?l13 ?c13 ?k13 ?a14 ?l14 ?c14 ?k14 ?a15 ?l15 ?c15 ?k15 ?a16 ?l16 ?c16 ?k16 ?a17 ?l17 ?c17 ?k17 ?a18 ?l18 ?c18 ?k18 ?a19 ?l19 ?c19 ?k19 ?a20 ?l20 ?c20 ?k20 ?a21 ?l21 ?c21 ?k21 ?a22 ?l22 ?c22 ?k22 ?a23 ?l23 ?c23 ?k23 ?a24 ?l24 ?c24 ?k24 ?x0 ?xe0 ?xk0 ?xb0 ?xt0 ?x1 ?xe1 ?xk1 ?xb1 ?xt1 ?z0 ?z1 ?z2 ?z3 ?z4 ?z5 ?z6 ?z7 ?z8 ?z9 ?z10 ?z11 ?z12 ?z13 ?z14
    (case a0 => k_is); (case l0 => k_is); (case c0 => k_is); (case k0 => k_is); (case a1 => k_is); (case l1 => k_is); (case c1 => k_is); (case k1 => k_is); (case a2 => k_is); (case l2 => k_is); (case c2 => k_is); (case k2 => k_is); (case a3 => k_is); (case l3 => k_is); (case c3 => k_is); (case k3 => k_is); (case a4 => k_is); (case l4 => k_is); (case c4 => k_is); (case k4 => k_is); (case a5 => k_is); (case l5 => k_is); (case c5 => k_is); (case k5 => k_is); (case a6 => k_is); (case l6 => k_is); (case c6 => k_is); (case k6 => k_is); (case a7 => k_is); (case l7 => k_is); (case c7 => k_is); (case k7 => k_is); (case a8 => k_is); (case l8 => k_is); (case c8 => k_is); (case k8 => k_is); (case a9 => k_is); (case l9 => k_is); (case c9 => k_is); (case k9 => k_is); (case a10 => k_is); (case l10 => k_is); (case c10 => k_is); (case k10 => k_is); (case a11 => k_is); (case l11 => k_is); (case c11 => k_is); (case k11 => k_is); (case a12 => k_is); (case l12 => k_is); (case c12 => k_is); (case k12 => k_is); (case a13 => k_is); (case l13 => k_is); (case c13 => k_is); (case k13 => k_is); (case a14 => k_is); (case l14 => k_is); (case c14 => k_is); (case k14 => k_is); (case a15 => k_is); (case l15 => k_is); (case c15 => k_is); (case k15 => k_is); (case a16 => k_is); (case l16 => k_is); (case c16 => k_is); (case k16 => k_is); (case a17 => k_is); (case l17 => k_is); (case c17 => k_is); (case k17 => k_is); (case a18 => k_is); (case l18 => k_is); (case c18 => k_is); (case k18 => k_is); (case a19 => k_is); (case l19 => k_is); (case c19 => k_is); (case k19 => k_is); (case a20 => k_is); (case l20 => k_is); (case c20 => k_is); (case k20 => k_is); (case a21 => k_is); (case l21 => k_is); (case c21 => k_is); (case k21 => k_is); (case a22 => k_is); (case l22 => k_is); (case c22 => k_is); (case k22 => k_is); (case a23 => k_is); (case l23 => k_is); (case c23 => k_is); (case k23 => k_is); (case a24 => k_is); (case l24 => k_is); (case c24 => k_is); (case k24 => k_is); (case x0 => k_is); (case xe0 => k_exc); (case xk0 => k_is); (case xb0 => k_is); (case xt0 => k_is); (case x1 => k_is); (case xe1 => k_exc); (case xk1 => k_is); (case xb1 => k_is); (case xt1 => k_is); (case z0 => k_is); (case z1 => k_is); (case z2 => k_is); (case z3 => k_is); (case z4 => k_is); (case z5 => k_is); (case z6 => k_is); (case z7 => k_is); (case z8 => k_is); (case z9 => k_is); (case z10 => k_is); (case z11 => k_is); (case z12 => k_is); (case z13 => k_is); (case z14 => k_is)

