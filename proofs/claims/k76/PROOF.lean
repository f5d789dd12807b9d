import PyProof.Rows.All
import Wide.All
import OpenK.AllK
import Wide.FinOn
import HandS.ForMost
import HandS.TupAny
import HandS.Wide
import HandS.IsInst
import HandS.Deep
import HandS.Flow
import HandS.TupMul
import HandS.TupLe
import HandS.TupLen
import HandS.SortOrd
import HandS.SortInts
import HandS.Walk
import HandS.Zip
import HandS.ForExc
import HandS.EndBits
import HandS.ExcCtx
import HandS.HotCalls
import HandS.Conv
import HandS.SortRule
import KE.KSortTup
import PyProof.Rows.SortShell
import PyProof.Rows.SortShellAny
import HandS.Text
import PyProof.AutoSeq1
import KE.GoesZip
import KE.GoesMore
import KE.GoesEnum
import HandS.ExcIs
import HandS.SetFor
import HandS.Strs
import HandS.Replace
import KE.KRevSl
import HandS.Dict
import HandS.Iter
import KE.KDictWalk
import KE.KEqDict
import KE.KDictSum
import KE.KDictCopyH
import HandS.More
import KE.SortData
import KE.KDictDisplayH
import HandS.SetKeys
import PyProof.WalksMore
import PyProof.SumAny
import KE.KDictZip
import KE.KDictItemsList
import HandS.ListItems
import KE.DataMinMax
import KE.KDictKeyed
import KE.KDictList
import KE.KTupSum
import HandS.Rev
import HandS.TupSets
import KE.KDictPairs
import KE.KIndexOf
import PySem.Challenge.RW_switchnets_k76_pour_papers
set_option Elab.async false
set_option linter.all false
set_option maxRecDepth 100000
namespace Y
open PySem PySem.Spec PyProof.Rows L2
abbrev St := L2.St

/-- data at any depth; lists, dicts by what they hold; arg: the script; ftu: a tuple whose object is known to have no dict of its own -/
inductive D where
  | non | bl (b : Bool) | int (i : Int) | str (x : Str) | tup (xs : List D) | lst (xs : List D)
  | arg (ns : List Int) | dik (ks : List Key) (ds : List D) | dit (ks : List (List Key)) (ds : List D) | ftu (xs : List D)
instance : Inhabited D := ⟨.non⟩
/-- a way of a run: an end, an exception of the program's own, anything else -/
inductive R (α : Type) where
  | ok (a : α) | er (c : Str) (ds : List D) | stk
@[simp] def R.bind {α β : Type} : R α → (α → R β) → R β
  | .ok a, f => f a
  | .er c ds, _ => .er c ds
  | .stk, _ => .stk
instance : Monad R where
  pure := .ok
  bind := R.bind
@[simp] theorem R.bind_ok {α β : Type} (a : α) (f : α → R β) : (R.ok a >>= f) = f a := id rfl
@[simp] theorem R.bind_stk {α β : Type} (f : α → R β) : ((R.stk : R α) >>= f) = .stk := id rfl
@[simp] theorem R.bind_er {α β : Type} (c : Str) (ds : List D) (f : α → R β) : ((R.er c ds : R α) >>= f) = .er c ds := id rfl
@[simp] theorem R.pure_eq {α : Type} (a : α) : (pure a : R α) = .ok a := id rfl
/-- the names' data by slot -/
abbrev Env := List (Option D)
/-- what an expression hands on: new data, data, or the object of an own slot -/
inductive Hd where
  | fr (d : D) | vl (d : D) | ow (i : Nat)
abbrev EM := Env → R (Hd × Env)
def look (i : Nat) (ρ : Env) : R D := match ρ[i]? with
  | some (some d) => .ok d
  | _ => .stk
def Hd.d : Hd → Env → R D
  | .fr d, _ => .ok d
  | .vl d, _ => .ok d
  | .ow i, ρ => look i ρ
def Hd.v : Hd → R D
  | .fr d => .ok d
  | .vl d => .ok d
  | .ow _ => .stk
def D.isMu : D → Bool
  | .lst _ => true
  | .dik _ _ => true
  | .dit _ _ => true
  | .arg _ => true
  | _ => false

abbrev Pr := Addr → Prop
mutual
/-- v is d, over objects none of which is forbidden (tuples never change: they may be any) -/
def Rep (K : PySem.W.Frag) (H : Hp) : D → Pr → V → Prop
  | .non, _, v => v = .non
  | .bl b, _, v => v = .bl b
  | .int i, _, v => v = .int i
  | .str x, _, v => v = .str x
  | .tup ds, P, v => ∃ a vs, v = .ref a ∧ H a = some (.tup vs) ∧ Reps K H ds P vs
  | .ftu ds, P, v => ∃ a vs o, v = .ref a ∧ H a = some (.frz o (.tup vs)) ∧ o.dict = none ∧ Reps K H ds P vs
  | .lst ds, P, v => ∃ a vs, v = .ref a ∧ ¬ P a ∧ H a = some (.lst vs) ∧ Reps K H ds (fun b => P b ∨ b = a) vs
  | .arg ns, P, v => ∃ a, v = .ref a ∧ ((¬ P a ∧ Rd H a (.lst (ns.map V.int))) ∨ SqL K (fun _ => none) a (ns.map V.int))
  | .dik ks ds, P, v => ∃ a vs, v = .ref a ∧ ¬ P a ∧ ks.length = vs.length ∧ Rd H a (.dK (ks.zip vs)) ∧ Reps K H ds (fun b => P b ∨ b = a) vs
  | .dit ks ds, P, v => ∃ a vs, v = .ref a ∧ ¬ P a ∧ ks.length = vs.length ∧ Rd H a (.dT (ks.zip vs)) ∧ Reps K H ds (fun b => P b ∨ b = a) vs
def Reps (K : PySem.W.Frag) (H : Hp) : List D → Pr → List V → Prop
  | [], _, vs => vs = []
  | d :: ds, P, vs => ∃ v ws, vs = v :: ws ∧ Rep K H d P v ∧ Reps K H ds P ws
end
/-- the object itself may be forbidden, what it holds not -/
def RepW (K : PySem.W.Frag) (H : Hp) : D → Pr → V → Prop
  | .lst ds, P, v => ∃ a vs, v = .ref a ∧ H a = some (.lst vs) ∧ Reps K H ds P vs
  | .arg ns, P, v => ∃ a, v = .ref a ∧ SqL K H a (ns.map V.int)
  | .dik ks ds, P, v => ∃ a vs, v = .ref a ∧ ks.length = vs.length ∧ Rd H a (.dK (ks.zip vs)) ∧ Reps K H ds P vs
  | .dit ks ds, P, v => ∃ a vs, v = .ref a ∧ ks.length = vs.length ∧ Rd H a (.dT (ks.zip vs)) ∧ Reps K H ds P vs
  | d, P, v => Rep K H d P v
/-- an own slot's object: it may be written -/
def RepO (K : PySem.W.Frag) (H : Hp) : D → Pr → V → Prop
  | .lst ds, P, v => ∃ a vs, v = .ref a ∧ H a = some (.lst vs) ∧ Reps K H ds P vs
  | .dik ks ds, P, v => ∃ a vs, v = .ref a ∧ ks.length = vs.length ∧ H a = some (.dK (ks.zip vs)) ∧ Reps K H ds P vs
  | .dit ks ds, P, v => ∃ a vs, v = .ref a ∧ ks.length = vs.length ∧ H a = some (.dT (ks.zip vs)) ∧ Reps K H ds P vs
  | .non, _, v => v = .non
  | .bl b, _, v => v = .bl b
  | .int i, _, v => v = .int i
  | .str x, _, v => v = .str x
  | _, _, _ => False

/-- an object that may change (or a list, a dict that is locked) -/
def isMut : Option HO → Prop
  | some (.lst _) => True
  | some (.dK _) => True
  | some (.dT _) => True
  | some (.ins _ _ _) => True
  | some (.set _ _) => True
  | some (.frz _ (.lst _)) => True
  | some (.frz _ (.dK _)) => True
  | some (.frz _ (.dT _)) => True
  | _ => False
theorem isMut.nt {H : Hp} {b : Addr} (h : isMut (H b)) {xs : List V} : ¬ Rd H b (.tup xs) := by
  rintro (e | ⟨o, e⟩) <;> (rw [e] at h; exact h)
theorem isMut.some {o : Option HO} (h : isMut o) : o ≠ none := by rintro rfl; exact h
theorem Rd.keep {H H' : Hp} {a : Addr} {u : HO} (r : Rd H a u) (k : ∀ o, H a = some o → H' a = some o) : Rd H' a u := by
  rcases r with e | ⟨o, e⟩
  · exact .inl (k _ e)
  · exact .inr ⟨o, k _ e⟩
theorem Rd.some {H : Hp} {a : Addr} {u : HO} (r : Rd H a u) : H a ≠ none := by
  rcases r with e | ⟨o, e⟩ <;> (rw [e]; intro z; cases z)

section
variable {K : PySem.W.Frag} {H H' : Hp}
mutual
theorem Rep.mono : ∀ (d : D) {P P' : Pr} {v : V}, (∀ b, P b → isMut (H b)) → (∀ b o, H b = some o → ¬ P b → H' b = some o) → (∀ b, P' b → P b ∨ H b = none) → Rep K H d P v → Rep K H' d P' v
  | .non, _, _, _, _, _, _, h => by unfold Rep at h ⊢; exact h
  | .bl _, _, _, _, _, _, _, h => by unfold Rep at h ⊢; exact h
  | .int _, _, _, _, _, _, _, h => by unfold Rep at h ⊢; exact h
  | .str _, _, _, _, _, _, _, h => by unfold Rep at h ⊢; exact h
  | .tup ds, P, P', v, hm, k, hp, h => by
    unfold Rep at h ⊢
    obtain ⟨a, vs, rfl, ht, hr⟩ := h
    exact ⟨a, vs, rfl, k a _ ht fun z => (hm a z).nt (.inl ht), Reps.mono ds hm k hp hr⟩
  | .ftu ds, P, P', v, hm, k, hp, h => by
    unfold Rep at h ⊢
    obtain ⟨a, vs, o, rfl, ht, hd, hr⟩ := h
    exact ⟨a, vs, o, rfl, k a _ ht fun z => (hm a z).nt (.inr ⟨o, ht⟩), hd, Reps.mono ds hm k hp hr⟩
  | .lst ds, P, P', v, hm, k, hp, h => by
    unfold Rep at h ⊢
    obtain ⟨a, vs, rfl, ha, ht, hr⟩ := h
    refine ⟨a, vs, rfl, fun z => ?_, k a _ ht ha, Reps.mono ds (P := fun b => P b ∨ b = a) (fun b z => ?_) (fun b o e n => k b o e fun z => n (.inl z)) (fun b z => ?_) hr⟩
    · rcases hp a z with z | z
      · exact ha z
      · rw [ht] at z; cases z
    · rcases z with z | rfl
      · exact hm b z
      · rw [ht]; trivial
    · rcases z with z | z
      · rcases hp b z with z | z
        · exact .inl (.inl z)
        · exact .inr z
      · exact .inl (.inr z)
  | .arg ns, P, P', v, hm, k, hp, h => by
    unfold Rep at h ⊢
    obtain ⟨a, rfl, h⟩ := h
    refine ⟨a, rfl, ?_⟩
    rcases h with ⟨ha, ht⟩ | h
    · refine .inl ⟨fun z => ?_, Rd.keep ht fun o e => k a o e ha⟩
      rcases hp a z with z | z
      · exact ha z
      · exact Rd.some ht z
    · exact .inr h
  | .dik ks ds, P, P', v, hm, k, hp, h => by
    unfold Rep at h ⊢
    obtain ⟨a, vs, rfl, ha, hl, ht, hr⟩ := h
    refine ⟨a, vs, rfl, fun z => ?_, hl, Rd.keep ht fun o e => k a o e ha, Reps.mono ds (P := fun b => P b ∨ b = a) (fun b z => ?_) (fun b o e n => k b o e fun z => n (.inl z)) (fun b z => ?_) hr⟩
    · rcases hp a z with z | z
      · exact ha z
      · exact Rd.some ht z
    · rcases z with z | rfl
      · exact hm b z
      · rcases ht with e | ⟨o, e⟩ <;> (rw [e]; trivial)
    · rcases z with z | z
      · rcases hp b z with z | z
        · exact .inl (.inl z)
        · exact .inr z
      · exact .inl (.inr z)
  | .dit ks ds, P, P', v, hm, k, hp, h => by
    unfold Rep at h ⊢
    obtain ⟨a, vs, rfl, ha, hl, ht, hr⟩ := h
    refine ⟨a, vs, rfl, fun z => ?_, hl, Rd.keep ht fun o e => k a o e ha, Reps.mono ds (P := fun b => P b ∨ b = a) (fun b z => ?_) (fun b o e n => k b o e fun z => n (.inl z)) (fun b z => ?_) hr⟩
    · rcases hp a z with z | z
      · exact ha z
      · exact Rd.some ht z
    · rcases z with z | rfl
      · exact hm b z
      · rcases ht with e | ⟨o, e⟩ <;> (rw [e]; trivial)
    · rcases z with z | z
      · rcases hp b z with z | z
        · exact .inl (.inl z)
        · exact .inr z
      · exact .inl (.inr z)
theorem Reps.mono : ∀ (ds : List D) {P P' : Pr} {vs : List V}, (∀ b, P b → isMut (H b)) → (∀ b o, H b = some o → ¬ P b → H' b = some o) → (∀ b, P' b → P b ∨ H b = none) → Reps K H ds P vs → Reps K H' ds P' vs
  | [], _, _, _, _, _, _, h => by unfold Reps at h ⊢; exact h
  | d :: ds, P, P', vs, hm, k, hp, h => by
    unfold Reps at h ⊢
    obtain ⟨v, ws, rfl, h1, h2⟩ := h
    exact ⟨v, ws, rfl, Rep.mono d hm k hp h1, Reps.mono ds hm k hp h2⟩
end
theorem Reps.length : ∀ {ds : List D} {P : Pr} {vs : List V}, Reps K H ds P vs → vs.length = ds.length
  | [], _, _, h => by unfold Reps at h; subst h; rfl
  | d :: ds, P, vs, h => by
    unfold Reps at h
    obtain ⟨v, ws, rfl, _, h2⟩ := h
    rw [List.length_cons, List.length_cons, Reps.length h2]
theorem Reps.nil {P : Pr} : Reps K H [] P [] := by unfold Reps; rfl
theorem Reps.cons {d : D} {ds : List D} {P : Pr} {v : V} {vs : List V} (h : Rep K H d P v) (h2 : Reps K H ds P vs) : Reps K H (d :: ds) P (v :: vs) := by
  unfold Reps; exact ⟨v, vs, rfl, h, h2⟩
theorem Reps.nil_iff {P : Pr} {vs : List V} (h : Reps K H [] P vs) : vs = [] := by unfold Reps at h; exact h
theorem Reps.cons_iff {d : D} {ds : List D} {P : Pr} {vs : List V} (h : Reps K H (d :: ds) P vs) : ∃ v ws, vs = v :: ws ∧ Rep K H d P v ∧ Reps K H ds P ws := by unfold Reps at h; exact h
theorem Reps.get : ∀ {ds : List D} {P : Pr} {vs : List V} {i : Nat} {d : D}, Reps K H ds P vs → ds[i]? = some d → ∃ v, vs[i]? = some v ∧ Rep K H d P v
  | [], _, _, _, _, _, e => by simp at e
  | d :: ds, P, vs, 0, d', h, e => by
    obtain ⟨v, ws, rfl, h1, _⟩ := h.cons_iff
    simp at e; subst e
    exact ⟨v, rfl, h1⟩
  | d :: ds, P, vs, i + 1, d', h, e => by
    obtain ⟨v, ws, rfl, _, h2⟩ := h.cons_iff
    simpa using Reps.get h2 (by simpa using e)
theorem Reps.append : ∀ {ds es : List D} {P : Pr} {vs ws : List V}, Reps K H ds P vs → Reps K H es P ws → Reps K H (ds ++ es) P (vs ++ ws)
  | [], _, _, _, _, h, h2 => by rw [h.nil_iff]; exact h2
  | d :: ds, es, P, vs, ws, h, h2 => by
    obtain ⟨v, us, rfl, h1, h3⟩ := h.cons_iff
    exact Reps.cons h1 (Reps.append h3 h2)
/-- forbidding less -/
theorem Rep.less {d : D} {P P' : Pr} {v : V} (hm : ∀ b, P b → isMut (H b)) (h : Rep K H d P v) (hp : ∀ b, P' b → P b) : Rep K H d P' v := h.mono d hm (fun _ _ e _ => e) fun b z => .inl (hp b z)
theorem Reps.less {ds : List D} {P P' : Pr} {vs : List V} (hm : ∀ b, P b → isMut (H b)) (h : Reps K H ds P vs) (hp : ∀ b, P' b → P b) : Reps K H ds P' vs := h.mono ds hm (fun _ _ e _ => e) fun b z => .inl (hp b z)
/-- nothing that stood is changed -/
theorem Rep.same {d : D} {P : Pr} {v : V} (hm : ∀ b, P b → isMut (H b)) (h : Rep K H d P v) (k : Same H H') : Rep K H' d P v := h.mono d hm (fun b o e _ => k b o e) fun _ z => .inl z
theorem Reps.same {ds : List D} {P : Pr} {vs : List V} (hm : ∀ b, P b → isMut (H b)) (h : Reps K H ds P vs) (k : Same H H') : Reps K H' ds P vs := h.mono ds hm (fun b o e _ => k b o e) fun _ z => .inl z
theorem mutL {a : Addr} {P : Pr} {vs : List V} (hm : ∀ b, P b → isMut (H b)) (h : H a = some (.lst vs)) : ∀ b, P b ∨ b = a → isMut (H b) := fun b z => by
  rcases z with z | rfl
  · exact hm b z
  · rw [h]; trivial
theorem mutK {a : Addr} {P : Pr} {vs : List (Key × V)} (hm : ∀ b, P b → isMut (H b)) (h : Rd H a (.dK vs)) : ∀ b, P b ∨ b = a → isMut (H b) := fun b z => by
  rcases z with z | rfl
  · exact hm b z
  · rcases h with e | ⟨o, e⟩ <;> (rw [e]; trivial)
theorem mutT {a : Addr} {P : Pr} {vs : List (List Key × V)} (hm : ∀ b, P b → isMut (H b)) (h : Rd H a (.dT vs)) : ∀ b, P b ∨ b = a → isMut (H b) := fun b z => by
  rcases z with z | rfl
  · exact hm b z
  · rcases h with e | ⟨o, e⟩ <;> (rw [e]; trivial)
theorem Rep.weak {d : D} {P : Pr} {v : V} (hm : ∀ b, P b → isMut (H b)) (h : Rep K H d P v) : RepW K H d P v := by
  cases d with
  | lst ds =>
    unfold Rep at h; unfold RepW
    obtain ⟨a, vs, rfl, _, ht, hr⟩ := h
    exact ⟨a, vs, rfl, ht, hr.less (mutL hm ht) fun b z => .inl z⟩
  | arg ns =>
    unfold Rep at h; unfold RepW
    obtain ⟨a, rfl, h⟩ := h
    rcases h with ⟨_, h⟩ | h
    · exact ⟨a, rfl, .inl h⟩
    · refine ⟨a, rfl, .inr ?_⟩
      rcases h with h | h
      · rcases h with e | ⟨o, e⟩ <;> cases e
      · exact h
  | dik ks ds =>
    unfold Rep at h; unfold RepW
    obtain ⟨a, vs, rfl, _, hl, ht, hr⟩ := h
    exact ⟨a, vs, rfl, hl, ht, hr.less (mutK hm ht) fun b z => .inl z⟩
  | dit ks ds =>
    unfold Rep at h; unfold RepW
    obtain ⟨a, vs, rfl, _, hl, ht, hr⟩ := h
    exact ⟨a, vs, rfl, hl, ht, hr.less (mutT hm ht) fun b z => .inl z⟩
  | non => exact h
  | bl _ => exact h
  | int _ => exact h
  | str _ => exact h
  | tup _ => exact h
  | ftu _ => exact h
theorem RepO.weak {d : D} {P : Pr} {v : V} (h : RepO K H d P v) : RepW K H d P v := by
  cases d with
  | lst ds => obtain ⟨a, vs, rfl, ht, hr⟩ := h; exact ⟨a, vs, rfl, ht, hr⟩
  | dik ks ds => obtain ⟨a, vs, rfl, hl, ht, hr⟩ := h; exact ⟨a, vs, rfl, hl, .inl ht, hr⟩
  | dit ks ds => obtain ⟨a, vs, rfl, hl, ht, hr⟩ := h; exact ⟨a, vs, rfl, hl, .inl ht, hr⟩
  | non => unfold RepW Rep; exact h
  | bl _ => unfold RepW Rep; exact h
  | int _ => unfold RepW Rep; exact h
  | str _ => unfold RepW Rep; exact h
  | tup _ => exact False.elim h
  | arg _ => exact False.elim h
  | ftu _ => exact False.elim h
theorem Rep.of_same {d : D} {P : Pr} {v : V} (hm : ∀ b, P b → isMut (H b)) (h : Rep K H d P v) (k : ∀ b o, H b = some o → ¬ P b → H' b = some o) : Rep K H' d P v := h.mono d hm k fun _ z => .inl z
/-- a new list, tuple -/
theorem Rep.newL {ds : List D} {P : Pr} {vs : List V} {p : Addr} (hm : ∀ b, P b → isMut (H b)) (h : Reps K H ds P vs) (hp : H p = none) : Rep K (upd H p (.lst vs)) (.lst ds) P (.ref p) := by
  unfold Rep
  refine ⟨p, vs, rfl, fun z => (hm p z).some hp, upd_same, h.mono ds hm (fun b o e _ => ?_) fun b z => ?_⟩
  · rw [upd_ne (ne_of_none e hp)]; exact e
  · rcases z with z | rfl
    · exact .inl z
    · exact .inr hp
theorem Rep.newT {ds : List D} {P : Pr} {vs : List V} {p : Addr} (hm : ∀ b, P b → isMut (H b)) (h : Reps K H ds P vs) (hp : H p = none) : Rep K (upd H p (.tup vs)) (.tup ds) P (.ref p) := by
  unfold Rep
  refine ⟨p, vs, rfl, upd_same, h.mono ds hm (fun b o e _ => ?_) fun b z => .inl z⟩
  rw [upd_ne (ne_of_none e hp)]; exact e
theorem Same.new {p : Addr} {o : HO} (hp : H p = none) : Same H (upd H p o) := fun b u e => by rw [upd_ne (ne_of_none e hp)]; exact e
end

/-- the own slots' objects -/
def OA (O : List Nat) (σ : St) (b : Addr) : Prop := ∃ i, i ∈ O ∧ σ[i]? = some (some (.ref b))
def FA (P0 : Pr) (O : List Nat) (σ : St) : Pr := fun b => P0 b ∨ OA O σ b
/-- the names' data ρ lie in the slots σ over H. P0: forbidden here; O: the own slots, whose lists and dicts this def may change: nothing else leads to them -/
structure Sim (K : PySem.W.Frag) (P0 : Pr) (O W : List Nat) (ρ : Env) (σ : St) (H : Hp) : Prop where
  sub : ∀ i ∈ W, i ∈ O
  len : ρ.length ≤ σ.length
  dom : ∀ b, FA P0 O σ b → isMut (H b)
  val : ∀ i d, ρ[i]? = some (some d) → i ∉ O → ∃ v, σ[i]? = some (some v) ∧ Rep K H d (FA P0 O σ) v
  own : ∀ i d, ρ[i]? = some (some d) → i ∈ O → ∃ v, σ[i]? = some (some v) ∧ RepO K H d (FA P0 O σ) v
  sep : ∀ i j a, i ∈ O → j ∈ O → σ[i]? = some (some (.ref a)) → σ[j]? = some (some (.ref a)) → i = j
  sep0 : ∀ a, OA O σ a → ¬ P0 a
/-- what an expression may do to the heap -/
structure Keep (O : List Nat) (σ : St) (H H' : Hp) : Prop where
  keep : ∀ b o, H b = some o → ¬ OA O σ b → H' b = some o
  some : ∀ b, H b ≠ none → H' b ≠ none
theorem Keep.refl {W : List Nat} {σ : St} {H : Hp} : Keep W σ H H := ⟨fun _ _ e _ => e, fun _ e => e⟩
theorem Keep.trans {W : List Nat} {σ : St} {H H1 H2 : Hp} (a : Keep W σ H H1) (b : Keep W σ H1 H2) : Keep W σ H H2 :=
  ⟨fun c o e n => b.keep c o (a.keep c o e n) n, fun c e => b.some c (a.some c e)⟩
theorem Keep.same {W : List Nat} {σ : St} {H H' : Hp} (k : Same H H') : Keep W σ H H' := ⟨fun b o e _ => k b o e, fun b e => by
  cases q : H b with
  | none => exact absurd q e
  | some o => rw [k b o q]; intro z; cases z⟩
section
variable {K : PySem.W.Frag} {P0 : Pr} {O W : List Nat} {ρ ρ' : Env} {σ : St} {H H' : Hp}
theorem Sim.oaw (S : Sim K P0 O W ρ σ H) {b : Addr} (z : OA W σ b) : OA O σ b := let ⟨i, hi, e⟩ := z; ⟨i, S.sub i hi, e⟩
theorem Sim.rep (S : Sim K P0 O W ρ σ H) (k : Keep W σ H H') {d : D} {v : V} (h : Rep K H d (FA P0 O σ) v) : Rep K H' d (FA P0 O σ) v :=
  h.of_same S.dom fun b o e n => k.keep b o e fun z => n (.inr (S.oaw z))
/-- all that stood stands -/
theorem Sim.same (S : Sim K P0 O W ρ σ H) (k : Same H H') : Sim K P0 O W ρ σ H' where
  sub := S.sub
  len := S.len
  dom := fun b z => by
    have q := S.dom b z
    cases e : H b with
    | none => rw [e] at q; exact q.elim
    | some o => rw [k b o e, ← e]; exact q
  val := fun i d e n => let ⟨v, h1, h2⟩ := S.val i d e n; ⟨v, h1, h2.same S.dom k⟩
  own := fun i d e n => by
    obtain ⟨v, h1, h2⟩ := S.own i d e n
    refine ⟨v, h1, ?_⟩
    cases d with
    | lst ds => obtain ⟨a, vs, rfl, ht, hr⟩ := h2; exact ⟨a, vs, rfl, k _ _ ht, hr.same S.dom k⟩
    | dik ks ds => obtain ⟨a, vs, rfl, hl, ht, hr⟩ := h2; exact ⟨a, vs, rfl, hl, k _ _ ht, hr.same S.dom k⟩
    | dit ks ds => obtain ⟨a, vs, rfl, hl, ht, hr⟩ := h2; exact ⟨a, vs, rfl, hl, k _ _ ht, hr.same S.dom k⟩
    | non => exact h2
    | bl _ => exact h2
    | int _ => exact h2
    | str _ => exact h2
    | tup _ => exact h2
    | arg _ => exact h2
    | ftu _ => exact h2
  sep := S.sep
  sep0 := S.sep0
/-- what lies in a slot, for reading -/
theorem Sim.look (S : Sim K P0 O W ρ σ H) {i : Nat} {d : D} (h : look i ρ = .ok d) : ∃ v, σ[i]? = some (some v) ∧ RepW K H d (FA P0 O σ) v := by
  unfold Y.look at h
  split at h
  · rename_i d' e
    cases h
    by_cases hi : i ∈ O
    · obtain ⟨v, h1, h2⟩ := S.own i d e hi
      exact ⟨v, h1, h2.weak⟩
    · obtain ⟨v, h1, h2⟩ := S.val i d e hi
      exact ⟨v, h1, h2.weak S.dom⟩
  · cases h
end
/-- what a handle says of a value; Hs: the heap ahead -/
def HdR (K : PySem.W.Frag) (P0 : Pr) (O : List Nat) (Hs : Hp) (σ : St) (H : Hp) : Hd → V → Prop
  | .fr d, v => Rep K H d (FA P0 O σ) v ∧ (d.isMu = true → ∀ a, v = .ref a → Hs a = none)
  | .vl d, v => Rep K H d (FA P0 O σ) v
  | .ow i, v => i ∈ O ∧ σ[i]? = some (some v)
section
variable {K : PySem.W.Frag} {P0 : Pr} {O W : List Nat} {ρ ρ' : Env} {σ : St} {Hs Hs' H H' : Hp}
theorem HdR.keep (S : Sim K P0 O W ρ σ H) (k : Keep W σ H H') {h : Hd} {v : V} (r : HdR K P0 O Hs σ H h v) : HdR K P0 O Hs σ H' h v := by
  cases h with
  | fr d => exact ⟨S.rep k r.1, r.2⟩
  | vl d => exact S.rep k r
  | ow i => exact r
/-- ahead of that -/
theorem HdR.back (k : ∀ b, Hs' b ≠ none → Hs b ≠ none) {h : Hd} {v : V} (r : HdR K P0 O Hs σ H h v) : HdR K P0 O Hs' σ H h v := by
  cases h with
  | fr d => exact ⟨r.1, fun m a e => Classical.byContradiction fun z => k a z (r.2 m a e)⟩
  | vl d => exact r
  | ow i => exact r
theorem HdR.d (S : Sim K P0 O W ρ σ H) {h : Hd} {v : V} {d : D} (r : HdR K P0 O Hs σ H h v) (e : h.d ρ = .ok d) : RepW K H d (FA P0 O σ) v := by
  cases h with
  | fr d' => cases e; exact r.1.weak S.dom
  | vl d' => cases e; exact Rep.weak S.dom r
  | ow i =>
    obtain ⟨w, h1, h2⟩ := S.look e
    have q : σ[i]? = some (some v) := r.2
    rw [q] at h1; cases h1
    exact h2
theorem HdR.v {h : Hd} {v : V} {d : D} (r : HdR K P0 O Hs σ H h v) (e : h.v = .ok d) : Rep K H d (FA P0 O σ) v := by
  cases h with
  | fr d' => cases e; exact r.1
  | vl d' => cases e; exact r
  | ow i => cases e
end
end Y

set_option Elab.async false
set_option linter.all false
set_option maxRecDepth 100000
namespace Y
open PySem PySem.Spec PyProof.Rows L2

/-- no exception is told on -/
def R.nox {α : Type} : R α → R α
  | .er _ _ => .stk
  | x => x
@[simp] theorem R.nox_ok {α : Type} (a : α) : (R.ok a).nox = .ok a := id rfl
@[simp] theorem R.nox_stk {α : Type} : (R.stk : R α).nox = .stk := id rfl
abbrev EK := Str → List D → Hp → Prop
def Res (E : EK) (W : List Nat) (σ : St) (H : Hp) {α : Type} (r : R α) (k : α → Prop) : Prop := match r with
  | .ok a => k a
  | .er c ds => ∀ H', Keep W σ H H' → E c ds H'
  | .stk => False
section
variable {E : EK} {O W : List Nat} {σ : St} {H H1 : Hp} {α β : Type}
theorem Res.of_bind {r : R α} {f : α → R β} {k : β → Prop} (h : Res E W σ H (r >>= f) k) : Res E W σ H r fun a => Res E W σ H (f a) k := by cases r <;> exact h
theorem Res.mono {r : R α} {k k' : α → Prop} (h : Res E W σ H r k) (i : ∀ a, k a → k' a) : Res E W σ H r k' := by
  cases r with
  | ok a => exact i a h
  | er c ds => exact h
  | stk => exact h
theorem Res.keep {r : R α} {k : α → Prop} (h : Res E W σ H r k) (kp : Keep W σ H H1) : Res E W σ H1 r k := by
  cases r with
  | ok a => exact h
  | er c ds => exact fun H' k2 => h H' (kp.trans k2)
  | stk => exact h
theorem Res.of_nox {r : R α} {f : α → R β} {k : β → Prop} (h : Res E W σ H (r.nox >>= f) k) : ∃ a, r = .ok a ∧ Res E W σ H (f a) k := by
  cases r with
  | ok a => exact ⟨a, rfl, h⟩
  | er c ds => exact h.elim
  | stk => exact h.elim
end

def tM (K : PySem.W.Frag) (P0 : Pr) (O W : List Nat) (E : EK) (m : EM) : TE := fun σ H Q => ∃ ρ, Sim K P0 O W ρ σ H ∧
  Res E W σ H (m ρ) fun a => ∀ v H', Sim K P0 O W a.2 σ H' → Keep W σ H H' → HdR K P0 O H σ H' a.1 v → Q v H'
/-- several, from the left -/
def HdRs (K : PySem.W.Frag) (P0 : Pr) (O : List Nat) (Hs : Hp) (σ : St) (H : Hp) : List Hd → List V → Prop
  | [], vs => vs = []
  | h :: hs, vs => ∃ v ws, vs = v :: ws ∧ HdR K P0 O Hs σ H h v ∧ HdRs K P0 O Hs σ H hs ws
abbrev AM := Env → R (List Hd × Env)
def tMs (K : PySem.W.Frag) (P0 : Pr) (O W : List Nat) (E : EK) (m : AM) : TA := fun σ H Q => ∃ ρ, Sim K P0 O W ρ σ H ∧
  Res E W σ H (m ρ) fun a => ∀ vs H', Sim K P0 O W a.2 σ H' → Keep W σ H H' → HdRs K P0 O H σ H' a.1 vs → Q vs H'
abbrev BM := Env → R (Bool × Env)
def tMt (K : PySem.W.Frag) (P0 : Pr) (O W : List Nat) (E : EK) (m : BM) : TT := fun σ H Q => ∃ ρ, Sim K P0 O W ρ σ H ∧
  Res E W σ H (m ρ) fun a => ∀ H', Sim K P0 O W a.2 σ H' → Keep W σ H H' → Q a.1 H'
theorem PE.imp {X : Cx} {e : Expr} {t t' : TE} (h : PE X e t) (i : ∀ σ H Q, t' σ H Q → t σ H Q) : PE X e t' := ⟨fun pins s σ H Q I q => h.run pins s σ H Q I (i σ H Q q)⟩
theorem PT.imp {X : Cx} {e : Expr} {t t' : TT} (h : PT X e t) (i : ∀ σ H Q, t' σ H Q → t σ H Q) : PT X e t' := ⟨fun pins s σ H Q I q => h.run pins s σ H Q I (i σ H Q q)⟩
theorem PW.imp {X : Cx} {e : Expr} {t t' : TT} (h : PW X e t) (i : ∀ σ H Q, t' σ H Q → t σ H Q) : PW X e t' := ⟨fun w pins s σ H Q I q => h.run w pins s σ H Q I (i σ H Q q)⟩
theorem PA.imp {X : Cx} {e : List Expr} {t t' : TA} (h : PA X e t) (i : ∀ σ H Q, t' σ H Q → t σ H Q) : PA X e t' := ⟨fun p pins s σ H Q I q => h.run p pins s σ H Q I (i σ H Q q)⟩
theorem PS.imp {X : Cx} {e : Stmt} {t t' : TS} (h : PS X e t) (i : ∀ D σ H, t' D σ H → t D σ H) : PS X e t' := ⟨fun pins s σ H D I q => h.run pins s σ H D I (i D σ H q)⟩
theorem PSs.imp {X : Cx} {e : List Stmt} {t t' : TS} (h : PSs X e t) (i : ∀ D σ H, t' D σ H → t D σ H) : PSs X e t' := ⟨fun pins s σ H D I q => h.run pins s σ H D I (i D σ H q)⟩
theorem PE.or {X : Cx} {e : Expr} {t t' : TE} (h : PE X e t) (h' : PE X e t') : PE X e fun σ H Q => t σ H Q ∨ t' σ H Q :=
  ⟨fun pins s σ H Q I q => q.elim (h.run pins s σ H Q I) (h'.run pins s σ H Q I)⟩
section
variable {K : PySem.W.Frag} {P0 : Pr} {O W : List Nat} {ρ ρ' : Env} {σ : St} {Hs Hs' H H' : Hp}
theorem HdRs.keep (S : Sim K P0 O W ρ σ H) (k : Keep W σ H H') : ∀ {hs : List Hd} {vs : List V}, HdRs K P0 O Hs σ H hs vs → HdRs K P0 O Hs σ H' hs vs
  | [], _, r => r
  | h :: hs, _, ⟨v, ws, e, r1, r2⟩ => ⟨v, ws, e, r1.keep S k, HdRs.keep S k r2⟩
theorem HdRs.back (k : ∀ b, Hs' b ≠ none → Hs b ≠ none) : ∀ {hs : List Hd} {vs : List V}, HdRs K P0 O Hs σ H hs vs → HdRs K P0 O Hs' σ H hs vs
  | [], _, r => r
  | h :: hs, _, ⟨v, ws, e, r1, r2⟩ => ⟨v, ws, e, r1.back k, HdRs.back k r2⟩
end

def cVar (i : Nat) : EM := fun ρ => do
  let d ← (look i ρ).nox
  pure (.vl d, ρ)
def cOwn (i : Nat) : EM := fun ρ => do
  let _ ← (look i ρ).nox
  pure (.ow i, ρ)
def cC (d : D) : EM := fun ρ => .ok (.fr d, ρ)
theorem look_some {i : Nat} {ρ : Env} {d : D} (h : look i ρ = .ok d) : ρ[i]? = some (some d) := by
  unfold look at h
  split at h
  · rename_i e; cases h; exact e
  · cases h
section
variable {X : Cx} {P0 : Pr} {O W : List Nat} {E : EK} {pos : Pos}
abbrev CEx (X : Cx) (P0 : Pr) (O W : List Nat) (E : EK) (e : Expr) (m : EM) : Prop := PE X e (tM X.K P0 O W E m)
theorem ce_var (i : Nat) {x : Str} (ho : i ∉ O := by decide) (hN : X.N[i]? = some x := by rfl) (hv : Vis X.env.scope x := by first | exact Or.inl rfl | exact Or.inr (Or.inl rfl) | exact Or.inr (Or.inr rfl)) (hd : (x == ("__debug__" : Str)) = false := by decide)
    (hcd : (x == ("__classdict__" : Str)) = false := by decide) : CEx X P0 O W E (.Name x pos) (cVar i) := PE.imp (pe_var (i := i) hN hv hd hcd) fun σ H Q ⟨ρ, S, h⟩ => by
  obtain ⟨d, e, h⟩ := h.of_nox
  obtain ⟨v, h1, h2⟩ := S.val i d (look_some e) ho
  exact ⟨v, h1, h v H S .refl h2⟩
theorem ce_own (i : Nat) {x : Str} (ho : i ∈ O := by decide) (hN : X.N[i]? = some x := by rfl) (hv : Vis X.env.scope x := by first | exact Or.inl rfl | exact Or.inr (Or.inl rfl) | exact Or.inr (Or.inr rfl)) (hd : (x == ("__debug__" : Str)) = false := by decide)
    (hcd : (x == ("__classdict__" : Str)) = false := by decide) : CEx X P0 O W E (.Name x pos) (cOwn i) := PE.imp (pe_var (i := i) hN hv hd hcd) fun σ H Q ⟨ρ, S, h⟩ => by
  obtain ⟨d, e, h⟩ := h.of_nox
  obtain ⟨v, h1, h2⟩ := S.own i d (look_some e) ho
  exact ⟨v, h1, h v H S .refl ⟨ho, h1⟩⟩
theorem c_of {v : V} {d : D} (h : ∀ H P, Rep X.K H d P v) (hm : d.isMu = false) : ∀ σ H Q, tM X.K P0 O W E (cC d) σ H Q → tC v σ H Q := fun σ H Q ⟨ρ, S, q⟩ =>
  q v H S .refl ⟨h _ _, fun z => by rw [hm] at z; cases z⟩
theorem ce_int {i j} : CEx X P0 O W E (.Constant (.int i) j pos) (cC (.int i)) := PE.imp pe_int (c_of (fun _ _ => by unfold Rep; rfl) rfl)
theorem ce_bl {i j} : CEx X P0 O W E (.Constant (.bool i) j pos) (cC (.bl i)) := PE.imp pe_bl (c_of (fun _ _ => by unfold Rep; rfl) rfl)
theorem ce_str {i j} : CEx X P0 O W E (.Constant (.str i) j pos) (cC (.str i)) := PE.imp pe_str (c_of (fun _ _ => by unfold Rep; rfl) rfl)
theorem ce_non {j} : CEx X P0 O W E (.Constant .none j pos) (cC .non) := PE.imp pe_non (c_of (fun _ _ => by unfold Rep; rfl) rfl)
end

def cOp (f : D → D → R D) (a b : EM) : EM := fun ρ => do
  let (h1, ρ1) ← a ρ
  let (h2, ρ2) ← b ρ1
  let x ← (h1.d ρ2).nox
  let y ← (h2.d ρ2).nox
  let z ← (f x y).nox
  pure (.fr z, ρ2)
/-- what is told on of an operation: new data -/
def Out (K : PySem.W.Frag) (P : Pr) (H : Hp) (d : D) (Q : VK) : Prop := ∀ v H', Same H H' → Rep K H' d P v → (d.isMu = true → ∀ a, v = .ref a → H a = none) → Q v H'
def rD (K : PySem.W.Frag) (f : D → D → R D) : R2 := fun x y H Q => ∃ (P : Pr) (dx dy dz : D), (∀ b, P b → isMut (H b)) ∧ RepW K H dx P x ∧ RepW K H dy P y ∧ f dx dy = .ok dz ∧ Out K P H dz Q
theorem Same.some {H H' : Hp} (k : Same H H') : ∀ b, H b ≠ none → H' b ≠ none := fun b e => by
  cases q : H b with
  | none => exact absurd q e
  | some o => rw [k b o q]; intro z; cases z
section
variable {K : PySem.W.Frag} {P0 : Pr} {O W : List Nat} {E : EK}
/-- an operation's end, told to what follows -/
theorem out_of {ρ : Env} {σ : St} {H H1 : Hp} {Q : VK} {d : D} (S : Sim K P0 O W ρ σ H1) (k : Keep W σ H H1)
    (h : ∀ v H', Sim K P0 O W ρ σ H' → Keep W σ H H' → HdR K P0 O H σ H' (.fr d) v → Q v H') : Out K (FA P0 O σ) H1 d Q := fun v H' sm r fr =>
  h v H' (S.same sm) (k.trans (Keep.same sm)) ⟨r, fun m a e => Classical.byContradiction fun z => k.some a z (fr m a e)⟩
theorem tM_op {f : D → D → R D} {a b : EM} (σ : St) (H : Hp) (Q : VK) (h : tM K P0 O W E (cOp f a b) σ H Q) : tOp (rD K f) (tM K P0 O W E a) (tM K P0 O W E b) σ H Q := by
  obtain ⟨ρ, S, h⟩ := h
  refine ⟨ρ, S, h.of_bind.mono fun ⟨h1, ρ1⟩ q x H1 S1 k1 r1 => ⟨ρ1, S1, (q.keep k1).of_bind.mono fun ⟨h2, ρ2⟩ q2 y H2 S2 k2 r2 => ?_⟩⟩
  obtain ⟨dx, e1, q3⟩ := q2.of_nox
  obtain ⟨dy, e2, q4⟩ := q3.of_nox
  obtain ⟨dz, e3, q5⟩ := q4.of_nox
  exact ⟨FA P0 O σ, dx, dy, dz, S2.dom, (r1.keep S1 k2).d S2 e1, r2.d S2 e2, e3, out_of S2 (k1.trans k2) q5⟩
/-- new data of no object -/
theorem Out.flat {P : Pr} {H : Hp} {d : D} {v : V} {Q : VK} (h : Out K P H d Q) (r : Rep K H d P v) (hm : d.isMu = false) : Q v H := h v H (fun _ _ e => e) r fun z => by rw [hm] at z; cases z
theorem Out.int {P : Pr} {H : Hp} {i : Int} {Q : VK} (h : Out K P H (.int i) Q) : Q (.int i) H := h.flat (by unfold Rep; rfl) rfl
theorem Out.bl {P : Pr} {H : Hp} {i : Bool} {Q : VK} (h : Out K P H (.bl i) Q) : Q (.bl i) H := h.flat (by unfold Rep; rfl) rfl
theorem Out.str {P : Pr} {H : Hp} {i : Str} {Q : VK} (h : Out K P H (.str i) Q) : Q (.str i) H := h.flat (by unfold Rep; rfl) rfl
theorem Out.non {P : Pr} {H : Hp} {Q : VK} (h : Out K P H .non Q) : Q .non H := h.flat (by unfold Rep; rfl) rfl
theorem Out.newL {P : Pr} {H : Hp} {ds : List D} {vs : List V} {Q : VK} (h : Out K P H (.lst ds) Q) (hm : ∀ b, P b → isMut (H b)) (r : Reps K H ds P vs) {p : Addr} (hp : H p = none) : Q (.ref p) (upd H p (.lst vs)) :=
  h _ _ (Same.new hp) (Rep.newL hm r hp) fun _ a e => by cases e; exact hp
theorem Out.newT {P : Pr} {H : Hp} {ds : List D} {vs : List V} {Q : VK} (h : Out K P H (.tup ds) Q) (hm : ∀ b, P b → isMut (H b)) (r : Reps K H ds P vs) {p : Addr} (hp : H p = none) : Q (.ref p) (upd H p (.tup vs)) :=
  h _ _ (Same.new hp) (Rep.newT hm r hp) fun z => by cases z
/-- reading a datum's form -/
theorem RepW.int {H : Hp} {i : Int} {P : Pr} {v : V} (h : RepW K H (.int i) P v) : v = .int i := by unfold RepW Rep at h; exact h
theorem RepW.bl {H : Hp} {i : Bool} {P : Pr} {v : V} (h : RepW K H (.bl i) P v) : v = .bl i := by unfold RepW Rep at h; exact h
theorem RepW.str {H : Hp} {i : Str} {P : Pr} {v : V} (h : RepW K H (.str i) P v) : v = .str i := by unfold RepW Rep at h; exact h
theorem RepW.non {H : Hp} {P : Pr} {v : V} (h : RepW K H .non P v) : v = .non := by unfold RepW Rep at h; exact h
theorem RepW.tup {H : Hp} {ds : List D} {P : Pr} {v : V} (h : RepW K H (.tup ds) P v) : ∃ a vs, v = .ref a ∧ H a = some (.tup vs) ∧ Reps K H ds P vs := by unfold RepW Rep at h; exact h
theorem RepW.ftu {H : Hp} {ds : List D} {P : Pr} {v : V} (h : RepW K H (.ftu ds) P v) : ∃ a vs o, v = .ref a ∧ H a = some (.frz o (.tup vs)) ∧ o.dict = none ∧ Reps K H ds P vs := by unfold RepW Rep at h; exact h
theorem SqT.fz {H : Hp} {a : Addr} {o : Obj} {vs : List V} (h : H a = some (.frz o (.tup vs))) : SqT K H a vs := .inl (.inr ⟨o, h⟩)
theorem RepW.lst {H : Hp} {ds : List D} {P : Pr} {v : V} (h : RepW K H (.lst ds) P v) : ∃ a vs, v = .ref a ∧ H a = some (.lst vs) ∧ Reps K H ds P vs := h
theorem RepW.arg {H : Hp} {ds : List Int} {P : Pr} {v : V} (h : RepW K H (.arg ds) P v) : ∃ a, v = .ref a ∧ SqL K H a (ds.map V.int) := h
theorem Rep.ftu_of {H : Hp} {ds : List D} {P : Pr} {a : Addr} {o : Obj} {vs : List V} (h : H a = some (.frz o (.tup vs))) (hd : o.dict = none) (r : Reps K H ds P vs) : Rep K H (.ftu ds) P (.ref a) := by unfold Rep; exact ⟨a, vs, o, rfl, h, hd, r⟩
theorem Rep.tup_of {H : Hp} {ds : List D} {P : Pr} {a : Addr} {vs : List V} (h : H a = some (.tup vs)) (r : Reps K H ds P vs) : Rep K H (.tup ds) P (.ref a) := by unfold Rep; exact ⟨a, vs, rfl, h, r⟩
/-- a list or a tuple, for reading -/
def seqOf : D → Option (List D)
  | .lst ds => some ds
  | .tup ds => some ds
  | .arg ns => some (ns.map D.int)
  | .ftu ds => some ds
  | _ => none
theorem reps_ints {H : Hp} {P : Pr} : ∀ ns : List Int, Reps K H (ns.map D.int) P (ns.map V.int)
  | [] => Reps.nil
  | n :: ns => Reps.cons (by unfold Rep; rfl) (reps_ints ns)
theorem RepW.seq {H : Hp} {d : D} {ds : List D} {P : Pr} {v : V} (h : RepW K H d P v) (e : seqOf d = some ds) : ∃ a vs, v = .ref a ∧ (SqL K H a vs ∨ SqT K H a vs) ∧ Reps K H ds P vs := by
  cases d <;> simp only [seqOf, Option.some.injEq, reduceCtorEq] at e
  · subst e; obtain ⟨a, vs, rfl, h1, h2⟩ := h.tup; exact ⟨a, vs, rfl, .inr (SqT.of h1), h2⟩
  · subst e; obtain ⟨a, vs, rfl, h1, h2⟩ := h.lst; exact ⟨a, vs, rfl, .inl (SqL.of h1), h2⟩
  · subst e; obtain ⟨a, rfl, h1⟩ := h.arg; exact ⟨a, _, rfl, .inl h1, reps_ints _⟩
  · subst e; obtain ⟨a, vs, o, rfl, h1, _, h2⟩ := h.ftu; exact ⟨a, vs, rfl, .inr (SqT.fz h1), h2⟩
end

/-- sizes that the machine bears -/
def szOk (n : Nat) : Bool := decide (n ≤ sizeLine)
def addD : D → D → R D
  | .int i, .int j => .ok (.int (i + j))
  | .str x, .str y => if szOk (x.length + y.length) = true then .ok (.str (x ++ y)) else .stk
  | .tup x, .tup y => if szOk (x.length + y.length) = true then .ok (.tup (x ++ y)) else .stk
  | .lst x, .lst y => if szOk (x.length + y.length) = true then .ok (.lst (x ++ y)) else .stk
  | _, _ => .stk
def subD : D → D → R D
  | .int i, .int j => .ok (.int (i - j))
  | _, _ => .stk
/-- either factor is small, or both are of at most 2 ^ 26 bits -/
def mulOk (i j : Int) : Bool := decide (i.natAbs < 2 ^ 64) || decide (j.natAbs < 2 ^ 64) || decide (i.natAbs.log2 < 2 ^ 26 - 8 ∧ j.natAbs.log2 < 2 ^ 26 - 8)
/-- a text as many times as told -/
def repS (k : Int) (x : Str) : Str := if k < 1 then Str.empty else if (k == 1 || x.length == 0) = true then x else ⟨(List.replicate k.toNat x.cps).foldl (· ++ ·) #[]⟩
def mulD : D → D → R D
  | .int i, .int j => if mulOk i j = true then .ok (.int (i * j)) else .stk
  | .lst x, .int k => if k < 2 ^ 20 ∧ -(2 ^ 20) < k ∧ szOk (x.length * k.toNat) = true then .ok (.lst (List.replicate k.toNat x).flatten) else .stk
  | .str x, .int k => if k < 2 ^ 20 ∧ -(2 ^ 20) < k ∧ szOk (x.length * k.toNat) = true then .ok (.str (repS k x)) else .stk
  | .tup x, .int k => if x.isEmpty = false ∧ -(2 ^ 20) < k ∧ k ≤ 1000 ∧ x.length ≤ 1000 then .ok (.tup (List.replicate k.toNat x).flatten) else .stk
  | _, _ => .stk
def smallPos (j : Int) : Bool := decide (0 < j ∧ j < 1073741824)
def fdivD : D → D → R D
  | .int i, .int j => if smallPos j = true then .ok (.int (i / j)) else .stk
  | _, _ => .stk
def modD : D → D → R D
  | .int i, .int j => if 0 < j then .ok (.int (i % j)) else .stk
  | _, _ => .stk
def shOk (i j : Int) : Bool := decide (0 ≤ j ∧ j ≤ 1000000 ∧ i.natAbs < 2 ^ 64)
def shlD : D → D → R D
  | .int i, .int j => if shOk i j = true then .ok (.int (i * 2 ^ j.toNat)) else .stk
  | _, _ => .stk
def powD : D → D → R D
  | .int i, .int j => if shOk i j = true then .ok (.int (i ^ j.toNat)) else .stk
  | _, _ => .stk
def shrD : D → D → R D
  | .int i, .int j => if 0 ≤ j then .ok (.int (i / 2 ^ j.toNat)) else .stk
  | _, _ => .stk
def andD : D → D → R D
  | .int i, .int j => .ok (.int (Builtin.bitAnd i j))
  | _, _ => .stk
def xorD : D → D → R D
  | .int i, .int j => .ok (.int (Builtin.bitXor i j))
  | _, _ => .stk
theorem mulOk_ok {i j : Int} (h : mulOk i j = true) : IntMulOk i j := by
  unfold mulOk at h
  simp only [Bool.or_eq_true, decide_eq_true_eq] at h
  rcases h with (h | h) | ⟨h1, h2⟩
  · exact IntMulOk.of_left (intBits_le_64 (by omega) (by omega))
  · exact IntMulOk.of_right (intBits_le_64 (by omega) (by omega))
  · have b : ∀ x : Int, Builtin.Int.intBits x ≤ x.natAbs.log2 + 1 := fun x => by
      unfold Builtin.Int.intBits
      split <;> omega
    have h3 := b i
    have h4 := b j
    have e : bitsLine = 134217728 := by decide
    unfold IntMulOk
    intro z
    rw [Bool.and_eq_true] at z
    have z2 := z.2
    unfold Builtin.Int.intTooBig at z2
    have z3 := of_decide_eq_true z2
    rw [e] at z3
    omega
section
variable {X : Cx}
theorem od_int {f : Value → Value → Sem Value} {g : D → D → R D} {C : Int → Int → Prop} {h : Int → Int → Int} (ho : OpR X f (rI C fun i j => .int (h i j))) (hg : ∀ x y z, g x y = .ok z → ∃ i j, x = .int i ∧ y = .int j ∧ z = .int (h i j) ∧ C i j) : OpR X f (rD X.K g) := by
  intro pins s σ H x y v u Q I rx ry ⟨P, dx, dy, dz, hm, r1, r2, e, out⟩
  obtain ⟨i, j, rfl, rfl, rfl, c⟩ := hg dx dy dz e
  obtain rfl := r1.int
  obtain rfl := r2.int
  exact ho pins s σ H _ _ v u Q I rx ry ⟨i, j, rfl, rfl, c, out.int⟩
theorem od_sub : OpR X (binaryOp .Sub) (rD X.K subD) := od_int (C := fun _ _ => True) (h := fun i j => i - j) (fun pins s σ H x y v u Q I rx ry ⟨i, j, e1, e2, _, q⟩ => op_sub pins s σ H x y v u Q I rx ry ⟨i, j, e1, e2, q⟩) fun x y z e => by
  cases x <;> cases y <;> simp only [subD, R.ok.injEq, reduceCtorEq] at e
  exact ⟨_, _, rfl, rfl, e.symm, trivial⟩
theorem od_and : OpR X (binaryOp .BitAnd) (rD X.K andD) := od_int (C := fun _ _ => True) (h := Builtin.bitAnd) (fun pins s σ H x y v u Q I rx ry ⟨i, j, e1, e2, _, q⟩ => op_and pins s σ H x y v u Q I rx ry ⟨i, j, e1, e2, q⟩) fun x y z e => by
  cases x <;> cases y <;> simp only [andD, R.ok.injEq, reduceCtorEq] at e
  exact ⟨_, _, rfl, rfl, e.symm, trivial⟩
theorem od_xor : OpR X (binaryOp .BitXor) (rD X.K xorD) := od_int (C := fun _ _ => True) (h := Builtin.bitXor) (fun pins s σ H x y v u Q I rx ry ⟨i, j, e1, e2, _, q⟩ => op_xor pins s σ H x y v u Q I rx ry ⟨i, j, e1, e2, q⟩) fun x y z e => by
  cases x <;> cases y <;> simp only [xorD, R.ok.injEq, reduceCtorEq] at e
  exact ⟨_, _, rfl, rfl, e.symm, trivial⟩
theorem od_fdiv : OpR X (binaryOp .FloorDiv) (rD X.K fdivD) := od_int op_fdiv fun x y z e => by
  cases x <;> cases y <;> simp only [fdivD, R.ok.injEq, reduceCtorEq] at e
  split at e
  · rename_i c; cases e; exact ⟨_, _, rfl, rfl, rfl, by unfold smallPos at c; have c := of_decide_eq_true c; exact c⟩
  · cases e
theorem od_mod : OpR X (binaryOp .Mod) (rD X.K modD) := od_int op_mod fun x y z e => by
  cases x <;> cases y <;> simp only [modD, R.ok.injEq, reduceCtorEq] at e
  split at e
  · rename_i c; cases e; exact ⟨_, _, rfl, rfl, rfl, c⟩
  · cases e
theorem od_shl : OpR X (binaryOp .LShift) (rD X.K shlD) := od_int op_shl fun x y z e => by
  cases x <;> cases y <;> simp only [shlD, R.ok.injEq, reduceCtorEq] at e
  split at e
  · rename_i c; cases e; exact ⟨_, _, rfl, rfl, rfl, by unfold shOk at c; have c := of_decide_eq_true c; exact c⟩
  · cases e
theorem od_pow : OpR X (binaryOp .Pow) (rD X.K powD) := od_int op_pow fun x y z e => by
  cases x <;> cases y <;> simp only [powD, R.ok.injEq, reduceCtorEq] at e
  split at e
  · rename_i c; cases e; exact ⟨_, _, rfl, rfl, rfl, by unfold shOk at c; have c := of_decide_eq_true c; exact c⟩
  · cases e
theorem od_shr : OpR X (binaryOp .RShift) (rD X.K shrD) := od_int op_shr fun x y z e => by
  cases x <;> cases y <;> simp only [shrD, R.ok.injEq, reduceCtorEq] at e
  split at e
  · rename_i c; cases e; exact ⟨_, _, rfl, rfl, rfl, c⟩
  · cases e
theorem od_add : OpR X (binaryOp .Add) (rD X.K addD) := by
  intro pins s σ H x y v u Q I rx ry ⟨P, dx, dy, dz, hm, r1, r2, e, out⟩
  cases dx <;> cases dy <;> simp only [addD, R.ok.injEq, reduceCtorEq] at e
  · subst e
    obtain rfl := r1.int
    obtain rfl := r2.int
    exact op_add pins s σ H _ _ v u Q I rx ry ⟨_, _, rfl, rfl, out.int⟩
  · split at e
    · rename_i c; cases e
      obtain rfl := r1.str
      obtain rfl := r2.str
      exact op_add_str pins s σ H _ _ v u Q I rx ry ⟨_, _, rfl, rfl, of_decide_eq_true c, out.str⟩
    · cases e
  · split at e
    · rename_i c; cases e
      obtain ⟨a, vs, rfl, h1, h2⟩ := r1.tup
      obtain ⟨b, ws, rfl, h3, h4⟩ := r2.tup
      refine op_catA pins s σ H _ _ v u Q I rx ry ⟨a, b, vs, ws, rfl, rfl, SqT.of h1, SqT.of h3, by rw [h2.length, h4.length]; exact of_decide_eq_true c, fun z => ?_, fun _ z => ?_, fun _ _ p hp => out.newT hm (h2.append h4) hp⟩
      · subst z
        have z := h2.length
        have z := List.length_eq_zero_iff.mp (show _ = 0 from z.symm)
        subst z
        rw [List.nil_append] at out
        exact out.flat (Rep.tup_of h3 h4) rfl
      · subst z
        have z := h4.length
        have z := List.length_eq_zero_iff.mp (show _ = 0 from z.symm)
        subst z
        rw [List.append_nil] at out
        exact out.flat (Rep.tup_of h1 h2) rfl
    · cases e
  · split at e
    · rename_i c; cases e
      obtain ⟨a, vs, rfl, h1, h2⟩ := r1.lst
      obtain ⟨b, ws, rfl, h3, h4⟩ := r2.lst
      exact op_cat pins s σ H _ _ v u Q I rx ry ⟨a, b, vs, ws, rfl, rfl, h1, h3, by rw [h2.length, h4.length]; exact of_decide_eq_true c, fun p hp => out.newL hm (h2.append h4) hp⟩
    · cases e
end
end Y

set_option Elab.async false
set_option linter.all false
set_option maxRecDepth 100000
namespace Y
open PySem PySem.Spec PyProof.Rows L2

section
open PySem.AutoSeq1 (wpAny_loadPart')
theorem tuple_mulS (l : Addr) (items : Array Value) (n : Nat) (dd : Option Addr) (sl : Array (Option Value)) (x : Int) (u : Tok) (c0 : (decide (x < -(2 ^ 63)) || decide (x ≥ 2 ^ 63)) = false) (c1 : (items.isEmpty || x == 1) = true) :
    Meets (Builtin.«tuple.__mul__» ⟨[.ref l, .int x u], []⟩) (fun _ R s => s.heap.get? l = some { cls := .type "tuple", dict := dd, data := .seq items n, slots := sl } ∧
      R (.ok (.ret (Value.ref l))) s) :=
  .of_wp fun prog w A R s h => by
    obtain ⟨hp, g, d, tk, os⟩ := s
    obtain ⟨hl, h⟩ := h
    have f1 := AutoSeq1.idx_int
    wp_walk using wpAny_loadPart' hl
    repeat (first
      | (refine wpAny_ite_false (decide_eq_false (by rw [c0]; exact Bool.false_ne_true)) ?_; wp_walk using wpAny_loadPart' hl)
      | (refine wpAny_ite_true (decide_eq_true c1) ?_; wp_walk using wpAny_loadPart' hl))
    exact ⟨_, rfl, h⟩
theorem tuple_mulE (l : Addr) (items : Array Value) (n : Nat) (dd : Option Addr) (sl : Array (Option Value)) (x : Int) (u : Tok) (c0 : (decide (x < -(2 ^ 63)) || decide (x ≥ 2 ^ 63)) = false) (c1 : (items.isEmpty || x == 1) = false) (c2 : (decide (x ≤ 0) || items.isEmpty) = true) :
    Meets (Builtin.«tuple.__mul__» ⟨[.ref l, .int x u], []⟩) (fun _ R s => s.heap.get? l = some { cls := .type "tuple", dict := dd, data := .seq items n, slots := sl } ∧
      R (.ok (.ret (Value.ref s.heap.objs.size))) { s with heap := s.heap.push { cls := Value.type "tuple", data := Data.seq #[] }, toks := s.toks }) :=
  .of_wp fun prog w A R s h => by
    obtain ⟨hp, g, d, tk, os⟩ := s
    obtain ⟨hl, h⟩ := h
    have f1 := AutoSeq1.idx_int
    wp_walk using wpAny_loadPart' hl
    repeat (first
      | (refine wpAny_ite_false (decide_eq_false (by rw [c0]; exact Bool.false_ne_true)) ?_; wp_walk using wpAny_loadPart' hl)
      | (refine wpAny_ite_false (decide_eq_false (by rw [c1]; exact Bool.false_ne_true)) ?_; wp_walk using wpAny_loadPart' hl)
      | (refine wpAny_ite_true (decide_eq_true c2) ?_; wp_walk using wpAny_loadPart' hl))
    exact ⟨_, rfl, h⟩
end
/-- a tuple times an int: once is the tuple itself -/
theorem op_repT1 {X : Cx} : OpR X (binaryOp .Mult) (fun x y H Q => ∃ l xs, x = .ref l ∧ y = .int 1 ∧ SqT X.K H l xs ∧ Q (.ref l) H) := by
  intro pins s σ H x y v u Q I rx ry h
  obtain ⟨l, xs, rfl, rfl, hT, q⟩ := h
  cases rx
  obtain ⟨t, rfl⟩ := ry
  obtain ⟨its, r, ⟨⟨cls, dd, data, sl⟩, ho, hc, n, hd⟩, hs⟩ := I.tuple hT
  simp only at hc hd
  subst hc hd
  have c0 : (decide ((1 : Int) < -(2 ^ 63)) || decide ((1 : Int) ≥ 2 ^ 63)) = false := by decide
  refine wpAny_binaryOp_repeat_ref (T := "tuple") (U := "int") (by decide) ⟨_, ho, rfl⟩ (fun s' => typeIs_int s' 1 t) noFill_tuple_mul F.fills_int_mul F.slot_int_rmul repeat_tuple F.slot_int_index.lookup
    (call_meets F.slot_int_rmul (typeIs_int s 1 t) F.entry_int_rmul (F.args_int_rmul_2 _ _) (int_rmul_tuple 1 t l its.toArray n dd sl)
      ⟨ho, rfl, ⟨_, ho, rfl⟩, call_meets F.slot_tuple_mul ⟨_, ho, rfl⟩ F.entry_tuple_mul (F.args_tuple_mul_2 _ _) (tuple_mulS l its.toArray n dd sl 1 t c0 (by simp)) ⟨ho, ?_⟩⟩)
  exact ⟨.ref l, H, I, rfl, q⟩
/-- no time or fewer: an empty tuple -/
theorem op_repT0 {X : Cx} : OpR X (binaryOp .Mult) (fun x y H Q => ∃ l k xs, x = .ref l ∧ y = .int k ∧ SqT X.K H l xs ∧ xs ≠ [] ∧ k ≤ 0 ∧ -(2 ^ 20) < k ∧ ∀ p, H p = none → Q (.ref p) (upd H p (.tup []))) := by
  intro pins s σ H x y v u Q I rx ry h
  obtain ⟨l, k, xs, rfl, rfl, hT, hne, h1, h2, q⟩ := h
  cases rx
  obtain ⟨t, rfl⟩ := ry
  obtain ⟨its, r, ⟨⟨cls, dd, data, sl⟩, ho, hc, n, hd⟩, hs⟩ := I.tuple hT
  simp only at hc hd
  subst hc hd
  have hi : its.toArray.isEmpty = false := by
    cases its with
    | nil => exact absurd (List.eq_nil_of_length_eq_zero r.length) hne
    | cons a b => rfl
  have c0 : (decide (k < -(2 ^ 63)) || decide (k ≥ 2 ^ 63)) = false := by
    rw [decide_eq_false (by omega), decide_eq_false (by omega)] <;> rfl
  have c1 : (its.toArray.isEmpty || k == 1) = false := by
    rw [hi, Bool.false_or]
    exact beq_eq_false_iff_ne.mpr (by omega)
  have c2 : (decide (k ≤ 0) || its.toArray.isEmpty) = true := by
    rw [decide_eq_true h1, Bool.true_or]
  refine wpAny_binaryOp_repeat_ref (T := "tuple") (U := "int") (by decide) ⟨_, ho, rfl⟩ (fun s' => typeIs_int s' k t) noFill_tuple_mul F.fills_int_mul F.slot_int_rmul repeat_tuple F.slot_int_index.lookup
    (call_meets F.slot_int_rmul (typeIs_int s k t) F.entry_int_rmul (F.args_int_rmul_2 _ _) (int_rmul_tuple k t l its.toArray n dd sl)
      ⟨ho, rfl, ⟨_, ho, rfl⟩, call_meets F.slot_tuple_mul ⟨_, ho, rfl⟩ F.entry_tuple_mul (F.args_tuple_mul_2 _ _) (tuple_mulE l its.toArray n dd sl k t c0 c1 c2) ⟨ho, ?_⟩⟩)
  refine ⟨.ref s.heap.objs.size, _, I.laid (t' := s.toks) (o := .tup []) (fun b ob q => Heap.get?_push_of_some _ q) (Nat.le_refl _) ?_, rfl, q _ (I.hok.fresh (Nat.le_refl _))⟩
  exact ⟨Nat.zero_le _, [], .nil, IsTup.new _ _⟩
theorem rep_all {K : PySem.W.Frag} {H : Hp} {P : Pr} {ds : List D} {vs : List V} (h : Reps K H ds P vs) : ∀ k : Nat, Reps K H (List.replicate k ds).flatten P (List.replicate k vs).flatten
  | 0 => Reps.nil
  | k + 1 => by rw [List.replicate_succ, List.replicate_succ, List.flatten_cons, List.flatten_cons]; exact h.append (rep_all h k)
noncomputable instance : DecidableEq (List D) := fun _ _ => Classical.propDecidable _
noncomputable instance : DecidableEq D := fun _ _ => Classical.propDecidable _
section
variable {X : Cx}
theorem repS_len (k : Int) (x : Str) : (⟨(List.replicate k.toNat x.cps).foldl (· ++ ·) #[]⟩ : Str).length = x.length * k.toNat := by
  show Array.size _ = _
  have h : ∀ (m : Nat) (a : Array Nat), ((List.replicate m x.cps).foldl (· ++ ·) a).size = a.size + x.cps.size * m := by
    intro m
    induction m with
    | zero => intro a; simp
    | succ m ih => intro a; rw [List.replicate_succ, List.foldl_cons, ih, Array.size_append, Nat.mul_succ]; omega
  rw [h, Array.size_empty, Nat.zero_add]
  rfl
/-- a text times an int -/
theorem op_repS : OpR X (binaryOp .Mult) (fun x y H Q => ∃ i k, x = .str i ∧ y = .int k ∧ -(2 ^ 20) < k ∧ k < 2 ^ 20 ∧ i.length * k.toNat ≤ sizeLine ∧ Q (.str (repS k i)) H) := by
  intro pins s σ H x y v u Q I rx ry h
  obtain ⟨i, k, rfl, rfl, h1, h2, hz, q⟩ := h
  obtain ⟨t, rfl⟩ := rx
  obtain ⟨t', rfl⟩ := ry
  have hs : sizeLine ≤ 2 ^ 40 := by decide
  refine PySem.P.mul_str ?_ (fun c _ => ?_) (fun _ _ => decide_eq_false (by omega)) ?_
  · rw [decide_eq_false (by omega), decide_eq_false (by omega)]; rfl
  · have e : ((i.length * k.toNat : Nat) : Int) = (i.length : Int) * k := by rw [Int.natCast_mul, Int.toNat_of_nonneg (by omega)]
    have := (Int.le_ediv_iff_mul_le (a := (i.length : Int)) (b := 2 ^ 63 - 1) (c := k) (by omega)).mpr (by rw [← e]; omega)
    omega
  · unfold repS at q
    by_cases c1 : k < 1
    · rw [if_pos c1] at q ⊢
      exact ⟨by decide, ⟨.str _, H, I.tok _, ⟨_, rfl⟩, q⟩⟩
    · rw [if_neg c1] at q ⊢
      by_cases c2 : (k == 1 || i.length == 0) = true
      · rw [if_pos c2] at q ⊢
        exact ⟨.str _, H, I, ⟨_, rfl⟩, q⟩
      · rw [if_neg c2] at q ⊢
        exact ⟨by rw [repS_len]; exact hz, ⟨.str _, H, I.tok _, ⟨_, rfl⟩, q⟩⟩
theorem od_mul : OpR X (binaryOp .Mult) (rD X.K mulD) := by
  intro pins s σ H x y v u Q I rx ry ⟨P, dx, dy, dz, hm, r1, r2, e, out⟩
  cases dx <;> cases dy <;> simp only [mulD, R.ok.injEq, reduceCtorEq] at e
  case int.int =>
    split at e
    · rename_i c; cases e
      obtain rfl := r1.int
      obtain rfl := r2.int
      obtain ⟨t, rfl⟩ := rx
      obtain ⟨t', rfl⟩ := ry
      exact mul_int ⟨.int _, H, I.tok _, ⟨_, rfl⟩, out.int⟩ (mulOk_ok c)
    · cases e
  case str.int =>
    split at e
    · rename_i c; cases e
      obtain rfl := r1.str
      obtain rfl := r2.int
      exact op_repS pins s σ H _ _ v u Q I rx ry ⟨_, _, rfl, rfl, by omega, by omega, of_decide_eq_true c.2.2, out.str⟩
    · cases e
  case tup.int =>
    split at e
    · rename_i c; cases e
      obtain ⟨a, vs, rfl, h1, h2⟩ := r1.tup
      obtain rfl := r2.int
      rename_i ds k
      have hne : vs ≠ [] := fun z => by
        have z2 := h2.length
        rw [z] at z2
        have z3 := List.length_eq_zero_iff.mp z2.symm
        rw [z3] at c
        exact absurd c.1 (by decide)
      by_cases c1 : k = 1
      · subst c1
        have e1 : (List.replicate (1 : Int).toNat ds).flatten = ds := by
          show ds ++ [] = ds
          exact List.append_nil _
        rw [e1] at out
        exact op_repT1 pins s σ H _ _ v u Q I rx ry ⟨a, vs, rfl, rfl, SqT.of h1, out.flat (Rep.tup_of h1 h2) rfl⟩
      · by_cases c2 : k ≤ 0
        · have e1 : (List.replicate k.toNat ds).flatten = [] := by
            have : k.toNat = 0 := by omega
            rw [this]; rfl
          rw [e1] at out
          exact op_repT0 pins s σ H _ _ v u Q I rx ry ⟨a, _, vs, rfl, rfl, SqT.of h1, hne, c2, c.2.1, fun p hp => out.newT hm Reps.nil hp⟩
        · exact op_repT pins s σ H _ _ v u Q I rx ry ⟨a, _, vs, rfl, rfl, SqT.of h1, hne, by omega, c.2.2.1, by rw [h2.length]; exact c.2.2.2, fun p hp => out.newT hm (rep_all h2 _) hp⟩
    · cases e
  case lst.int =>
    split at e
    · rename_i c
      have c : _ ∧ _ ∧ _ := c
      cases e
      obtain ⟨a, vs, rfl, h1, h2⟩ := r1.lst
      obtain rfl := r2.int
      exact op_rep pins s σ H _ _ v u Q I rx ry ⟨a, _, vs, rfl, rfl, h1, by omega, by omega, by rw [h2.length]; exact of_decide_eq_true c.2.2, fun p hp => out.newL hm (rep_all h2 _) hp⟩
    · cases e
end

mutual
def toPy : D → PyData
  | .non => .none
  | .bl b => .bool b
  | .int i => .int i
  | .str x => .str x
  | .tup ds => .tuple (toPys ds)
  | .lst ds => .list (toPys ds)
  | .arg ns => .list (ns.map .int)
  | .dik _ _ => .dict []
  | .dit _ _ => .dict []
  | .ftu ds => .tuple (toPys ds)
def toPys : List D → List PyData
  | [] => []
  | d :: ds => toPy d :: toPys ds
end
def dOk (d : D) : Bool := SeqAt.shaped (toPy d)
def eqP (x y : D) : Bool := PyData.eqv (toPy x) (toPy y)
theorem dp_ints {K : PySem.W.Frag} {H : Hp} : ∀ ns : List Int, DpAll K H (ns.map V.int) (ns.map PyData.int)
  | [] => .nil
  | n :: ns => .cons (.int n) (dp_ints ns)
mutual
theorem Rep.dp {K : PySem.W.Frag} {H : Hp} : ∀ (d : D) {P : Pr} {v : V}, (toPy d).canLay0 = true → Rep K H d P v → Dp K H v (toPy d)
  | .non, _, _, _, h => by unfold Rep at h; subst h; exact .non
  | .bl b, _, _, _, h => by unfold Rep at h; subst h; exact .bl b
  | .int i, _, _, _, h => by unfold Rep at h; subst h; exact .int i
  | .str i, _, _, _, h => by unfold Rep at h; subst h; exact .str i
  | .tup ds, P, v, c, h => by
    unfold Rep at h
    obtain ⟨a, vs, rfl, h1, h2⟩ := h
    unfold toPy at c ⊢
    exact .tup (SqT.of h1) (Reps.dp ds (by simpa [PyData.canLay0] using c) h2)
  | .lst ds, P, v, c, h => by
    unfold Rep at h
    obtain ⟨a, vs, rfl, _, h1, h2⟩ := h
    unfold toPy at c ⊢
    exact .lst (SqL.of h1) (Reps.dp ds (by simpa [PyData.canLay0] using c) h2)
  | .arg ns, P, v, c, h => by
    unfold Rep at h
    unfold toPy
    obtain ⟨a, rfl, h⟩ := h
    rcases h with ⟨_, h⟩ | h
    · exact .lst (.inl h) (dp_ints ns)
    · refine .lst (.inr ?_) (dp_ints ns)
      rcases h with h | h
      · rcases h with e | ⟨o, e⟩ <;> cases e
      · exact h
  | .dik _ _, _, _, c, _ => by simp [toPy, PyData.canLay0] at c
  | .dit _ _, _, _, c, _ => by simp [toPy, PyData.canLay0] at c
  | .ftu ds, P, v, c, h => by
    unfold Rep at h
    obtain ⟨a, vs, o, rfl, h1, _, h2⟩ := h
    unfold toPy at c ⊢
    exact .tup (SqT.fz h1) (Reps.dp ds (by simpa [PyData.canLay0] using c) h2)
theorem Reps.dp {K : PySem.W.Frag} {H : Hp} : ∀ (ds : List D) {P : Pr} {vs : List V}, PyData.canLayAll0 (toPys ds) = true → Reps K H ds P vs → DpAll K H vs (toPys ds)
  | [], _, _, _, h => by rw [h.nil_iff]; exact .nil
  | d :: ds, P, vs, c, h => by
    obtain ⟨v, ws, rfl, h1, h2⟩ := h.cons_iff
    unfold toPys at c ⊢
    have c := Bool.and_eq_true_iff.mp (show (PyData.canLay0 (toPy d) && PyData.canLayAll0 (toPys ds)) = true by simpa [PyData.canLayAll0] using c)
    exact .cons (Rep.dp d c.1 h1) (Reps.dp ds c.2 h2)
end
theorem RepW.dp {K : PySem.W.Frag} {H : Hp} {d : D} {P : Pr} {v : V} (c : dOk d = true) (h : RepW K H d P v) : Dp K H v (toPy d) := by
  have c := SeqAt.canLay_of_shaped c
  cases d with
  | lst ds =>
    obtain ⟨a, vs, rfl, h1, h2⟩ := h
    unfold toPy at c ⊢
    exact .lst (SqL.of h1) (Reps.dp ds (by simpa [PyData.canLay0] using c) h2)
  | arg ns =>
    obtain ⟨a, rfl, h1⟩ := h
    unfold toPy
    exact .lst h1 (dp_ints ns)
  | dik _ _ => simp [toPy, PyData.canLay0] at c
  | dit _ _ => simp [toPy, PyData.canLay0] at c
  | non => exact Rep.dp (P := P) _ c h
  | bl _ => exact Rep.dp (P := P) _ c h
  | int _ => exact Rep.dp (P := P) _ c h
  | str _ => exact Rep.dp (P := P) _ c h
  | tup _ => exact Rep.dp (P := P) _ c h
  | ftu _ => exact Rep.dp (P := P) _ c h
def eqD (x y : D) : R D := if (dOk x && dOk y) = true then .ok (.bl (eqP x y)) else .stk
def neD (x y : D) : R D := if (dOk x && dOk y) = true then .ok (.bl (!eqP x y)) else .stk
def ltD : D → D → R D
  | .int i, .int j => .ok (.bl (decide (i < j)))
  | .str x, .str y => .ok (.bl (decide (x.cps.toList < y.cps.toList)))
  | _, _ => .stk
def leD : D → D → R D
  | .int i, .int j => .ok (.bl (decide (i ≤ j)))
  | _, _ => .stk
def gtD : D → D → R D
  | .int i, .int j => .ok (.bl (decide (j < i)))
  | _, _ => .stk
def geD : D → D → R D
  | .int i, .int j => .ok (.bl (decide (j ≤ i)))
  | _, _ => .stk
def isNon : D → Bool
  | .non => true
  | _ => false
def isD : D → D → R D
  | x, .non => .ok (.bl (isNon x))
  | .bl a, .bl b => .ok (.bl (decide (a = b)))
  | _, _ => .stk
def flatD : D → Bool
  | .non => true
  | .bl _ => true
  | .int _ => true
  | .str _ => true
  | _ => false
/-- in a text of one sign, a list of data, a tuple of flat data -/
def inB : D → D → Option Bool
  | .str a, .str b => if a.length = 1 then some (decide (a.cps.getD 0 0 ∈ b.cps.toList)) else none
  | x, .lst ds => if (dOk x && dOk (.lst ds)) = true then some (ds.any fun z => eqP z x) else none
  | x, .tup ds => if (flatD x && ds.all flatD) = true then some (ds.any fun z => eqP z x) else none
  | _, _ => none
def inD (x y : D) : R D := match inB x y with | some b => .ok (.bl b) | none => .stk
def ninD (x y : D) : R D := match inB x y with | some b => .ok (.bl (!b)) | none => .stk
section
variable {K : PySem.W.Frag} {H : Hp} {P : Pr}
theorem RepW.isNon {d : D} {v : V} (h : RepW K H d P v) : decide (v = .non) = isNon d := by
  cases d with
  | non => rw [h.non]; rfl
  | bl _ => rw [h.bl]; rfl
  | int _ => rw [h.int]; rfl
  | str _ => rw [h.str]; rfl
  | tup _ => obtain ⟨a, vs, rfl, _⟩ := h.tup; rfl
  | lst _ => obtain ⟨a, vs, rfl, _⟩ := h.lst; rfl
  | arg _ => obtain ⟨a, rfl, _⟩ := h.arg; rfl
  | ftu _ => obtain ⟨a, vs, o, rfl, _⟩ := h.ftu; rfl
  | dik _ _ => obtain ⟨a, vs, rfl, _⟩ := h; rfl
  | dit _ _ => obtain ⟨a, vs, rfl, _⟩ := h; rfl
theorem flat_rep {d : D} {v : V} (f : flatD d = true) (h : Rep K H d P v) : flatV v = true := by
  cases d <;> unfold Rep at h <;> first | (subst h; rfl) | (simp [flatD] at f)
theorem flat_eq {d e : D} {v w : V} (f : flatD d = true) (g : flatD e = true) (h : Rep K H d P v) (h2 : Rep K H e P w) : eqV v w = eqP d e := by
  cases d <;> unfold Rep at h <;> first | (simp [flatD] at f; done) | skip
  all_goals (cases e <;> unfold Rep at h2 <;> first | (simp [flatD] at g; done) | skip)
  all_goals (subst h; subst h2; simp [eqV, eqP, toPy, PyData.eqv])
theorem flats_rep : ∀ {ds : List D} {vs : List V}, ds.all flatD = true → Reps K H ds P vs → vs.all flatV = true
  | [], _, _, h => by rw [h.nil_iff]; rfl
  | d :: ds, vs, f, h => by
    obtain ⟨v, ws, rfl, h1, h2⟩ := h.cons_iff
    rw [List.all_cons, Bool.and_eq_true] at f ⊢
    exact ⟨flat_rep f.1 h1, flats_rep f.2 h2⟩
theorem inV_rep {x : D} {v : V} (g : flatD x = true) (hx : Rep K H x P v) : ∀ {ds : List D} {vs : List V}, ds.all flatD = true → Reps K H ds P vs → inV v vs = ds.any fun z => eqP z x
  | [], _, _, h => by rw [h.nil_iff]; rfl
  | d :: ds, vs, f, h => by
    obtain ⟨w, ws, rfl, h1, h2⟩ := h.cons_iff
    rw [List.all_cons, Bool.and_eq_true] at f
    have ih := inV_rep g hx f.2 h2
    unfold inV at ih ⊢
    rw [List.any_cons, List.any_cons, ih, flat_eq f.1 g h1 hx]
theorem flatW {d : D} {v : V} (f : flatD d = true) (h : RepW K H d P v) : Rep K H d P v := by
  cases d <;> first | exact h | (simp [flatD] at f)
theorem dp_any {x : D} : ∀ ds : List D, ((toPys ds).any fun z => PyData.eqv z (toPy x)) = ds.any fun z => eqP z x
  | [] => rfl
  | d :: ds => by unfold toPys; rw [List.any_cons, List.any_cons, dp_any ds]; rfl
end
section
variable {X : Cx}
theorem od_eq (hu : X.A.units + 64 < cLine) : OpR X (compareOp .Eq) (rD X.K eqD) := by
  intro pins s σ H x y v u Q I rx ry ⟨P, dx, dy, dz, hm, r1, r2, e, out⟩
  unfold eqD at e
  split at e
  · rename_i c; cases e
    rw [Bool.and_eq_true] at c
    exact op_eqD hu pins s σ H x y v u Q I rx ry ⟨_, _, r1.dp c.1, r2.dp c.2, c.1, c.2, out.bl⟩
  · cases e
theorem od_ne (hu : X.A.units + 64 < cLine) : OpR X (compareOp .NotEq) (rD X.K neD) := by
  intro pins s σ H x y v u Q I rx ry ⟨P, dx, dy, dz, hm, r1, r2, e, out⟩
  unfold neD at e
  split at e
  · rename_i c; cases e
    rw [Bool.and_eq_true] at c
    exact op_neD hu pins s σ H x y v u Q I rx ry ⟨_, _, r1.dp c.1, r2.dp c.2, c.1, c.2, out.bl⟩
  · cases e
theorem od_cmp {op : CmpOp} {f : D → D → R D} {p : Int → Int → Bool} (ho : OpR X (compareOp op) (rI0 fun i j => .bl (p i j))) (hf : ∀ x y z, f x y = .ok z → ∃ i j, x = .int i ∧ y = .int j ∧ z = .bl (p i j)) : OpR X (compareOp op) (rD X.K f) := by
  intro pins s σ H x y v u Q I rx ry ⟨P, dx, dy, dz, hm, r1, r2, e, out⟩
  obtain ⟨i, j, rfl, rfl, rfl⟩ := hf _ _ _ e
  obtain rfl := r1.int
  obtain rfl := r2.int
  exact ho pins s σ H _ _ v u Q I rx ry ⟨_, _, rfl, rfl, out.bl⟩
theorem od_le : OpR X (compareOp .LtE) (rD X.K leD) := od_cmp op_le fun x y z e => by
  cases x <;> cases y <;> simp only [leD, R.ok.injEq, reduceCtorEq] at e
  exact ⟨_, _, rfl, rfl, e.symm⟩
theorem od_gt : OpR X (compareOp .Gt) (rD X.K gtD) := od_cmp op_gt fun x y z e => by
  cases x <;> cases y <;> simp only [gtD, R.ok.injEq, reduceCtorEq] at e
  exact ⟨_, _, rfl, rfl, e.symm⟩
theorem od_ge : OpR X (compareOp .GtE) (rD X.K geD) := od_cmp op_ge fun x y z e => by
  cases x <;> cases y <;> simp only [geD, R.ok.injEq, reduceCtorEq] at e
  exact ⟨_, _, rfl, rfl, e.symm⟩
theorem od_lt : OpR X (compareOp .Lt) (rD X.K ltD) := by
  intro pins s σ H x y v u Q I rx ry ⟨P, dx, dy, dz, hm, r1, r2, e, out⟩
  cases dx <;> cases dy <;> simp only [ltD, R.ok.injEq, reduceCtorEq] at e
  · subst e
    obtain rfl := r1.int
    obtain rfl := r2.int
    exact op_lt pins s σ H _ _ v u Q I rx ry ⟨_, _, rfl, rfl, out.bl⟩
  · subst e
    obtain rfl := r1.str
    obtain rfl := r2.str
    exact op_lt_str pins s σ H _ _ v u Q I rx ry ⟨_, _, rfl, rfl, out.bl⟩
theorem od_is : OpR X (compareOp .Is) (rD X.K isD) := by
  intro pins s σ H x y v u Q I rx ry ⟨P, dx, dy, dz, hm, r1, r2, e, out⟩
  unfold isD at e
  split at e
  · cases e
    obtain rfl := r2.non
    exact op_isN pins s σ H _ _ v u Q I rx ry ⟨rfl, by rw [r1.isNon]; exact out.bl⟩
  · cases e
    obtain rfl := r1.bl
    obtain rfl := r2.bl
    exact op_is_bl pins s σ H _ _ v u Q I rx ry ⟨_, _, rfl, rfl, out.bl⟩
  · cases e
theorem one_sign {a : Str} (h : a.length = 1) : a = ⟨#[a.cps.getD 0 0]⟩ := by
  refine Str.ext' ?_
  have h : a.cps.size = 1 := h
  apply Array.ext
  · simpa using h
  · intro i h1 h2
    have : i = 0 := by simp at h2; omega
    subst this
    simp [Array.getD, h]
theorem od_in (hu : X.A.units + 65 < cLine) : OpR X (compareOp .In) (rD X.K inD) := by
  intro pins s σ H x y v u Q I rx ry ⟨P, dx, dy, dz, hm, r1, r2, e, out⟩
  unfold inD at e
  split at e
  · rename_i b eb
    cases e
    unfold inB at eb
    split at eb
    · split at eb
      · rename_i c; cases eb
        obtain rfl := r1.str
        obtain rfl := r2.str
        refine op_in_sign pins s σ H _ _ v u Q I rx ry ⟨_, _, congrArg V.str (one_sign c), rfl, out.bl⟩
      · cases eb
    · split at eb
      · rename_i c; cases eb
        rw [Bool.and_eq_true] at c
        refine op_inD hu pins s σ H _ _ v u Q I rx ry ⟨_, toPys _, r1.dp c.1, by have q := r2.dp c.2; unfold toPy at q; exact q, c.1, by have q := c.2; unfold dOk toPy at q; exact q, ?_⟩
        rw [dp_any]
        exact out.bl
      · cases eb
    · split at eb
      · rename_i c; cases eb
        rw [Bool.and_eq_true] at c
        obtain ⟨a, vs, rfl, h1, h2⟩ := r2.tup
        refine op_in_seq pins s σ H _ _ v u Q I rx ry ⟨a, vs, rfl, .inr (SqT.of h1), flat_rep c.1 (flatW c.1 r1), flats_rep c.2 h2, ?_⟩
        rw [if_neg (by decide), inV_rep c.1 (flatW c.1 r1) c.2 h2]
        exact out.bl
      · cases eb
    · cases eb
  · cases e
theorem od_nin (hu : X.A.units + 65 < cLine) : OpR X (compareOp .NotIn) (rD X.K ninD) := by
  intro pins s σ H x y v u Q I rx ry ⟨P, dx, dy, dz, hm, r1, r2, e, out⟩
  unfold ninD at e
  split at e
  · rename_i b eb
    cases e
    unfold inB at eb
    split at eb
    · split at eb
      · rename_i c; cases eb
        obtain rfl := r1.str
        obtain rfl := r2.str
        refine op_notIn_sign pins s σ H _ _ v u Q I rx ry ⟨_, _, congrArg V.str (one_sign c), rfl, out.bl⟩
      · cases eb
    · split at eb
      · rename_i c; cases eb
        rw [Bool.and_eq_true] at c
        refine op_notInD hu pins s σ H _ _ v u Q I rx ry ⟨_, toPys _, r1.dp c.1, by have q := r2.dp c.2; unfold toPy at q; exact q, c.1, by have q := c.2; unfold dOk toPy at q; exact q, ?_⟩
        rw [dp_any]
        exact out.bl
      · cases eb
    · split at eb
      · rename_i c; cases eb
        rw [Bool.and_eq_true] at c
        obtain ⟨a, vs, rfl, h1, h2⟩ := r2.tup
        refine op_notIn_seq pins s σ H _ _ v u Q I rx ry ⟨a, vs, rfl, .inr (SqT.of h1), flat_rep c.1 (flatW c.1 r1), flats_rep c.2 h2, ?_⟩
        rw [if_pos rfl, inV_rep c.1 (flatW c.1 r1) c.2 h2]
        exact out.bl
      · cases eb
    · cases eb
  · cases e
end
end Y

set_option Elab.async false
set_option linter.all false
set_option maxRecDepth 100000
namespace Y
open PySem PySem.Spec PyProof.Rows L2

section
variable {X : Cx} {P0 : Pr} {O W : List Nat} {E : EK} {a b c : Expr} {ma mb mc : EM} {pos : Pos}
theorem ce_bin {op : Operator} {f : D → D → R D} (ho : OpR X (binaryOp op) (rD X.K f)) (ha : CEx X P0 O W E a ma) (hb : CEx X P0 O W E b mb) : CEx X P0 O W E (.BinOp a op b pos) (cOp f ma mb) := PE.imp (pe_op ho ha hb) tM_op
theorem ce_cmp {op : CmpOp} {f : D → D → R D} (ho : OpR X (compareOp op) (rD X.K f)) (ha : CEx X P0 O W E a ma) (hb : CEx X P0 O W E b mb) (hm : behindInMarks op b = false := by rfl) : CEx X P0 O W E (.Compare a [op] [b] pos) (cOp f ma mb) := PE.imp (pe_cmpR ho ha hb hm) tM_op
/-- a handle's truth -/
def truD : D → R Bool
  | .non => .ok false
  | .bl b => .ok b
  | .int i => .ok (i != 0)
  | .str x => if szOk x.length = true then .ok (x.length != 0) else .stk
  | .tup ds => .ok (!ds.isEmpty)
  | .lst ds => .ok (!ds.isEmpty)
  | .arg ns => .ok (!ns.isEmpty)
  | .dik _ _ => .stk
  | .dit _ _ => .stk
  | .ftu ds => .ok (!ds.isEmpty)
theorem truD_ok {K : PySem.W.Frag} {H : Hp} {P : Pr} {d : D} {v : V} {k : Bool} (h : truD d = .ok k) (r : RepW K H d P v) : TruV K v H k := by
  cases d <;> simp only [truD, R.ok.injEq, reduceCtorEq] at h
  · rw [r.non]; exact h.symm
  · rw [r.bl]; exact h.symm
  · rw [r.int]; exact h.symm
  · split at h
    · rename_i c; cases h
      rw [r.str]
      exact ⟨of_decide_eq_true c, by
        show (_ != _) = (_ != _)
        simp only [bne, Nat.beq_eq_true_eq]
        congr 1
        exact Bool.eq_iff_iff.mpr (by simp)⟩
    · cases h
  · obtain ⟨a, vs, rfl, h1, h2⟩ := r.tup
    refine .inr (.inl ⟨vs, SqT.of h1, ?_⟩)
    rw [← h]
    rename_i ds
    have := h2.length
    cases vs <;> cases ds <;> simp at this ⊢
  · obtain ⟨a, vs, rfl, h1, h2⟩ := r.lst
    refine .inl ⟨vs, SqL.of h1, ?_⟩
    rw [← h]
    rename_i ds
    have := h2.length
    cases vs <;> cases ds <;> simp at this ⊢
  · obtain ⟨a, rfl, h1⟩ := r.arg
    refine .inl ⟨_, h1, ?_⟩
    rw [← h]
    rename_i ns
    cases ns <;> rfl
  · obtain ⟨a, vs, o, rfl, h1, hdn, h2⟩ := r.ftu
    clear hdn
    refine .inr (.inl ⟨vs, SqT.fz h1, ?_⟩)
    rw [← h]
    rename_i ds
    have := h2.length
    cases vs <;> cases ds <;> simp at this ⊢
abbrev CT (X : Cx) (P0 : Pr) (O W : List Nat) (E : EK) (e : Expr) (m : BM) : Prop := PT X e (tMt X.K P0 O W E m)
def cTru (m : EM) : BM := fun ρ => do
  let (h, ρ1) ← m ρ
  let d ← (h.d ρ1).nox
  let b ← (truD d).nox
  pure (b, ρ1)
theorem ct_val (ha : CEx X P0 O W E a ma) (he : ∀ whole, isTrue a X.env whole = (do let v ← whole; standAt a.pos; holding [v] (truthy v)) := by intro _; rfl) : CT X P0 O W E a (cTru ma) := PT.imp (pt_truth ha he) fun σ H Q ⟨ρ, S, h⟩ =>
  ⟨ρ, S, h.of_bind.mono fun ⟨h1, ρ1⟩ q v H1 S1 k1 r1 => by
    obtain ⟨d, e1, q⟩ := q.of_nox
    obtain ⟨k, e2, q⟩ := q.of_nox
    exact ⟨k, truD_ok e2 (r1.d S1 e1), q H1 S1 k1⟩⟩
/-- a comparison as a test -/
def cBl (m : EM) : BM := fun ρ => do
  let (h, ρ1) ← m ρ
  let d ← h.v.nox
  match d with
  | .bl k => pure (k, ρ1)
  | _ => .stk
theorem tM_bl {m : EM} (σ : St) (H : Hp) (Q : Bool → Hp → Prop) (h : tMt X.K P0 O W E (cBl m) σ H Q) : tTest (tM X.K P0 O W E m) σ H Q := by
  obtain ⟨ρ, S, h⟩ := h
  refine ⟨ρ, S, h.of_bind.mono fun ⟨h1, ρ1⟩ q v H1 S1 k1 r1 => ?_⟩
  obtain ⟨d, e1, q⟩ := q.of_nox
  have r := r1.v e1
  cases d <;> first | (exact q.elim) | skip
  unfold Rep at r
  exact ⟨_, r, q H1 S1 k1⟩
theorem tTest_imp {t t' : TE} (i : ∀ σ H Q, t' σ H Q → t σ H Q) {σ : St} {H : Hp} {Q : Bool → Hp → Prop} (h : tTest t' σ H Q) : tTest t σ H Q := i σ H _ h
theorem ct_cmp {op : CmpOp} {f : D → D → R D} (ho : OpR X (compareOp op) (rD X.K f)) (ha : CEx X P0 O W E a ma) (hb : CEx X P0 O W E b mb) (hm : behindInMarks op b = false := by rfl) : CT X P0 O W E (.Compare a [op] [b] pos) (cBl (cOp f ma mb)) := PT.imp (pt_cmpR ho ha hb hm) fun σ H Q h => tTest_imp tM_op (tM_bl σ H Q h)
def cNotT (m : BM) : BM := fun ρ => do
  let (b, ρ1) ← m ρ
  pure (!b, ρ1)
theorem ct_not {m : BM} (h : CT X P0 O W E a m) : CT X P0 O W E (.UnaryOp .Not a pos) (cNotT m) := PT.imp (pt_not h) fun σ H Q ⟨ρ, S, h⟩ => ⟨ρ, S, h.of_bind.mono fun ⟨b, ρ1⟩ q => q⟩
abbrev CW (X : Cx) (P0 : Pr) (O W : List Nat) (E : EK) (e : Expr) (m : BM) : Prop := PW X e (tMt X.K P0 O W E m)
def cAndT (a b : BM) : BM := fun ρ => do
  let (k, ρ1) ← a ρ
  if k = true then b ρ1 else pure (false, ρ1)
def cOrT (a b : BM) : BM := fun ρ => do
  let (k, ρ1) ← a ρ
  if k = true then pure (true, ρ1) else b ρ1
theorem cw_and1 {m : BM} (h : CT X P0 O W E a m) : CW X P0 O W E (.BoolOp .And [a] pos) m := pw_and1 h
theorem cw_or1 {m : BM} (h : CT X P0 O W E a m) : CW X P0 O W E (.BoolOp .Or [a] pos) m := pw_or1 h
theorem cw_and {rest : List Expr} {m n : BM} (h : CT X P0 O W E a m) (h2 : CW X P0 O W E (.BoolOp .And (b :: rest) pos) n) : CW X P0 O W E (.BoolOp .And (a :: b :: rest) pos) (cAndT m n) := PW.imp (pw_and h h2) fun σ H Q ⟨ρ, S, h⟩ =>
  ⟨ρ, S, h.of_bind.mono fun ⟨k, ρ1⟩ q H1 S1 k1 => by
    cases k with
    | true => exact ⟨ρ1, S1, (q.keep k1).mono fun ⟨k2, ρ2⟩ q2 H2 S2 k3 => q2 H2 S2 (k1.trans k3)⟩
    | false => exact q H1 S1 k1⟩
theorem cw_or {rest : List Expr} {m n : BM} (h : CT X P0 O W E a m) (h2 : CW X P0 O W E (.BoolOp .Or (b :: rest) pos) n) : CW X P0 O W E (.BoolOp .Or (a :: b :: rest) pos) (cOrT m n) := PW.imp (pw_or h h2) fun σ H Q ⟨ρ, S, h⟩ =>
  ⟨ρ, S, h.of_bind.mono fun ⟨k, ρ1⟩ q H1 S1 k1 => by
    cases k with
    | false => exact ⟨ρ1, S1, (q.keep k1).mono fun ⟨k2, ρ2⟩ q2 H2 S2 k3 => q2 H2 S2 (k1.trans k3)⟩
    | true => exact q H1 S1 k1⟩
theorem ct_w {m : BM} (h : CW X P0 O W E a m) : CT X P0 O W E a m := h.pt
theorem HdR.then {K : PySem.W.Frag} {ρ : Env} {σ : St} {H H1 H2 : Hp} {hd : Hd} {v : V} (k : Keep W σ H H1) (r : HdR K P0 O H1 σ H2 hd v) : HdR K P0 O H σ H2 hd v := r.back k.some
def cAnd (a b : EM) : EM := fun ρ => do
  let (h, ρ1) ← a ρ
  let d ← (h.d ρ1).nox
  let k ← (truD d).nox
  if k = true then b ρ1 else pure (h, ρ1)
def cOr (a b : EM) : EM := fun ρ => do
  let (h, ρ1) ← a ρ
  let d ← (h.d ρ1).nox
  let k ← (truD d).nox
  if k = true then pure (h, ρ1) else b ρ1
def cNot (m : EM) : EM := fun ρ => do
  let (h, ρ1) ← m ρ
  let d ← (h.d ρ1).nox
  let k ← (truD d).nox
  pure (.fr (.bl (!k)), ρ1)
theorem ce_one {op : BoolOp} (h : CEx X P0 O W E a ma) : CEx X P0 O W E (.BoolOp op [a] pos) ma := pe_one h
theorem ce_and {rest : List Expr} (h : CEx X P0 O W E a ma) (h2 : CEx X P0 O W E (.BoolOp .And (b :: rest) pos) mb) : CEx X P0 O W E (.BoolOp .And (a :: b :: rest) pos) (cAnd ma mb) := PE.imp (pe_andT h h2) fun σ H Q ⟨ρ, S, h⟩ =>
  ⟨ρ, S, h.of_bind.mono fun ⟨h1, ρ1⟩ q v H1 S1 k1 r1 => by
    obtain ⟨d, e1, q⟩ := q.of_nox
    obtain ⟨k, e2, q⟩ := q.of_nox
    refine ⟨k, truD_ok e2 (r1.d S1 e1), ?_⟩
    cases k with
    | true => exact ⟨ρ1, S1, (q.keep k1).mono fun ⟨h2, ρ2⟩ q2 w H2 S2 k2 r2 => q2 w H2 S2 (k1.trans k2) (r2.back k1.some)⟩
    | false => exact q v H1 S1 k1 r1⟩
theorem ce_or {rest : List Expr} (h : CEx X P0 O W E a ma) (h2 : CEx X P0 O W E (.BoolOp .Or (b :: rest) pos) mb) : CEx X P0 O W E (.BoolOp .Or (a :: b :: rest) pos) (cOr ma mb) := PE.imp (pe_orT h h2) fun σ H Q ⟨ρ, S, h⟩ =>
  ⟨ρ, S, h.of_bind.mono fun ⟨h1, ρ1⟩ q v H1 S1 k1 r1 => by
    obtain ⟨d, e1, q⟩ := q.of_nox
    obtain ⟨k, e2, q⟩ := q.of_nox
    refine ⟨k, truD_ok e2 (r1.d S1 e1), ?_⟩
    cases k with
    | false => exact ⟨ρ1, S1, (q.keep k1).mono fun ⟨h2, ρ2⟩ q2 w H2 S2 k2 r2 => q2 w H2 S2 (k1.trans k2) (r2.back k1.some)⟩
    | true => exact q v H1 S1 k1 r1⟩
theorem ce_not (h : CEx X P0 O W E a ma) : CEx X P0 O W E (.UnaryOp .Not a pos) (cNot ma) := PE.imp (pe_notT h) fun σ H Q ⟨ρ, S, h⟩ =>
  ⟨ρ, S, h.of_bind.mono fun ⟨h1, ρ1⟩ q v H1 S1 k1 r1 => by
    obtain ⟨d, e1, q⟩ := q.of_nox
    obtain ⟨k, e2, q⟩ := q.of_nox
    exact ⟨k, truD_ok e2 (r1.d S1 e1), (out_of S1 k1 q).bl⟩⟩
def cChain2 (g : D → D → R D) (c : EM) (h2 : Hd) : EM := fun ρ2 => do
  let (h3, ρ3) ← c ρ2
  let y ← (h2.d ρ3).nox
  let w ← (h3.d ρ3).nox
  let z ← (g y w).nox
  pure (.fr z, ρ3)
def cChain (f g : D → D → R D) (a b c : EM) : EM := fun ρ => do
  let (h1, ρ1) ← a ρ
  let (h2, ρ2) ← b ρ1
  let x ← (h1.d ρ2).nox
  let y ← (h2.d ρ2).nox
  let z ← (f x y).nox
  match z with
  | .bl k => if k = true then cChain2 g c h2 ρ2 else .ok (.fr (.bl false), ρ2)
  | _ => .stk
theorem tM_chain {f g : D → D → R D} (σ : St) (H : Hp) (Q : VK) (h : tM X.K P0 O W E (cChain f g ma mb mc) σ H Q) : tChain (rD X.K f) (rD X.K g) (tM X.K P0 O W E ma) (tM X.K P0 O W E mb) (tM X.K P0 O W E mc) σ H Q := by
  obtain ⟨ρ, S, h⟩ := h
  refine ⟨ρ, S, h.of_bind.mono fun ⟨h1, ρ1⟩ q x H1 S1 k1 r1 => ⟨ρ1, S1, (q.keep k1).of_bind.mono fun ⟨h2, ρ2⟩ q2 y H2 S2 k2 r2 => ?_⟩⟩
  obtain ⟨dx, e1, q3⟩ := q2.of_nox
  obtain ⟨dy, e2, q4⟩ := q3.of_nox
  obtain ⟨dz, e3, q5⟩ := q4.of_nox
  refine ⟨FA P0 O σ, dx, dy, dz, S2.dom, (r1.keep S1 k2).d S2 e1, r2.d S2 e2, e3, fun v H3 sm r fr => ?_⟩
  cases dz <;> first | (exact q5.elim) | skip
  rename_i bb
  unfold Rep at r
  refine ⟨bb, r, ?_⟩
  have k3 : Keep W σ H2 H3 := Keep.same sm
  have S3 := S2.same sm
  cases bb with
  | false =>
    refine (if_neg Bool.false_ne_true).mpr ?_
    exact (q5 : ∀ v H', _) (.bl false) H3 S3 ((k1.trans k2).trans k3) ⟨by unfold Rep; rfl, fun z => by cases z⟩
  | true =>
    have q5 : Res E W σ H1 (cChain2 g mc h2 ρ2) _ := q5
    unfold cChain2 at q5
    refine (if_pos rfl).mpr ⟨ρ2, S3, (q5.keep (k2.trans k3)).of_bind.mono fun ⟨h3, ρ3⟩ q6 w H4 S4 k4 r4 => ?_⟩
    obtain ⟨dy2, e5, q7⟩ := q6.of_nox
    obtain ⟨dw, e6, q8⟩ := q7.of_nox
    obtain ⟨du, e7, q9⟩ := q8.of_nox
    exact ⟨FA P0 O σ, dy2, dw, du, S4.dom, ((r2.keep S2 k3).keep S3 k4).d S4 e5, r4.d S4 e6, e7, out_of S4 (((k1.trans k2).trans k3).trans k4) q9⟩
theorem ce_chain {op op' : CmpOp} {f g : D → D → R D} (ho : OpR X (compareOp op) (rD X.K f)) (ho' : OpR X (compareOp op') (rD X.K g)) (ha : CEx X P0 O W E a ma) (hb : CEx X P0 O W E b mb) (hc : CEx X P0 O W E c mc)
    (hm : lastMarks [op, op'] [b, c] = false := by with_unfolding_all rfl) : CEx X P0 O W E (.Compare a [op, op'] [b, c] pos) (cChain f g ma mb mc) := PE.imp (pe_chain ho ho' ha hb hc hm) tM_chain
def cNeg (m : EM) : EM := fun ρ => do
  let (h, ρ1) ← m ρ
  let d ← h.v.nox
  match d with
  | .int i => pure (.fr (.int (-i)), ρ1)
  | _ => .stk
theorem ce_neg (h : CEx X P0 O W E a ma) : CEx X P0 O W E (.UnaryOp .USub a pos) (cNeg ma) := PE.imp (pe_un un_neg h) fun σ H Q ⟨ρ, S, h⟩ =>
  ⟨ρ, S, h.of_bind.mono fun ⟨h1, ρ1⟩ q v H1 S1 k1 r1 => by
    obtain ⟨d, e1, q⟩ := q.of_nox
    have r := r1.v e1
    cases d <;> first | (exact q.elim) | skip
    unfold Rep at r
    exact ⟨_, r, (out_of S1 k1 q).int⟩⟩
end
end Y

set_option Elab.async false
set_option linter.all false
set_option maxRecDepth 100000
namespace Y
open PySem PySem.Spec PyProof.Rows L2

def cNil : AM := fun ρ => .ok ([], ρ)
def cCons (a : EM) (as : AM) : AM := fun ρ => do
  let (h, ρ1) ← a ρ
  let (hs, ρ2) ← as ρ1
  pure (h :: hs, ρ2)
def vsOf : List Hd → R (List D)
  | [] => .ok []
  | h :: hs => do
    let d ← h.v.nox
    let ds ← vsOf hs
    pure (d :: ds)
def dsOf : List Hd → Env → R (List D)
  | [], _ => .ok []
  | h :: hs, ρ => do
    let d ← (h.d ρ).nox
    let ds ← dsOf hs ρ
    pure (d :: ds)
def RepWs (K : PySem.W.Frag) (H : Hp) : List D → Pr → List V → Prop
  | [], _, vs => vs = []
  | d :: ds, P, vs => ∃ v ws, vs = v :: ws ∧ RepW K H d P v ∧ RepWs K H ds P ws
theorem R.ok_of {α β : Type} {r : R α} {f : α → R β} {b : β} (h : (r >>= f) = .ok b) : ∃ a, r = .ok a ∧ f a = .ok b := by
  cases r with
  | ok a => exact ⟨a, rfl, h⟩
  | er c ds => cases h
  | stk => cases h
theorem R.nox_of {α : Type} {r : R α} {a : α} (h : r.nox = .ok a) : r = .ok a := by cases r <;> first | exact h | cases h
theorem RepWs.get1 {K : PySem.W.Frag} {H : Hp} {d : D} {P : Pr} {vs : List V} (h : RepWs K H [d] P vs) : ∃ v, vs = [v] ∧ RepW K H d P v := by
  obtain ⟨v, ws, rfl, h1, h2⟩ := h
  have h2 : ws = [] := h2
  subst h2
  exact ⟨v, rfl, h1⟩
theorem RepWs.get2 {K : PySem.W.Frag} {H : Hp} {d e : D} {P : Pr} {vs : List V} (h : RepWs K H [d, e] P vs) : ∃ v w, vs = [v, w] ∧ RepW K H d P v ∧ RepW K H e P w := by
  obtain ⟨v, ws, rfl, h1, h2⟩ := h
  obtain ⟨w, rfl, h3⟩ := RepWs.get1 h2
  exact ⟨v, w, rfl, h1, h3⟩
section
variable {K : PySem.W.Frag} {P0 : Pr} {O W : List Nat} {ρ : Env} {σ : St} {Hs H : Hp}
theorem HdRs.vs : ∀ {hs : List Hd} {vs : List V} {ds : List D}, HdRs K P0 O Hs σ H hs vs → vsOf hs = .ok ds → Reps K H ds (FA P0 O σ) vs
  | [], _, _, r, e => by cases e; have r : _ = [] := r; subst r; exact Reps.nil
  | h :: hs, _, _, ⟨v, ws, e, r1, r2⟩, q => by
    obtain ⟨d, e1, q⟩ := R.ok_of q
    obtain ⟨ds, e2, q⟩ := R.ok_of q
    cases q
    subst e
    exact Reps.cons (r1.v (R.nox_of e1)) (HdRs.vs r2 e2)
theorem HdRs.ds (S : Sim K P0 O W ρ σ H) : ∀ {hs : List Hd} {vs : List V} {ds : List D}, HdRs K P0 O Hs σ H hs vs → dsOf hs ρ = .ok ds → RepWs K H ds (FA P0 O σ) vs
  | [], _, _, r, e => by cases e; exact r
  | h :: hs, _, _, ⟨v, ws, e, r1, r2⟩, q => by
    obtain ⟨d, e1, q⟩ := R.ok_of q
    obtain ⟨ds, e2, q⟩ := R.ok_of q
    cases q
    subst e
    exact ⟨v, ws, rfl, r1.d S (R.nox_of e1), HdRs.ds S r2 e2⟩
end
section
variable {X : Cx} {P0 : Pr} {O W : List Nat} {E : EK} {a b c e : Expr} {es : List Expr} {ma mb mc : EM} {ms : AM} {pos : Pos}
abbrev CA (X : Cx) (P0 : Pr) (O W : List Nat) (E : EK) (es : List Expr) (m : AM) : Prop := PA X es (tMs X.K P0 O W E m)
theorem ca_nil : CA X P0 O W E [] cNil := PA.imp pa_nil fun σ H Q ⟨ρ, S, h⟩ => h [] H S .refl rfl
theorem ca_cons (h : CEx X P0 O W E e ma) (hs : CA X P0 O W E es ms) (hst : starEach (e :: es) X.env = (false, eval e X.env) :: starEach es X.env := by rfl) : CA X P0 O W E (e :: es) (cCons ma ms) := PA.imp (pa_cons h hs hst) fun σ H Q ⟨ρ, S, h⟩ =>
  ⟨ρ, S, h.of_bind.mono fun ⟨h1, ρ1⟩ q v H1 S1 k1 r1 => ⟨ρ1, S1, (q.keep k1).of_bind.mono fun ⟨hs, ρ2⟩ q2 vs H2 S2 k2 r2 => q2 _ H2 S2 (k1.trans k2) ⟨v, vs, rfl, r1.keep S1 k2, HdRs.back k1.some r2⟩⟩⟩
def cTup (m : AM) : EM := fun ρ => do
  let (hs, ρ1) ← m ρ
  let ds ← (vsOf hs).nox
  if szOk ds.length = true then pure (.fr (.tup ds), ρ1) else .stk
def cLst (m : AM) : EM := fun ρ => do
  let (hs, ρ1) ← m ρ
  let ds ← (vsOf hs).nox
  if szOk ds.length = true then pure (.fr (.lst ds), ρ1) else .stk
theorem ce_tup {x1} (h : CA X P0 O W E es ms) : CEx X P0 O W E (.Tuple es x1 pos) (cTup ms) := PE.imp (pe_tup h) fun σ H Q ⟨ρ, S, h⟩ =>
  ⟨ρ, S, h.of_bind.mono fun ⟨hs, ρ1⟩ q vs H1 S1 k1 r1 => by
    obtain ⟨ds, e1, q⟩ := q.of_nox
    have rr := HdRs.vs r1 e1
    by_cases c : szOk ds.length = true
    · rw [if_pos c] at q
      exact ⟨by rw [rr.length]; exact of_decide_eq_true c, fun p hp => (out_of S1 k1 q).newT S1.dom rr hp⟩
    · rw [if_neg c] at q
      exact q.elim⟩
theorem ce_lst (h : CA X P0 O W E es ms) : CEx X P0 O W E (.List es pos) (cLst ms) := PE.imp (pe_lst h) fun σ H Q ⟨ρ, S, h⟩ =>
  ⟨ρ, S, h.of_bind.mono fun ⟨hs, ρ1⟩ q vs H1 S1 k1 r1 => by
    obtain ⟨ds, e1, q⟩ := q.of_nox
    have rr := HdRs.vs r1 e1
    by_cases c : szOk ds.length = true
    · rw [if_pos c] at q
      exact ⟨by rw [rr.length]; exact of_decide_eq_true c, fun p hp => (out_of S1 k1 q).newL S1.dom rr hp⟩
    · rw [if_neg c] at q
      exact q.elim⟩

def cCall (f : List D → R D) (m : AM) : EM := fun ρ => do
  let (hs, ρ1) ← m ρ
  let ds ← (dsOf hs ρ1).nox
  let z ← (f ds).nox
  pure (.fr z, ρ1)
def rDs (K : PySem.W.Frag) (f : List D → R D) : List V → Hp → VK → Prop := fun xs H Q => ∃ (P : Pr) (ds : List D) (dz : D), (∀ b, P b → isMut (H b)) ∧ RepWs K H ds P xs ∧ f ds = .ok dz ∧ Out K P H dz Q
theorem tM_call {f : List D → R D} (σ : St) (H : Hp) (Q : VK) (h : tM X.K P0 O W E (cCall f ms) σ H Q) : tCB (rDs X.K f) (tMs X.K P0 O W E ms) σ H Q := by
  obtain ⟨ρ, S, h⟩ := h
  refine ⟨ρ, S, h.of_bind.mono fun ⟨hs, ρ1⟩ q vs H1 S1 k1 r1 => ?_⟩
  obtain ⟨ds, e1, q⟩ := q.of_nox
  obtain ⟨z, e2, q⟩ := q.of_nox
  exact ⟨FA P0 O σ, ds, z, S1.dom, HdRs.ds S1 r1 e1, e2, out_of S1 k1 q⟩
theorem ce_callB {f : List D → R D} {id : String} {x : Str} {p : Pos} (hc : CallR X (.builtin id) (rDs X.K f)) (hm : X.mg x = none) (hv : bootBuiltins x = some (.builtin id)) (ha : CA X P0 O W E (e :: es) ms) (hg : Gl X x := by rfl) (hn : x ≠ "__name__" := by decide) (hdb : (x == ("__debug__" : Str)) = false := by decide)
    (he : starEach (e :: es) X.env = (false, eval e X.env) :: starEach es X.env := by rfl) (hpl : (backTo pos (starEach es X.env)).any (·.1) = false := by rfl) : CEx X P0 O W E (.Call (.Name x p) (e :: es) [] pos) (cCall f ms) := PE.imp (pe_callB hc hg hm hv ha hn hdb he hpl) tM_call
theorem ce_callT {f : List D → R D} {T : String} {x : Str} {p : Pos} (hc : CallR X (.type T) (rDs X.K f)) (hm : X.mg x = none) (hv : bootBuiltins x = some (.type T)) (ha : CA X P0 O W E (e :: es) ms) (hg : Gl X x := by rfl) (hn : x ≠ "__name__" := by decide) (hdb : (x == ("__debug__" : Str)) = false := by decide)
    (he : starEach (e :: es) X.env = (false, eval e X.env) :: starEach es X.env := by rfl) (hpl : (backTo pos (starEach es X.env)).any (·.1) = false := by rfl) : CEx X P0 O W E (.Call (.Name x p) (e :: es) [] pos) (cCall f ms) := PE.imp (pe_callTy hc hg hm hv ha hn hdb he hpl) tM_call
def lenD : List D → R D
  | [.str x] => if szOk x.length = true then .ok (.int x.length) else .stk
  | [.tup ds] => .ok (.int ds.length)
  | [.lst ds] => .ok (.int ds.length)
  | [.arg ns] => .ok (.int ns.length)
  | [.ftu ds] => .ok (.int ds.length)
  | _ => .stk
def max2D : List D → R D
  | [.int i, .int j] => .ok (.int (max i j))
  | _ => .stk
def min2D : List D → R D
  | [.int i, .int j] => .ok (.int (min i j))
  | _ => .stk
def divmodD : List D → R D
  | [.int i, .int j] => if smallPos j = true then .ok (.tup [.int (i / j), .int (i % j)]) else .stk
  | _ => .stk
/-- the ints of a list -/
def intsOf : List D → Option (List Int)
  | [] => some []
  | .int i :: ds => (intsOf ds).map (i :: ·)
  | _ => none
def blsOf : List D → Option (List Bool)
  | [] => some []
  | .bl i :: ds => (blsOf ds).map (i :: ·)
  | _ => none
def strsOf : List D → Option (List Str)
  | [] => some []
  | .str i :: ds => (strsOf ds).map (i :: ·)
  | _ => none
def sumD : List D → R D
  | [.lst ds] => match intsOf ds with
    | some ns => .ok (.int ns.sum)
    | none => .stk
  | _ => .stk
def allD : List D → R D
  | [.lst ds] => match blsOf ds with
    | some bs => .ok (.bl (bs.all id))
    | none => .stk
  | _ => .stk
/-- tuple(x), list(x) -/
def tupleD : List D → R D
  | [.lst ds] => .ok (.tup ds)
  | [.tup ds] => .ok (.tup ds)
  | [.ftu ds] => .ok (.ftu ds)
  | _ => .stk
def listD : List D → R D
  | [.lst ds] => .ok (.lst ds)
  | [.tup ds] => .ok (.lst ds)
  | [.ftu ds] => .ok (.lst ds)
  | _ => .stk
def intOfD : List D → R D
  | [.int i] => .ok (.int i)
  | [.bl k] => .ok (.int (if k then 1 else 0))
  | [.str x] => if x.length = 1 ∧ 48 ≤ x.cps.getD 0 0 ∧ x.cps.getD 0 0 < 58 then .ok (.int ((x.cps.getD 0 0 : Nat) - 48)) else .stk
  | _ => .stk
def strOfD : List D → R D
  | [.int i] => if i.natAbs.log2 < 1920 then .ok (.str (toString i)) else .stk
  | _ => .stk
theorem ints_rep {K : PySem.W.Frag} {H : Hp} {P : Pr} : ∀ {ds : List D} {ns : List Int} {vs : List V}, intsOf ds = some ns → Reps K H ds P vs → vs = ns.map V.int
  | [], ns, vs, e, h => by simp [intsOf] at e; subst e; exact h.nil_iff
  | d :: ds, ns, vs, e, h => by
    cases d <;> simp [intsOf] at e
    obtain ⟨ms, e1, rfl⟩ := e
    obtain ⟨v, ws, rfl, h1, h2⟩ := h.cons_iff
    unfold Rep at h1
    rw [h1, ints_rep e1 h2]
    rfl
theorem bls_rep {K : PySem.W.Frag} {H : Hp} {P : Pr} : ∀ {ds : List D} {ns : List Bool} {vs : List V}, blsOf ds = some ns → Reps K H ds P vs → vs = ns.map V.bl
  | [], ns, vs, e, h => by simp [blsOf] at e; subst e; exact h.nil_iff
  | d :: ds, ns, vs, e, h => by
    cases d <;> simp [blsOf] at e
    obtain ⟨ms, e1, rfl⟩ := e
    obtain ⟨v, ws, rfl, h1, h2⟩ := h.cons_iff
    unfold Rep at h1
    rw [h1, bls_rep e1 h2]
    rfl
theorem strs_rep {K : PySem.W.Frag} {H : Hp} {P : Pr} : ∀ {ds : List D} {ns : List Str} {vs : List V}, strsOf ds = some ns → Reps K H ds P vs → vs = ns.map V.str
  | [], ns, vs, e, h => by simp [strsOf] at e; subst e; exact h.nil_iff
  | d :: ds, ns, vs, e, h => by
    cases d <;> simp [strsOf] at e
    obtain ⟨ms, e1, rfl⟩ := e
    obtain ⟨v, ws, rfl, h1, h2⟩ := h.cons_iff
    unfold Rep at h1
    rw [h1, strs_rep e1 h2]
    rfl
theorem int2_of {f : Int → Int → D} {g : List D → R D} {ds : List D} {z : D} (hg : ∀ ds, g ds = match ds with | [.int i, .int j] => .ok (f i j) | _ => .stk) (h : g ds = .ok z) : ∃ i j, ds = [.int i, .int j] ∧ z = f i j := by
  rw [hg] at h
  split at h
  · cases h; exact ⟨_, _, rfl, rfl⟩
  · cases h
theorem cd_len : CallR X (.builtin "len") (rDs X.K lenD) := by
  intro pins s σ H xs us Q I r ⟨P, ds, dz, hm, rs, e, out⟩
  unfold lenD at e
  split at e
  · split at e
    · rename_i c; cases e
      obtain ⟨v, rfl, r1⟩ := rs.get1
      obtain rfl := r1.str
      exact call_len pins s σ H _ us Q I r ⟨_, _, rfl, ⟨of_decide_eq_true c, rfl⟩, out.int⟩
    · cases e
  · cases e
    obtain ⟨v, rfl, r1⟩ := rs.get1
    obtain ⟨a, vs, rfl, h1, h2⟩ := r1.tup
    rw [← h2.length] at out
    exact call_len pins s σ H _ us Q I r ⟨_, _, rfl, .inr ⟨vs, SqT.of h1, rfl⟩, out.int⟩
  · cases e
    obtain ⟨v, rfl, r1⟩ := rs.get1
    obtain ⟨a, vs, rfl, h1, h2⟩ := r1.lst
    rw [← h2.length] at out
    exact call_len pins s σ H _ us Q I r ⟨_, _, rfl, .inl ⟨vs, SqL.of h1, rfl⟩, out.int⟩
  · cases e
    obtain ⟨v, rfl, r1⟩ := rs.get1
    obtain ⟨a, rfl, h1⟩ := r1.arg
    refine call_len pins s σ H _ us Q I r ⟨_, _, rfl, .inl ⟨_, h1, rfl⟩, ?_⟩
    rw [List.length_map]
    exact out.int
  · cases e
    obtain ⟨v, rfl, r1⟩ := rs.get1
    obtain ⟨a, vs, o, rfl, h1, _, h2⟩ := r1.ftu
    rw [← h2.length] at out
    exact call_len pins s σ H _ us Q I r ⟨_, _, rfl, .inr ⟨vs, SqT.fz h1, rfl⟩, out.int⟩
  · cases e
theorem cd_max (hc : X.calm = true) : CallR X (.builtin "max") (rDs X.K max2D) := by
  intro pins s σ H xs us Q I r ⟨P, ds, dz, hm, rs, e, out⟩
  obtain ⟨i, j, rfl, rfl⟩ := int2_of (f := fun i j => .int (max i j)) (fun ds => by unfold max2D; rfl) e
  obtain ⟨v, w, rfl, r1, r2⟩ := rs.get2
  obtain rfl := r1.int
  obtain rfl := r2.int
  refine call_max2 hc pins s σ H _ us Q I r ⟨i, j, rfl, ?_⟩
  rw [show (if j > i then j else i) = max i j by omega]
  exact out.int
theorem cd_min (hc : X.calm = true) : CallR X (.builtin "min") (rDs X.K min2D) := by
  intro pins s σ H xs us Q I r ⟨P, ds, dz, hm, rs, e, out⟩
  obtain ⟨i, j, rfl, rfl⟩ := int2_of (f := fun i j => .int (min i j)) (fun ds => by unfold min2D; rfl) e
  obtain ⟨v, w, rfl, r1, r2⟩ := rs.get2
  obtain rfl := r1.int
  obtain rfl := r2.int
  refine call_min2 hc pins s σ H _ us Q I r ⟨i, j, rfl, ?_⟩
  rw [show (if j < i then j else i) = min i j by omega]
  exact out.int
theorem cd_divmod : CallR X (.builtin "divmod") (rDs X.K divmodD) := by
  intro pins s σ H xs us Q I r ⟨P, ds, dz, hm, rs, e, out⟩
  unfold divmodD at e
  split at e
  · split at e
    · rename_i c; cases e
      obtain ⟨v, w, rfl, r1, r2⟩ := rs.get2
      obtain rfl := r1.int
      obtain rfl := r2.int
      refine call_divmod pins s σ H _ us Q I r ⟨_, _, rfl, by unfold smallPos at c; have c := of_decide_eq_true c; exact c, fun p hp => out.newT hm (Reps.cons (by unfold Rep; rfl) (Reps.cons (by unfold Rep; rfl) Reps.nil)) hp⟩
    · cases e
  · cases e
theorem cd_sum (hc : X.calm = true) : CallR X (.builtin "sum") (rDs X.K sumD) := by
  intro pins s σ H xs us Q I r ⟨P, ds, dz, hm, rs, e, out⟩
  unfold sumD at e
  split at e
  · split at e
    · rename_i ns c; cases e
      obtain ⟨v, rfl, r1⟩ := rs.get1
      obtain ⟨a, vs, rfl, h1, h2⟩ := r1.lst
      obtain rfl := ints_rep c h2
      exact cr_sum hc pins s σ H _ us Q I r ⟨a, ns, rfl, SqL.of h1, out.int⟩
    · cases e
  · cases e
theorem cd_all (hc : X.calm = true) : CallR X (.builtin "all") (rDs X.K allD) := by
  intro pins s σ H xs us Q I r ⟨P, ds, dz, hm, rs, e, out⟩
  unfold allD at e
  split at e
  · split at e
    · rename_i ns c; cases e
      obtain ⟨v, rfl, r1⟩ := rs.get1
      obtain ⟨a, vs, rfl, h1, h2⟩ := r1.lst
      obtain rfl := bls_rep c h2
      exact cr_all hc pins s σ H _ us Q I r ⟨a, ns, rfl, SqL.of h1, out.bl⟩
    · cases e
  · cases e
theorem cd_tuple : CallR X (.type "tuple") (rDs X.K tupleD) := by
  intro pins s σ H xs us Q I r ⟨P, ds, dz, hm, rs, e, out⟩
  unfold tupleD at e
  split at e
  · cases e
    obtain ⟨v, rfl, r1⟩ := rs.get1
    obtain ⟨a, vs, rfl, h1, h2⟩ := r1.lst
    exact call_tuple_of pins s σ H _ us Q I r ⟨a, vs, rfl, .inl ⟨SqL.of h1, fun l hl => out.newT hm h2 hl⟩⟩
  · cases e
    obtain ⟨v, rfl, r1⟩ := rs.get1
    obtain ⟨a, vs, rfl, h1, h2⟩ := r1.tup
    exact call_tuple_of pins s σ H _ us Q I r ⟨a, vs, rfl, .inr ⟨SqT.of h1, out.flat (Rep.tup_of h1 h2) rfl⟩⟩
  · cases e
    obtain ⟨v, rfl, r1⟩ := rs.get1
    obtain ⟨a, vs, o, rfl, h1, hd, h2⟩ := r1.ftu
    exact call_tuple_of pins s σ H _ us Q I r ⟨a, vs, rfl, .inr ⟨SqT.fz h1, out.flat (Rep.ftu_of h1 hd h2) rfl⟩⟩
  · cases e
theorem cd_list : CallR X (.type "list") (rDs X.K listD) := by
  intro pins s σ H xs us Q I r ⟨P, ds, dz, hm, rs, e, out⟩
  unfold listD at e
  split at e
  · cases e
    obtain ⟨v, rfl, r1⟩ := rs.get1
    obtain ⟨a, vs, rfl, h1, h2⟩ := r1.lst
    exact call_list_of pins s σ H _ us Q I r ⟨a, vs, rfl, .inl (SqL.of h1), fun l hl => out.newL hm h2 hl⟩
  · cases e
    obtain ⟨v, rfl, r1⟩ := rs.get1
    obtain ⟨a, vs, rfl, h1, h2⟩ := r1.tup
    exact call_list_of pins s σ H _ us Q I r ⟨a, vs, rfl, .inr (SqT.of h1), fun l hl => out.newL hm h2 hl⟩
  · cases e
    obtain ⟨v, rfl, r1⟩ := rs.get1
    obtain ⟨a, vs, o, rfl, h1, _, h2⟩ := r1.ftu
    exact call_list_of pins s σ H _ us Q I r ⟨a, vs, rfl, .inr (SqT.fz h1), fun l hl => out.newL hm h2 hl⟩
  · cases e
theorem cd_str : CallR X (.type "str") (rDs X.K strOfD) := by
  intro pins s σ H xs us Q I r ⟨P, ds, dz, hm, rs, e, out⟩
  unfold strOfD at e
  split at e
  · split at e
    · rename_i c; cases e
      obtain ⟨v, rfl, r1⟩ := rs.get1
      obtain rfl := r1.int
      exact call_str_int pins s σ H _ us Q I r ⟨_, rfl, c, out.str⟩
    · cases e
  · cases e
theorem digit_text : ∀ c : Nat, 48 ≤ c → c < 58 → PySem.intText? ⟨#[c]⟩ = some ((c : Int) - 48) := by
  intro c h1 h2
  have : c = 48 ∨ c = 49 ∨ c = 50 ∨ c = 51 ∨ c = 52 ∨ c = 53 ∨ c = 54 ∨ c = 55 ∨ c = 56 ∨ c = 57 := by omega
  rcases this with rfl | rfl | rfl | rfl | rfl | rfl | rfl | rfl | rfl | rfl <;> decide +kernel
theorem cd_int : CallR X (.type "int") (rDs X.K intOfD) := by
  intro pins s σ H xs us Q I r ⟨P, ds, dz, hm, rs, e, out⟩
  unfold intOfD at e
  split at e
  · cases e
    obtain ⟨v, rfl, r1⟩ := rs.get1
    obtain rfl := r1.int
    exact call_int1 pins s σ H _ us Q I r (.inl ⟨_, rfl, out.int⟩)
  · cases e
    obtain ⟨v, rfl, r1⟩ := rs.get1
    obtain rfl := r1.bl
    exact call_int1 pins s σ H _ us Q I r (.inr ⟨_, rfl, out.int⟩)
  · split at e
    · rename_i x c; cases e
      obtain ⟨v, rfl, r1⟩ := rs.get1
      obtain rfl := r1.str
      refine call_int_str pins s σ H _ us Q I r ⟨x, _, rfl, ?_, by rw [c.1]; decide, out.int⟩
      have q := digit_text _ c.2.1 c.2.2
      rw [one_sign c.1]
      exact q
    · cases e
  · cases e
end
end Y

set_option Elab.async false
set_option linter.all false
set_option maxRecDepth 100000
namespace Y
open PySem PySem.Spec PyProof.Rows L2

def ixD : D → D → R D
  | .str x, .int i => match atI x.cps.toList i with
    | some c => if szOk x.length = true then .ok (.str ⟨#[c]⟩) else .stk
    | none => .stk
  | .tup ds, .int i => match atI ds i with | some d => .ok d | none => .stk
  | .lst ds, .int i => match atI ds i with | some d => .ok d | none => .stk
  | .arg ns, .int i => match atI ns i with | some n => .ok (.int n) | none => .stk
  | .ftu ds, .int i => match atI ds i with | some d => .ok d | none => .stk
  | _, _ => .stk
def cIx (a b : EM) : EM := fun ρ => do
  let (h1, ρ1) ← a ρ
  let (h2, ρ2) ← b ρ1
  let x ← (h1.d ρ2).nox
  let y ← (h2.d ρ2).nox
  let z ← (ixD x y).nox
  pure (.vl z, ρ2)
theorem Reps.atI {K : PySem.W.Frag} {H : Hp} {P : Pr} {ds : List D} {vs : List V} {i : Int} {d : D} (h : Reps K H ds P vs) (e : L2.atI ds i = some d) : ∃ v, L2.atI vs i = some v ∧ Rep K H d P v := by
  unfold L2.atI at e ⊢
  rw [h.length]
  cases q : ixN ds.length i with
  | none => rw [q] at e; cases e
  | some j => rw [q] at e; exact h.get e
theorem ints_atI {ns : List Int} {i n : Int} (e : atI ns i = some n) : atI (ns.map V.int) i = some (.int n) := by
  unfold atI at e ⊢
  rw [List.length_map]
  cases q : ixN ns.length i with
  | none => rw [q] at e; cases e
  | some j =>
    rw [q] at e
    show (ns.map V.int)[j]? = _
    rw [List.getElem?_map, show ns[j]? = some n from e]
    rfl
/-- the items of ds[lo:hi] -/
def cutD (ds : List D) (lo hi : Option Int) : List D := (ds.drop (HT.sIx ds.length 0 lo)).take (HT.sIx ds.length ds.length hi - HT.sIx ds.length 0 lo)
theorem Reps.drop {K : PySem.W.Frag} {H : Hp} {P : Pr} : ∀ (n : Nat) {ds : List D} {vs : List V}, Reps K H ds P vs → Reps K H (ds.drop n) P (vs.drop n)
  | 0, _, _, h => h
  | n + 1, [], _, h => by rw [h.nil_iff]; exact Reps.nil
  | n + 1, d :: ds, _, h => by
    obtain ⟨v, ws, rfl, _, h2⟩ := h.cons_iff
    exact Reps.drop n h2
theorem Reps.take {K : PySem.W.Frag} {H : Hp} {P : Pr} : ∀ (n : Nat) {ds : List D} {vs : List V}, Reps K H ds P vs → Reps K H (ds.take n) P (vs.take n)
  | 0, _, _, h => Reps.nil
  | n + 1, [], _, h => by rw [h.nil_iff]; exact Reps.nil
  | n + 1, d :: ds, _, h => by
    obtain ⟨v, ws, rfl, h1, h2⟩ := h.cons_iff
    exact Reps.cons h1 (Reps.take n h2)
theorem Reps.cut {K : PySem.W.Frag} {H : Hp} {P : Pr} {ds : List D} {vs : List V} (h : Reps K H ds P vs) (lo hi : Option Int) : Reps K H (cutD ds lo hi) P (cutV vs lo hi) := by
  unfold cutD cutV
  rw [h.length]
  exact (h.drop _).take _
def sliceD : D → Option Int → Option Int → R D
  | .str x, lo, hi => if szOk x.length = true then .ok (.str (cutS x lo hi)) else .stk
  | .tup ds, lo, hi => .ok (.tup (cutD ds lo hi))
  | .lst ds, lo, hi => .ok (.lst (cutD ds lo hi))
  | _, _, _ => .stk
abbrev OM := Env → R (Option Int × Env)
def cNoPart : OM := fun ρ => .ok (none, ρ)
def cPart (m : EM) : OM := fun ρ => do
  let (h, ρ1) ← m ρ
  let d ← h.v.nox
  match d with
  | .int i => pure (some i, ρ1)
  | _ => .stk
def cSlice (a : EM) (lo hi : OM) : EM := fun ρ => do
  let (h, ρ1) ← a ρ
  let (l, ρ2) ← lo ρ1
  let (u, ρ3) ← hi ρ2
  let d ← (h.d ρ3).nox
  let z ← (sliceD d l u).nox
  pure (.fr z, ρ3)
def tMo (K : PySem.W.Frag) (P0 : Pr) (O W : List Nat) (E : EK) (m : OM) : TO := fun σ H Q => ∃ ρ, Sim K P0 O W ρ σ H ∧ Res E W σ H (m ρ) fun a => ∀ H', Sim K P0 O W a.2 σ H' → Keep W σ H H' → Q a.1 H'
theorem PO.imp {X : Cx} {e : Option Expr} {t t' : TO} (h : PO X e t) (i : ∀ σ H Q, t' σ H Q → t σ H Q) : PO X e t' := by
  cases h with
  | mk h => exact ⟨fun pins s σ H Q I q => h pins s σ H Q I (i σ H Q q)⟩
section
variable {X : Cx} {P0 : Pr} {O W : List Nat} {E : EK} {a b c e : Expr} {es : List Expr} {ma mb mc : EM} {ms : AM} {pos : Pos}
abbrev CO (X : Cx) (P0 : Pr) (O W : List Nat) (E : EK) (e : Option Expr) (m : OM) : Prop := PO X e (tMo X.K P0 O W E m)
theorem co_none : CO X P0 O W E none cNoPart := PO.imp po_none fun σ H Q ⟨ρ, S, h⟩ => h H S .refl
theorem co_some (h : CEx X P0 O W E e ma) : CO X P0 O W E (some e) (cPart ma) := PO.imp (po_some h) fun σ H Q ⟨ρ, S, h⟩ =>
  ⟨ρ, S, h.of_bind.mono fun ⟨h1, ρ1⟩ q v H1 S1 k1 r1 => by
    obtain ⟨d, e1, q⟩ := q.of_nox
    have r := r1.v e1
    cases d <;> first | (exact q.elim) | skip
    unfold Rep at r
    exact ⟨_, r, q H1 S1 k1⟩⟩
theorem ce_ix (ha : CEx X P0 O W E a ma) (hb : CEx X P0 O W E b mb) (hs : PlainIx b := by intro _ _; rfl) : CEx X P0 O W E (.Subscript a b pos) (cIx ma mb) := PE.imp (pe_ix ix_seq ha hb hs) fun σ H Q ⟨ρ, S, h⟩ => by
  refine ⟨ρ, S, h.of_bind.mono fun ⟨h1, ρ1⟩ q x H1 S1 k1 r1 => ⟨ρ1, S1, (q.keep k1).of_bind.mono fun ⟨h2, ρ2⟩ q2 y H2 S2 k2 r2 => ?_⟩⟩
  obtain ⟨dx, e1, q3⟩ := q2.of_nox
  obtain ⟨dy, e2, q4⟩ := q3.of_nox
  obtain ⟨dz, e3, q5⟩ := q4.of_nox
  have rx := (r1.keep S1 k2).d S2 e1
  have ry := r2.d S2 e2
  have fin : ∀ v, Rep X.K H2 dz (FA P0 O σ) v → Q v H2 := fun v r => q5 v H2 S2 (k1.trans k2) r
  unfold ixD at e3
  split at e3
  · split at e3
    · split at e3
      · rename_i c' hc z; cases e3
        obtain rfl := rx.str
        obtain rfl := ry.int
        exact .inr (.inr ⟨_, _, _, rfl, rfl, of_decide_eq_true z, hc, fin _ (by unfold Rep; rfl)⟩)
      · cases e3
    · cases e3
  · split at e3
    · rename_i d hd; cases e3
      obtain ⟨p, vs, rfl, t1, t2⟩ := rx.tup
      obtain rfl := ry.int
      obtain ⟨v, e4, r4⟩ := t2.atI hd
      exact .inr (.inl ⟨p, vs, _, v, rfl, rfl, SqT.of t1, e4, fin v r4⟩)
    · cases e3
  · split at e3
    · rename_i d hd; cases e3
      obtain ⟨p, vs, rfl, t1, t2⟩ := rx.lst
      obtain rfl := ry.int
      obtain ⟨v, e4, r4⟩ := t2.atI hd
      exact .inl ⟨p, vs, _, v, rfl, rfl, SqL.of t1, e4, fin v r4⟩
    · cases e3
  · split at e3
    · rename_i d hd; cases e3
      obtain ⟨p, rfl, t1⟩ := rx.arg
      obtain rfl := ry.int
      exact .inl ⟨p, _, _, _, rfl, rfl, t1, ints_atI hd, fin _ (by unfold Rep; rfl)⟩
    · cases e3
  · split at e3
    · rename_i d hd; cases e3
      obtain ⟨p, vs, o, rfl, t1, _, t2⟩ := rx.ftu
      obtain rfl := ry.int
      obtain ⟨v, e4, r4⟩ := t2.atI hd
      exact .inr (.inl ⟨p, vs, _, v, rfl, rfl, SqT.fz t1, e4, fin v r4⟩)
    · cases e3
  · cases e3
theorem ce_slice {lo hi : Option Expr} {ml mh : OM} {p2 : Pos} (ha : CEx X P0 O W E a ma) (hl : CO X P0 O W E lo ml) (hh : CO X P0 O W E hi mh) : CEx X P0 O W E (.Subscript a (.Slice lo hi none p2) pos) (cSlice ma ml mh) := PE.imp (pe_slice (sl_list.or (sl_tupA.or sl_str)) ha hl hh) fun σ H Q ⟨ρ, S, h⟩ => by
  refine ⟨ρ, S, h.of_bind.mono fun ⟨h1, ρ1⟩ q x H1 S1 k1 r1 => ⟨ρ1, S1, (q.keep k1).of_bind.mono fun ⟨l, ρ2⟩ q2 H2 S2 k2 => ⟨ρ2, S2, (q2.keep k2).of_bind.mono fun ⟨u, ρ3⟩ q3 H3 S3 k3 => ?_⟩⟩⟩
  obtain ⟨dx, e1, q4⟩ := q3.of_nox
  obtain ⟨dz, e3, q5⟩ := q4.of_nox
  have rx := (r1.keep S1 (k2.trans k3)).d S3 e1
  have out := out_of S3 ((k1.trans k2).trans k3) q5
  unfold sliceD at e3
  split at e3
  · split at e3
    · rename_i z; cases e3
      obtain rfl := rx.str
      exact .inr (.inr ⟨_, rfl, of_decide_eq_true z, out.str⟩)
    · cases e3
  · cases e3
    obtain ⟨p, vs, rfl, t1, t2⟩ := rx.tup
    have t3 := t2.cut l u
    refine .inr (.inl ⟨p, vs, rfl, SqT.of t1, fun z => ?_, fun _ p hp => out.newT S3.dom t3 hp⟩)
    have e4 : cutV vs l u = vs := by
      unfold cutV
      rw [z.1, z.2, List.drop_zero, Nat.sub_zero, List.take_length]
    rw [e4] at t3
    exact out.flat (Rep.tup_of t1 t3) rfl
  · cases e3
    obtain ⟨p, vs, rfl, t1, t2⟩ := rx.lst
    exact .inl ⟨p, vs, rfl, SqL.of t1, fun p hp => out.newL S3.dom (t2.cut l u) hp⟩
  · cases e3
end

/-- behind a statement or an expression: U: own slots that keep their objects -/
structure Tr (O U : List Nat) (σ : St) (H : Hp) (σ' : St) (H' : Hp) : Prop where
  keep : ∀ b o, H b = some o → ¬ OA O σ b → H' b = some o
  some : ∀ b, H b ≠ none → H' b ≠ none
  own : ∀ b, OA O σ' b → OA O σ b ∨ H b = none
  unch : ∀ i ∈ U, σ'[i]? = σ[i]?
theorem Tr.of {O W U : List Nat} {σ : St} {H H' : Hp} (hs : ∀ i ∈ W, i ∈ O) (k : Keep W σ H H') : Tr O U σ H σ H' := ⟨fun b o e n => k.keep b o e fun ⟨i, hi, z⟩ => n ⟨i, hs i hi, z⟩, k.some, fun _ z => .inl z, fun _ _ => rfl⟩
theorem Tr.refl {O U : List Nat} {σ : St} {H : Hp} : Tr O U σ H σ H := ⟨fun _ _ e _ => e, fun _ e => e, fun _ z => .inl z, fun _ _ => rfl⟩
theorem Tr.trans {O U : List Nat} {σ σ1 σ2 : St} {H H1 H2 : Hp} (a : Tr O U σ H σ1 H1) (b : Tr O U σ1 H1 σ2 H2) : Tr O U σ H σ2 H2 where
  keep := fun c o e n => b.keep c o (a.keep c o e n) fun z => by
    rcases a.own c z with z | z
    · exact n z
    · rw [e] at z; cases z
  some := fun c e => b.some c (a.some c e)
  own := fun c z => by
    rcases b.own c z with z | z
    · exact a.own c z
    · exact .inr (Classical.byContradiction fun q => a.some c q z)
  unch := fun i hi => (b.unch i hi).trans (a.unch i hi)
theorem Tr.less {O U U' : List Nat} {σ σ1 : St} {H H1 : Hp} (a : Tr O U σ H σ1 H1) (h : ∀ i ∈ U', i ∈ U) : Tr O U' σ H σ1 H1 := ⟨a.keep, a.some, a.own, fun i hi => a.unch i (h i hi)⟩
section
variable {K : PySem.W.Frag} {P0 : Pr} {O W U : List Nat} {ρ ρ' : Env} {σ σ' : St} {H H' : Hp}
end
end Y

set_option Elab.async false
set_option linter.all false
set_option maxRecDepth 100000
namespace Y
open PySem PySem.Spec PyProof.Rows L2

/-- v is the datum d that the handle tells, and stays so -/
def Hold (K : PySem.W.Frag) (O : List Nat) (h : Hd) (d : D) (v : V) (P0 : Pr) (ρ : Env) (σ : St) (H : Hp) : Prop := match h with
  | .ow i => i ∈ O ∧ ρ[i]? = some (some d) ∧ σ[i]? = some (some v)
  | _ => Rep K H d (FA P0 O σ) v
def Hd.ws : Hd → List Nat
  | .ow i => [i]
  | _ => []
section
variable {K : PySem.W.Frag} {P0 P1 : Pr} {O W : List Nat} {ρ ρ' : Env} {σ σ' : St} {H H' Hs : Hp} {h : Hd} {d : D} {v : V}
theorem Hold.rep (S : Sim K P0 O W ρ σ H) (o : Hold K O h d v P0 ρ σ H) : RepW K H d (FA P0 O σ) v := by
  cases h with
  | fr d' => exact Rep.weak S.dom o
  | vl d' => exact Rep.weak S.dom o
  | ow i =>
    obtain ⟨w, h1, h2⟩ := S.own i d o.2.1 o.1
    rw [o.2.2] at h1; cases h1
    exact h2.weak
theorem HdR.hold (r : HdR K P0 O Hs σ H h v) (e : h.d ρ = .ok d) : Hold K O h d v P0 ρ σ H := by
  cases h with
  | fr d' => cases e; exact r.1
  | vl d' => cases e; exact r
  | ow i => exact ⟨r.1, look_some e, r.2⟩
theorem Hold.keep (S : Sim K P0 O W ρ σ H) (o : Hold K O h d v P0 ρ σ H) (k : ∀ b o, H b = some o → ¬ FA P0 O σ b → H' b = some o) (w : ∀ b, FA P0 O σ' b → FA P0 O σ b ∨ H b = none)
    (hw : ∀ w ∈ h.ws, σ'[w]? = σ[w]? ∧ ρ'[w]? = ρ[w]?) : Hold K O h d v P0 ρ' σ' H' := by
  cases h with
  | fr d' => exact Rep.mono d S.dom k w o
  | vl d' => exact Rep.mono d S.dom k w o
  | ow i =>
    obtain ⟨h1, h2⟩ := hw i (by simp [Hd.ws])
    exact ⟨o.1, h2.trans o.2.1, h1.trans o.2.2⟩
theorem Hold.grow (S : Sim K P0 O W ρ σ H) (o : Hold K O h d v P0 ρ σ H) (w : ∀ b, P1 b → P0 b ∨ H b = none) (k : Same H H') : Hold K O h d v P1 ρ σ H' := by
  have q : ∀ b, FA P1 O σ b → FA P0 O σ b ∨ H b = none := fun b z => by
    rcases z with z | z
    · rcases w b z with z | z
      · exact .inl (.inl z)
      · exact .inr z
    · exact .inl (.inr z)
  cases h with
  | fr d' => exact Rep.mono d S.dom (fun b o e _ => k b o e) q o
  | vl d' => exact Rep.mono d S.dom (fun b o e _ => k b o e) q o
  | ow i => exact o
end
theorem Hold.mem {K : PySem.W.Frag} {P0 : Pr} {O : List Nat} {ρ : Env} {σ : St} {H : Hp} {h : Hd} {d : D} {v : V} (o : Hold K O h d v P0 ρ σ H) : ∀ w ∈ h.ws, w ∈ O := by
  cases h with
  | fr _ => exact fun w z => nomatch z
  | vl _ => exact fun w z => nomatch z
  | ow i =>
    intro w z
    have z : w = i := by simpa [Hd.ws] using z
    rw [z]; exact o.1
/-- an iterator gives ds; ws: own slots that it reads from; Ok: what must stay -/
structure Src (K : PySem.W.Frag) (O W : List Nat) (ds : List D) (ws : List Nat) (J : It) (Ok : Pr → Env → St → Hp → Prop) : Prop where
  go : ∀ P0 i ρ σ H, Sim K P0 O W ρ σ H → Ok P0 ρ σ H → i < ds.length → J.go i H
  stop : ∀ P0 ρ σ H, Sim K P0 O W ρ σ H → Ok P0 ρ σ H → J.stop ds.length H
  yld : ∀ P0 (i : Nat) ρ σ H x H' d, Sim K P0 O W ρ σ H → Ok P0 ρ σ H → ds[i]? = some d → J.yld i H x H' → Same H H' ∧ Rep K H' d (FA P0 O σ) x
  keep : ∀ P0 ρ σ H ρ' σ' H', Sim K P0 O W ρ σ H → (∀ b o, H b = some o → ¬ FA P0 O σ b → H' b = some o) → (∀ b, FA P0 O σ' b → FA P0 O σ b ∨ H b = none) → (∀ w ∈ ws, σ'[w]? = σ[w]? ∧ ρ'[w]? = ρ[w]?) → Ok P0 ρ σ H → Ok P0 ρ' σ' H'
  mem : ∀ P0 ρ σ H, Ok P0 ρ σ H → ∀ w ∈ ws, w ∈ O
  grow : ∀ P0 P1 ρ σ H H', Sim K P0 O W ρ σ H → (∀ b, P1 b → P0 b ∨ H b = none) → Same H H' → Ok P0 ρ σ H → Ok P1 ρ σ H'
abbrev IM := Env → R ((List D × List Nat) × Env)
def tMi (K : PySem.W.Frag) (P0 : Pr) (O W : List Nat) (E : EK) (m : IM) : TI := fun σ H R => ∃ ρ, Sim K P0 O W ρ σ H ∧
  Res E W σ H (m ρ) fun a => ∀ J H' Ok, Sim K P0 O W a.2 σ H' → Keep W σ H H' → Src K O W a.1.1 a.1.2 J Ok → Ok P0 a.2 σ H' → a.1.1.length ≤ sizeLine → R J H'
theorem PI.imp {X : Cx} {tg e : Expr} {t t' : TI} (h : PI X tg e t) (i : ∀ σ H R, t' σ H R → t σ H R) : PI X tg e t' := ⟨fun pins s σ H R I q => h.run pins s σ H R I (i σ H R q)⟩
theorem PI.or {X : Cx} {tg e : Expr} {t t' : TI} (h : PI X tg e t) (h' : PI X tg e t') : PI X tg e fun σ H R => t σ H R ∨ t' σ H R :=
  ⟨fun pins s σ H R I q => q.elim (h.run pins s σ H R I) (h'.run pins s σ H R I)⟩
section
variable {K : PySem.W.Frag} {O W : List Nat} {h h2 : Hd}
/-- over a list that a handle tells -/
theorem src_list {a : Addr} {ds : List D} : Src K O W ds h.ws (Itl K a) (Hold K O h (.lst ds) (.ref a)) where
  go := fun P0 i ρ σ H S ok hi => by
    obtain ⟨p, vs, e, t1, t2⟩ := (ok.rep S).lst
    cases e
    exact walk_list.goes i H (by rw [t2.length]; exact hi) (SqL.of t1)
  stop := fun P0 ρ σ H S ok => by
    obtain ⟨p, vs, e, t1, t2⟩ := (ok.rep S).lst
    cases e
    rw [← t2.length]
    exact walk_list.stops H (SqL.of t1)
  yld := fun P0 i ρ σ H x H' d S ok hd y => by
    obtain ⟨p, vs, e, t1, t2⟩ := (ok.rep S).lst
    cases e
    obtain ⟨v, e1, r⟩ := t2.get hd
    obtain ⟨e2, e3⟩ := walk_list.yields i H x H' (by rw [t2.length]; exact (List.getElem?_eq_some_iff.mp hd).1) (SqL.of t1) y
    subst e2
    rw [e1] at e3; cases e3
    exact ⟨fun _ _ z => z, r⟩
  keep := fun P0 ρ σ H ρ' σ' H' S k w hw ok => ok.keep S k w hw
  mem := fun P0 ρ σ H ok => ok.mem
  grow := fun P0 P1 ρ σ H H' S w k ok => ok.grow S w k
theorem src_tup {a : Addr} {ds : List D} : Src K O W ds h.ws (Itt K a) (Hold K O h (.tup ds) (.ref a)) where
  go := fun P0 i ρ σ H S ok hi => by
    obtain ⟨p, vs, e, t1, t2⟩ := (ok.rep S).tup
    cases e
    exact walk_tup.goes i H (by rw [t2.length]; exact hi) (SqT.of t1)
  stop := fun P0 ρ σ H S ok => by
    obtain ⟨p, vs, e, t1, t2⟩ := (ok.rep S).tup
    cases e
    rw [← t2.length]
    exact walk_tup.stops H (SqT.of t1)
  yld := fun P0 i ρ σ H x H' d S ok hd y => by
    obtain ⟨p, vs, e, t1, t2⟩ := (ok.rep S).tup
    cases e
    obtain ⟨v, e1, r⟩ := t2.get hd
    obtain ⟨e2, e3⟩ := walk_tup.yields i H x H' (by rw [t2.length]; exact (List.getElem?_eq_some_iff.mp hd).1) (SqT.of t1) y
    subst e2
    rw [e1] at e3; cases e3
    exact ⟨fun _ _ z => z, r⟩
  keep := fun P0 ρ σ H ρ' σ' H' S k w hw ok => ok.keep S k w hw
  mem := fun P0 ρ σ H ok => ok.mem
  grow := fun P0 P1 ρ σ H H' S w k ok => ok.grow S w k
theorem src_ftu {a : Addr} {ds : List D} : Src K O W ds h.ws (Itt K a) (Hold K O h (.ftu ds) (.ref a)) where
  go := fun P0 i ρ σ H S ok hi => by
    obtain ⟨p, vs, o, e, t1, _, t2⟩ := (ok.rep S).ftu
    cases e
    exact walk_tup.goes i H (by rw [t2.length]; exact hi) (SqT.fz t1)
  stop := fun P0 ρ σ H S ok => by
    obtain ⟨p, vs, o, e, t1, _, t2⟩ := (ok.rep S).ftu
    cases e
    rw [← t2.length]
    exact walk_tup.stops H (SqT.fz t1)
  yld := fun P0 i ρ σ H x H' d S ok hd y => by
    obtain ⟨p, vs, o, e, t1, _, t2⟩ := (ok.rep S).ftu
    cases e
    obtain ⟨v, e1, r⟩ := t2.get hd
    obtain ⟨e2, e3⟩ := walk_tup.yields i H x H' (by rw [t2.length]; exact (List.getElem?_eq_some_iff.mp hd).1) (SqT.fz t1) y
    subst e2
    rw [e1] at e3; cases e3
    exact ⟨fun _ _ z => z, r⟩
  keep := fun P0 ρ σ H ρ' σ' H' S k w hw ok => ok.keep S k w hw
  mem := fun P0 ρ σ H ok => ok.mem
  grow := fun P0 P1 ρ σ H H' S w k ok => ok.grow S w k
theorem src_arg {a : Addr} {ns : List Int} : Src K O W (ns.map D.int) h.ws (Itl K a) (Hold K O h (.arg ns) (.ref a)) where
  go := fun P0 i ρ σ H S ok hi => by
    obtain ⟨p, e, t1⟩ := (ok.rep S).arg
    cases e
    exact walk_list.goes i H (by simpa using hi) t1
  stop := fun P0 ρ σ H S ok => by
    obtain ⟨p, e, t1⟩ := (ok.rep S).arg
    cases e
    have := walk_list.stops H t1
    simpa using this
  yld := fun P0 i ρ σ H x H' d S ok hd y => by
    obtain ⟨p, e, t1⟩ := (ok.rep S).arg
    cases e
    obtain ⟨e2, e3⟩ := walk_list.yields i H x H' (by have := (List.getElem?_eq_some_iff.mp hd).1; simpa using this) t1 y
    subst e2
    rw [List.getElem?_map] at e3 hd
    cases q : ns[i]? with
    | none => rw [q] at hd; cases hd
    | some n => rw [q] at hd e3; cases hd; cases e3; exact ⟨fun _ _ z => z, by unfold Rep; rfl⟩
  keep := fun P0 ρ σ H ρ' σ' H' S k w hw ok => ok.keep S k w hw
  mem := fun P0 ρ σ H ok => ok.mem
  grow := fun P0 P1 ρ σ H H' S w k ok => ok.grow S w k
theorem src_range {lo : Int} {n : Nat} : Src K O W ((List.range n).map fun i => D.int (lo + (i : Nat))) [] (Itr lo n) (fun _ _ _ _ => True) where
  go := fun P0 i ρ σ H S ok hi => by simpa [Itr] using hi
  stop := fun P0 ρ σ H S ok => by simp [Itr]
  yld := fun P0 i ρ σ H x H' d S ok hd y => by
    obtain ⟨e1, e2⟩ := y
    subst e1
    rw [List.getElem?_map] at hd
    cases q : (List.range n)[i]? with
    | none => rw [q] at hd; cases hd
    | some j =>
      rw [q] at hd; cases hd
      have : j = i := by
        obtain ⟨h1, h2⟩ := List.getElem?_eq_some_iff.mp q
        simpa using h2.symm
      subst this
      exact ⟨fun _ _ z => z, by unfold Rep; exact e2⟩
  keep := fun _ _ _ _ _ _ _ _ _ _ _ _ => trivial
  mem := fun _ _ _ _ _ w z => nomatch z
  grow := fun _ _ _ _ _ _ _ _ _ _ => trivial
theorem src_str {z : Str} : Src K O W (z.cps.toList.map fun c => D.str ⟨#[c]⟩) [] (Its z) (fun _ _ _ _ => True) where
  go := fun P0 i ρ σ H S ok hi => by simpa [Its] using hi
  stop := fun P0 ρ σ H S ok => by simp [Its]
  yld := fun P0 i ρ σ H x H' d S ok hd y => by
    obtain ⟨e1, c, e2, e3⟩ := y
    subst e1
    rw [List.getElem?_map, Array.getElem?_toList, e2] at hd
    cases hd
    exact ⟨fun _ _ z => z, by unfold Rep; exact e3⟩
  keep := fun _ _ _ _ _ _ _ _ _ _ _ _ => trivial
  mem := fun _ _ _ _ _ w z => nomatch z
  grow := fun _ _ _ _ _ _ _ _ _ _ => trivial
theorem Src.anyw {ds : List D} {J : It} {Ok : Pr → Env → St → Hp → Prop} (q : Src K O W ds [] J Ok) : Src K O W ds h.ws J (fun P0 ρ σ H => Ok P0 ρ σ H ∧ ∀ w ∈ h.ws, w ∈ O) where
  go := fun P0 i ρ σ H S ok => q.go P0 i ρ σ H S ok.1
  stop := fun P0 ρ σ H S ok => q.stop P0 ρ σ H S ok.1
  yld := fun P0 i ρ σ H x H' d S ok => q.yld P0 i ρ σ H x H' d S ok.1
  keep := fun P0 ρ σ H ρ' σ' H' S k w _ ok => ⟨q.keep P0 ρ σ H ρ' σ' H' S k w (fun _ z => nomatch z) ok.1, ok.2⟩
  mem := fun P0 ρ σ H ok => ok.2
  grow := fun P0 P1 ρ σ H H' S w k ok => ⟨q.grow P0 P1 ρ σ H H' S w k ok.1, ok.2⟩
end
def pairsD : List D → List D → List D
  | x :: xs, y :: ys => .tup [x, y] :: pairsD xs ys
  | _, _ => []
theorem pairsD_len : ∀ xs ys : List D, (pairsD xs ys).length = min xs.length ys.length
  | [], _ => by simp [pairsD]
  | _ :: _, [] => by simp [pairsD]
  | x :: xs, y :: ys => by simp [pairsD, pairsD_len xs ys]
theorem pairsD_get : ∀ {xs ys : List D} {i : Nat} {d : D}, (pairsD xs ys)[i]? = some d → ∃ x y, xs[i]? = some x ∧ ys[i]? = some y ∧ d = .tup [x, y]
  | [], _, _, _, h => by simp [pairsD] at h
  | _ :: _, [], _, _, h => by simp [pairsD] at h
  | x :: xs, y :: ys, 0, d, h => by simp [pairsD] at h; exact ⟨x, y, rfl, rfl, h.symm⟩
  | x :: xs, y :: ys, i + 1, d, h => by simpa using pairsD_get (i := i) (by simpa [pairsD] using h)
/-- a new pair at T -/
theorem pair_rep {K : PySem.W.Frag} {H : Hp} {P : Pr} {x y : D} {v w : V} {T : Addr} (hm : ∀ b, P b → isMut (H b)) (hT : H T = none) (h1 : Rep K H x P v) (h2 : Rep K H y P w) : Same H (upd H T (.tup [v, w])) ∧ Rep K (upd H T (.tup [v, w])) (.tup [x, y]) P (.ref T) :=
  ⟨Same.new hT, Rep.newT hm (Reps.cons h1 (Reps.cons h2 Reps.nil)) hT⟩
section
variable {K : PySem.W.Frag} {O W : List Nat} {h h2 : Hd}
end
section
variable {X : Cx} {P0 : Pr} {O W : List Nat} {E : EK} {a b c e tg : Expr} {es : List Expr} {ma mb mc : EM} {ms : AM} {pos : Pos}
abbrev CI (X : Cx) (P0 : Pr) (O W : List Nat) (E : EK) (tg e : Expr) (m : IM) : Prop := PI X tg e (tMi X.K P0 O W E m)
/-- over a list, a tuple, a text, the script -/
def itD : D → R (List D)
  | .lst ds => .ok ds
  | .tup ds => .ok ds
  | .arg ns => .ok (ns.map D.int)
  | .str z => .ok (z.cps.toList.map fun c => D.str ⟨#[c]⟩)
  | .ftu ds => .ok ds
  | _ => .stk
def cIter (m : EM) : IM := fun ρ => do
  let (h, ρ1) ← m ρ
  let d ← (h.d ρ1).nox
  let ds ← (itD d).nox
  if szOk ds.length = true then pure ((ds, h.ws), ρ1) else .stk
theorem ci_any (ha : CEx X P0 O W E a ma) : CI X P0 O W E tg a (cIter ma) := PI.imp (PI.or (pi_list ha) (PI.or (pi_tup ha) (pi_str ha))) fun σ H _ ⟨ρ, S, h⟩ => by
  unfold cIter at h
  cases em : ma ρ with
  | er c ds =>
    rw [em] at h
    exact .inl ⟨ρ, S, by rw [em]; exact h⟩
  | stk => rw [em] at h; exact h.elim
  | ok p =>
    obtain ⟨h1, ρ1⟩ := p
    rw [em] at h
    obtain ⟨d, ed, h⟩ := Res.of_nox (show Res E W σ H ((h1.d ρ1).nox >>= _) _ from h)
    obtain ⟨ds, ei, h⟩ := h.of_nox
    by_cases c : szOk ds.length = true
    · rw [if_pos c] at h
      have hz := of_decide_eq_true c
      cases d <;> simp only [itD, R.ok.injEq, reduceCtorEq] at ei
      · subst ei
        refine .inr (.inr ⟨ρ, S, ?_⟩)
        rw [em]
        intro v H1 S1 k1 r1
        obtain rfl := (r1.d S1 ed).str
        exact ⟨_, rfl, h _ H1 _ S1 k1 src_str.anyw ⟨trivial, (r1.hold ed).mem⟩ hz⟩
      · subst ei
        refine .inr (.inl ⟨ρ, S, ?_⟩)
        rw [em]
        intro v H1 S1 k1 r1
        obtain ⟨p, vs, rfl, t1, t2⟩ := (r1.d S1 ed).tup
        exact ⟨p, rfl, ⟨vs, SqT.of t1⟩, h _ H1 _ S1 k1 src_tup (r1.hold ed) hz⟩
      · subst ei
        refine .inl ⟨ρ, S, ?_⟩
        rw [em]
        intro v H1 S1 k1 r1
        obtain ⟨p, vs, rfl, t1, t2⟩ := (r1.d S1 ed).lst
        exact ⟨p, rfl, ⟨vs, SqL.of t1⟩, h _ H1 _ S1 k1 src_list (r1.hold ed) hz⟩
      · subst ei
        refine .inl ⟨ρ, S, ?_⟩
        rw [em]
        intro v H1 S1 k1 r1
        obtain ⟨p, rfl, t1⟩ := (r1.d S1 ed).arg
        exact ⟨p, rfl, ⟨_, t1⟩, h _ H1 _ S1 k1 src_arg (r1.hold ed) hz⟩
      · subst ei
        refine .inr (.inl ⟨ρ, S, ?_⟩)
        rw [em]
        intro v H1 S1 k1 r1
        obtain ⟨p, vs, o, rfl, t1, _, t2⟩ := (r1.d S1 ed).ftu
        exact ⟨p, rfl, ⟨vs, SqT.fz t1⟩, h _ H1 _ S1 k1 src_ftu (r1.hold ed) hz⟩
    · rw [if_neg c] at h
      exact h.elim
def rngOk (i : Int) : Bool := decide (-(2 ^ 62) ≤ i ∧ i < 2 ^ 62)
def rng1D : List D → R (List D)
  | [.int j] => if rngOk j = true then .ok ((List.range j.toNat).map fun i => D.int (0 + (i : Nat))) else .stk
  | _ => .stk
def cRange (f : List D → R (List D)) (m : AM) : IM := fun ρ => do
  let (hs, ρ1) ← m ρ
  let ds ← (vsOf hs).nox
  let xs ← (f ds).nox
  if szOk xs.length = true then pure ((xs, []), ρ1) else .stk
theorem ci_range1 {p : Pos} (hm : X.mg "range" = none) (ha : CA X P0 O W E [a] ms) (hg : Gl X "range" := by rfl) (hs : starEach [a] X.env = [(false, eval a X.env)] := by rfl) : CI X P0 O W E tg (.Call (.Name "range" p) [a] [] pos) (cRange rng1D ms) := PI.imp (pi_range1 hg hm ha hs) fun σ H R ⟨ρ, S, h⟩ => by
  refine ⟨ρ, S, h.of_bind.mono fun ⟨hs, ρ1⟩ q vs H1 S1 k1 r1 => ?_⟩
  obtain ⟨ds, e1, q⟩ := q.of_nox
  obtain ⟨xs, e2, q⟩ := q.of_nox
  have rr := HdRs.vs r1 e1
  by_cases c : szOk xs.length = true
  · rw [if_pos c] at q
    unfold rng1D at e2
    split at e2
    · split at e2
      · rename_i j z; cases e2
        obtain ⟨v, ws, rfl, h1, h2⟩ := rr.cons_iff
        have h2 := h2.nil_iff
        subst h2
        unfold Rep at h1
        subst h1
        unfold rngOk at z
        have z := of_decide_eq_true z
        exact ⟨_, rfl, z.1, z.2, q _ H1 _ S1 k1 src_range trivial (of_decide_eq_true c)⟩
      · cases e2
    · cases e2
  · rw [if_neg c] at q
    exact q.elim
end
end Y

set_option Elab.async false
set_option linter.all false
set_option maxRecDepth 100000
namespace Y
open PySem PySem.Spec PyProof.Rows L2

theorem OA_of {O : List Nat} {σ σ' : St} (h : ∀ i ∈ O, σ'[i]? = σ[i]?) (b : Addr) : OA O σ' b ↔ OA O σ b := by
  constructor
  · rintro ⟨i, hi, e⟩; exact ⟨i, hi, (h i hi).symm.trans e⟩
  · rintro ⟨i, hi, e⟩; exact ⟨i, hi, (h i hi).trans e⟩
section
variable {K : PySem.W.Frag} {P0 P1 : Pr} {O W : List Nat} {ρ ρ' : Env} {σ σ' : St} {H H' : Hp} {d : D} {v : V}
theorem FA_of (h : ∀ i ∈ O, σ'[i]? = σ[i]?) (b : Addr) : FA P0 O σ' b ↔ FA P0 O σ b := or_congr Iff.rfl (OA_of h b)
/-- other slots, less known -/
theorem Sim.move (S : Sim K P0 O W ρ σ H) (hl : ρ'.length ≤ σ'.length) (ho : ∀ i ∈ O, σ'[i]? = σ[i]?) (hρ : ∀ i ∈ O, ∀ d, ρ'[i]? = some (some d) → ρ[i]? = some (some d))
    (hv : ∀ (i : Nat) d, ρ'[i]? = some (some d) → i ∉ O → ∃ v, σ'[i]? = some (some v) ∧ Rep K H d (FA P0 O σ) v) : Sim K P0 O W ρ' σ' H where
  sub := S.sub
  len := hl
  dom := fun b z => S.dom b ((FA_of ho b).mp z)
  val := fun i d e n => by
    obtain ⟨v, h1, h2⟩ := hv i d e n
    exact ⟨v, h1, h2.less S.dom fun b z => (FA_of ho b).mp z⟩
  own := fun i d e n => by
    obtain ⟨v, h1, h2⟩ := S.own i d (hρ i n d e) n
    refine ⟨v, (ho i n).trans h1, ?_⟩
    have fa : ∀ b, FA P0 O σ' b → FA P0 O σ b := fun b z => (FA_of ho b).mp z
    cases d with
    | lst ds => obtain ⟨a, vs, rfl, ht, hr⟩ := h2; exact ⟨a, vs, rfl, ht, hr.less S.dom fa⟩
    | dik ks ds => obtain ⟨a, vs, rfl, hl, ht, hr⟩ := h2; exact ⟨a, vs, rfl, hl, ht, hr.less S.dom fa⟩
    | dit ks ds => obtain ⟨a, vs, rfl, hl, ht, hr⟩ := h2; exact ⟨a, vs, rfl, hl, ht, hr.less S.dom fa⟩
    | non => exact h2
    | bl _ => exact h2
    | int _ => exact h2
    | str _ => exact h2
    | tup _ => exact h2
    | arg _ => exact h2
    | ftu _ => exact h2
  sep := fun i j a hi hj e1 e2 => S.sep i j a hi hj ((ho i hi).symm.trans e1) ((ho j hj).symm.trans e2)
  sep0 := fun a z => S.sep0 a ((OA_of ho a).mp z)
theorem Sim.set (S : Sim K P0 O W ρ σ H) {i : Nat} (hi : i ∉ O) (r : Rep K H d (FA P0 O σ) v) : Sim K P0 O W (ρ.set i (some d)) (σ.set i (some v)) H := by
  refine S.move (by simpa using S.len) (fun j hj => ?_) (fun j hj d' e => ?_) fun j d' e n => ?_
  · exact List.getElem?_set_ne (fun (e : i = j) => hi (by rw [e]; exact hj))
  · rwa [List.getElem?_set_ne (fun (e : i = j) => hi (by rw [e]; exact hj))] at e
  · by_cases hj : i = j
    · subst hj
      have h1 : i < ρ.length := by
        have := (List.getElem?_eq_some_iff.mp e).1
        simpa using this
      rw [List.getElem?_set_self h1] at e
      cases e
      exact ⟨v, List.getElem?_set_self (Nat.lt_of_lt_of_le h1 S.len), r⟩
    · rw [List.getElem?_set_ne hj] at e ⊢
      exact S.val j d' e n
/-- forgetting -/
def wipeE (ρ : Env) : List Nat → Env
  | [] => ρ
  | i :: is => (wipeE ρ is).set i none
theorem wipeE_length (ρ : Env) : ∀ is, (wipeE ρ is).length = ρ.length
  | [] => rfl
  | i :: is => by unfold wipeE; rw [List.length_set, wipeE_length ρ is]
theorem wipeE_some : ∀ {is : List Nat} {j : Nat} {d : D}, (wipeE ρ is)[j]? = some (some d) → ρ[j]? = some (some d) ∧ j ∉ is
  | [], j, d, e => ⟨e, by simp⟩
  | i :: is, j, d, e => by
    unfold wipeE at e
    by_cases hj : i = j
    · subst hj
      by_cases hl : i < (wipeE ρ is).length
      · rw [List.getElem?_set_self hl] at e; cases e
      · rw [List.getElem?_eq_none (by simpa using hl)] at e; cases e
    · rw [List.getElem?_set_ne hj] at e
      obtain ⟨h1, h2⟩ := wipeE_some e
      exact ⟨h1, by simp only [List.mem_cons, not_or]; exact ⟨fun z => hj z.symm, h2⟩⟩
theorem Sim.wipe (S : Sim K P0 O W ρ σ H) (is : List Nat) : Sim K P0 O W (wipeE ρ is) σ H :=
  S.move (by rw [wipeE_length]; exact S.len) (fun _ _ => rfl) (fun i _ d e => (wipeE_some e).1) fun i d e n => S.val i d (wipeE_some e).1 n
theorem wipe_ne {is : List Nat} {j : Nat} (h : j ∉ is) : (L2.wipe σ is)[j]? = σ[j]? := wipe_out h
/-- a comprehension's own names -/
theorem Sim.wipe2 (S : Sim K P0 O W ρ σ H) {is : List Nat} (h : ∀ i ∈ is, i ∉ O) : Sim K P0 O W (wipeE ρ is) (L2.wipe σ is) H := by
  refine S.move (by rw [wipeE_length, L2.wipe_length]; exact S.len) (fun i hi => wipe_ne fun z => h i z hi) (fun i _ d e => (wipeE_some e).1) fun i d e n => ?_
  obtain ⟨e1, e2⟩ := wipeE_some e
  rw [wipe_ne e2]
  exact S.val i d e1 n
/-- back from the block: the wiped slots are not told -/
theorem Sim.out {is : List Nat} (S : Sim K P0 O W ρ (L2.wipe σ is) H) (h : ∀ i ∈ is, i ∉ O) (hρ : ∀ i ∈ is, ∀ d, ρ[i]? ≠ some (some d)) : Sim K P0 O W ρ σ H := by
  refine S.move (by have := S.len; rwa [L2.wipe_length] at this) (fun i hi => (wipe_ne fun z => h i z hi).symm) (fun i _ d e => e) fun i d e n => ?_
  obtain ⟨v, h1, h2⟩ := S.val i d e n
  rw [wipe_ne fun z => hρ i z d e] at h1
  exact ⟨v, h1, h2⟩
/-- one more object is forbidden -/
theorem Sim.more (S : Sim K P0 O W ρ σ H) {q : Addr} {vs : List V} (hq : H q = none) : Sim K (fun b => P0 b ∨ b = q) O W ρ σ (upd H q (.lst vs)) := by
  have S' := S.same (Same.new (o := .lst vs) hq)
  have fa : ∀ b, FA (fun b => P0 b ∨ b = q) O σ b → FA P0 O σ b ∨ H b = none := fun b z => by
    rcases z with (z | z) | z
    · exact .inl (.inl z)
    · rw [z]; exact .inr hq
    · exact .inl (.inr z)
  refine ⟨S.sub, S.len, fun b z => ?_, fun i d e n => ?_, fun i d e n => ?_, S.sep, fun a z => ?_⟩
  · rcases z with (z | z) | z
    · exact S'.dom b (.inl z)
    · rw [z, upd_same]; trivial
    · exact S'.dom b (.inr z)
  · obtain ⟨v, h1, h2⟩ := S.val i d e n
    exact ⟨v, h1, h2.mono d S.dom (fun b o e _ => Same.new hq b o e) fa⟩
  · obtain ⟨v, h1, h2⟩ := S.own i d e n
    refine ⟨v, h1, ?_⟩
    cases d with
    | lst ds => obtain ⟨a, vs, rfl, ht, hr⟩ := h2; exact ⟨a, vs, rfl, Same.new hq _ _ ht, hr.mono ds S.dom (fun b o e _ => Same.new hq b o e) fa⟩
    | dik ks ds => obtain ⟨a, vs, rfl, hl, ht, hr⟩ := h2; exact ⟨a, vs, rfl, hl, Same.new hq _ _ ht, hr.mono ds S.dom (fun b o e _ => Same.new hq b o e) fa⟩
    | dit ks ds => obtain ⟨a, vs, rfl, hl, ht, hr⟩ := h2; exact ⟨a, vs, rfl, hl, Same.new hq _ _ ht, hr.mono ds S.dom (fun b o e _ => Same.new hq b o e) fa⟩
    | non => exact h2
    | bl _ => exact h2
    | int _ => exact h2
    | str _ => exact h2
    | tup _ => exact h2
    | arg _ => exact h2
    | ftu _ => exact h2
  · rintro (y | y)
    · exact S.sep0 a z y
    · subst y
      exact (S.dom a (.inr z)).some hq
theorem Sim.lessP (S : Sim K P1 O W ρ σ H) (h : ∀ b, P0 b → P1 b) : Sim K P0 O W ρ σ H := by
  have fa : ∀ b, FA P0 O σ b → FA P1 O σ b := fun b z => z.imp (h b) id
  refine ⟨S.sub, S.len, fun b z => S.dom b (fa b z), fun i d e n => ?_, fun i d e n => ?_, S.sep, fun a z y => S.sep0 a z (h a y)⟩
  · obtain ⟨v, h1, h2⟩ := S.val i d e n
    exact ⟨v, h1, h2.less S.dom fa⟩
  · obtain ⟨v, h1, h2⟩ := S.own i d e n
    refine ⟨v, h1, ?_⟩
    cases d with
    | lst ds => obtain ⟨a, vs, rfl, ht, hr⟩ := h2; exact ⟨a, vs, rfl, ht, hr.less S.dom fa⟩
    | dik ks ds => obtain ⟨a, vs, rfl, hl, ht, hr⟩ := h2; exact ⟨a, vs, rfl, hl, ht, hr.less S.dom fa⟩
    | dit ks ds => obtain ⟨a, vs, rfl, hl, ht, hr⟩ := h2; exact ⟨a, vs, rfl, hl, ht, hr.less S.dom fa⟩
    | non => exact h2
    | bl _ => exact h2
    | int _ => exact h2
    | str _ => exact h2
    | tup _ => exact h2
    | arg _ => exact h2
    | ftu _ => exact h2
/-- a forbidden object is written -/
theorem Sim.wr (S : Sim K P0 O W ρ σ H) {q : Addr} {o : HO} (hq : P0 q) (ho : isMut (some o)) : Sim K P0 O W ρ σ (upd H q o) := by
  have k : ∀ b u, H b = some u → ¬ FA P0 O σ b → upd H q o b = some u := fun b u e n => by rw [upd_ne fun (z : b = q) => n (.inl (by rw [z]; exact hq))]; exact e
  have ne : ∀ {i a}, i ∈ O → σ[i]? = some (some (V.ref a)) → a ≠ q := fun {i a} hi e z => S.sep0 a ⟨i, hi, e⟩ (by rw [z]; exact hq)
  refine ⟨S.sub, S.len, fun b z => ?_, fun i d e n => ?_, fun i d e n => ?_, S.sep, S.sep0⟩
  · by_cases hb : b = q
    · rw [hb, upd_same]; exact ho
    · rw [upd_ne hb]; exact S.dom b z
  · obtain ⟨v, h1, h2⟩ := S.val i d e n
    exact ⟨v, h1, h2.of_same S.dom k⟩
  · obtain ⟨v, h1, h2⟩ := S.own i d e n
    refine ⟨v, h1, ?_⟩
    cases d with
    | lst ds => obtain ⟨a, vs, rfl, ht, hr⟩ := h2; exact ⟨a, vs, rfl, by rw [upd_ne (ne n h1)]; exact ht, hr.mono ds S.dom k fun _ z => .inl z⟩
    | dik ks ds => obtain ⟨a, vs, rfl, hl, ht, hr⟩ := h2; exact ⟨a, vs, rfl, hl, by rw [upd_ne (ne n h1)]; exact ht, hr.mono ds S.dom k fun _ z => .inl z⟩
    | dit ks ds => obtain ⟨a, vs, rfl, hl, ht, hr⟩ := h2; exact ⟨a, vs, rfl, hl, by rw [upd_ne (ne n h1)]; exact ht, hr.mono ds S.dom k fun _ z => .inl z⟩
    | non => exact h2
    | bl _ => exact h2
    | int _ => exact h2
    | str _ => exact h2
    | tup _ => exact h2
    | arg _ => exact h2
    | ftu _ => exact h2
end

def setAll (ρ : Env) : List Nat → List D → Env
  | i :: is, d :: ds => setAll (ρ.set i (some d)) is ds
  | _, _ => ρ
abbrev GM := D → Env → R Env
def tmName (i : Nat) : GM := fun d ρ => .ok (ρ.set i (some d))
def tmTup (is : List Nat) : GM := fun d ρ => match d with
  | .tup ds => if ds.length = is.length then .ok (setAll ρ is ds) else .stk
  | _ => .stk
def tG (K : PySem.W.Frag) (P0 : Pr) (O W : List Nat) (tm : GM) (is : List Nat) : TG := fun v σ H Q => ∃ ρ d ρ', Sim K P0 O W ρ σ H ∧ Rep K H d (FA P0 O σ) v ∧ tm d ρ = .ok ρ' ∧
  ∀ σ', Sim K P0 O W ρ' σ' H → σ'.length = σ.length → (∀ j, j ∉ is → σ'[j]? = σ[j]?) → Q σ' H
theorem PG.imp {X : Cx} {e : Expr} {t t' : TG} (h : PG X e t) (i : ∀ v σ H Q, t' v σ H Q → t v σ H Q) : PG X e t' := by
  cases h with
  | mk h => exact ⟨fun pins s σ H v u Q I r q => h pins s σ H v u Q I r (i v σ H Q q)⟩
section
variable {X : Cx} {P0 : Pr} {O W : List Nat} {pos : Pos}
abbrev CG (X : Cx) (P0 : Pr) (O W : List Nat) (tg : Expr) (tm : GM) (is : List Nat) : Prop := PG X tg (tG X.K P0 O W tm is)
theorem cg_name (i : Nat) {x : Str} (hN : X.N.Nodup) (ho : i ∉ O := by decide) (hi : X.N[i]? = some x := by rfl) (hx : Loc X.env.scope x := by first | exact Or.inl rfl | exact Or.inr rfl) (hf : X.fn x = true ∨ X.env.scope.names.lookup x = some .local := by first | exact .inl rfl | exact .inr rfl) : CG X P0 O W (.Name x pos) (tmName i) [i] :=
  PG.imp (pg_name hN hi hx hf) fun v σ H Q ⟨ρ, d, ρ', S, r, e, q⟩ => by
    cases e
    exact q _ (S.set ho r) (by simp) fun j hj => List.getElem?_set_ne fun z => hj (by simp [z])
def gNames : List Nat → TGs
  | [] => gNil
  | i :: is => gCons (gName i) (gNames is)
theorem names_ok {K : PySem.W.Frag} {H : Hp} {Q : St → Hp → Prop} : ∀ {is : List Nat} {ds : List D} {vs : List V} {ρ : Env} {σ : St}, (∀ i ∈ is, i ∉ O) → ds.length = is.length → Sim K P0 O W ρ σ H → Reps K H ds (FA P0 O σ) vs →
    (∀ σ', Sim K P0 O W (setAll ρ is ds) σ' H → σ'.length = σ.length → (∀ j, j ∉ is → σ'[j]? = σ[j]?) → Q σ' H) → gNames is vs σ H Q
  | [], [], vs, ρ, σ, _, _, S, r, q => ⟨r.nil_iff, q σ S rfl fun _ _ => rfl⟩
  | [], _ :: _, _, _, _, _, hl, _, _, _ => by simp at hl
  | _ :: _, [], _, _, _, _, hl, _, _, _ => by simp at hl
  | i :: is, d :: ds, vs, ρ, σ, ho, hl, S, r, q => by
    obtain ⟨v, ws, rfl, r1, r2⟩ := r.cons_iff
    have hi : i ∉ O := ho i (by simp)
    have S1 := S.set hi r1
    have fa : ∀ j ∈ O, (σ.set i (some v))[j]? = σ[j]? := fun j hj => List.getElem?_set_ne fun (z : i = j) => hi (by rw [z]; exact hj)
    refine ⟨v, ws, rfl, names_ok (fun j hj => ho j (by simp [hj])) (by simpa using hl) S1 (r2.less S.dom fun b z => (FA_of fa b).mp z) fun σ' S' h1 h2 => ?_⟩
    exact q σ' S' (by rw [h1]; simp) fun j hj => by
      rw [h2 j fun z => hj (by simp [z])]
      exact List.getElem?_set_ne fun z => hj (by simp [z])
theorem cg_tup {es : List Expr} {k : Nat} (is : List Nat) (hc : X.calm = true) (h : PGs X es (gNames is)) (ho : ∀ i ∈ is, i ∉ O := by decide) (hst : (assignEach es X.env).findIdx? (·.1) = none := by rfl) (hn : (assignEach es X.env).length = is.length := by rfl) : CG X P0 O W (.Tuple es k pos) (tmTup is) is :=
  PG.imp (pg_tup hc h hn hst) fun v σ H Q ⟨ρ, d, ρ', S, r, e, q⟩ => by
    unfold tmTup at e
    split at e
    · split at e
      · rename_i hl; cases e
        unfold Rep at r
        obtain ⟨a, vs, rfl, h1, h2⟩ := r
        exact ⟨a, vs, rfl, SqT.of h1, by rw [h2.length, hl], names_ok ho hl S h2 q⟩
      · cases e
    · cases e
theorem cgs_nil : PGs X [] (gNames []) := pgs_nil
theorem cgs_cons {es : List Expr} {is : List Nat} (i : Nat) {x : Str} {p : Pos} (hN : X.N.Nodup) (h2 : PGs X es (gNames is)) (hi : X.N[i]? = some x := by rfl) (hx : Loc X.env.scope x := by first | exact Or.inl rfl | exact Or.inr rfl) (hf : X.fn x = true ∨ X.env.scope.names.lookup x = some .local := by first | exact .inl rfl | exact .inr rfl) :
    PGs X (.Name x p :: es) (gNames (i :: is)) := pgs_cons (pg_name hN hi hx hf) h2
end

open Classical in
/-- the slots that are read from stay -/
noncomputable def chk (ws : List Nat) (ρ ρ' : Env) : R Unit := if ∀ w ∈ ws, ρ'[w]? = ρ[w]? then .ok () else .stk
@[simp] theorem chk_nil {ρ ρ' : Env} : chk [] ρ ρ' = .ok () := by unfold chk; rw [if_pos]; intro w hw; cases hw
theorem chk_ok {ws : List Nat} {ρ ρ' : Env} (h : chk ws ρ ρ' = .ok ()) : ∀ w ∈ ws, ρ'[w]? = ρ[w]? := by
  unfold chk at h
  split at h
  · assumption
  · cases h
noncomputable def cCompL (tm : GM) (t : BM) (e : EM) (vs ws : List Nat) : List D → Env → R (List D × Env)
  | [], ρ => .ok ([], ρ)
  | x :: xs, ρ => do
    let ρ1 ← tm x ρ
    let (k, ρ2) ← t ρ1
    if k = true then do
      let (h, ρ3) ← e ρ2
      let d ← h.v
      let _ ← chk ws ρ (wipeE ρ3 vs)
      let (ys, ρ5) ← cCompL tm t e vs ws xs (wipeE ρ3 vs)
      pure (d :: ys, ρ5)
    else do
      let _ ← chk ws ρ (wipeE ρ2 vs)
      cCompL tm t e vs ws xs (wipeE ρ2 vs)
noncomputable def cComp (im : IM) (tm : GM) (t : BM) (e : EM) (vs : List Nat) : EM := fun ρ => do
  let ((ds, ws), ρ1) ← im ρ
  let (ys, ρ2) ← (cCompL tm t e vs ws ds (wipeE ρ1 vs)).nox
  pure (.fr (.lst ys), ρ2)
def cYes : BM := fun ρ => .ok (true, ρ)
abbrev E00 : EK := fun _ _ _ => False
/-- one turn -/
inductive CStep (tm : GM) (t : BM) (e : EM) (vs ws : List Nat) (x : D) (xs : List D) (ρ : Env) (ys : List D) (ρf : Env) : Prop where
  | yes (ρ1 ρ2 ρ3 : Env) (h : Hd) (d : D) (ys' : List D) (e1 : tm x ρ = .ok ρ1) (e2 : t ρ1 = .ok (true, ρ2)) (e3 : e ρ2 = .ok (h, ρ3)) (e4 : h.v = .ok d) (e5 : chk ws ρ (wipeE ρ3 vs) = .ok ()) (e6 : cCompL tm t e vs ws xs (wipeE ρ3 vs) = .ok (ys', ρf)) (e7 : ys = d :: ys')
  | no (ρ1 ρ2 : Env) (e1 : tm x ρ = .ok ρ1) (e2 : t ρ1 = .ok (false, ρ2)) (e5 : chk ws ρ (wipeE ρ2 vs) = .ok ()) (e6 : cCompL tm t e vs ws xs (wipeE ρ2 vs) = .ok (ys, ρf))
theorem cComp_step {tm : GM} {t : BM} {e : EM} {vs ws : List Nat} {x : D} {xs : List D} {ρ : Env} {ys : List D} {ρf : Env} (h : cCompL tm t e vs ws (x :: xs) ρ = .ok (ys, ρf)) : CStep tm t e vs ws x xs ρ ys ρf := by
  unfold cCompL at h
  obtain ⟨ρ1, e1, h⟩ := R.ok_of h
  obtain ⟨⟨k, ρ2⟩, e2, h⟩ := R.ok_of h
  cases k with
  | true =>
    have h : (e ρ2 >>= _) = R.ok (ys, ρf) := h
    obtain ⟨⟨hd, ρ3⟩, e3, h⟩ := R.ok_of h
    obtain ⟨d, e4, h⟩ := R.ok_of h
    obtain ⟨_, e5, h⟩ := R.ok_of h
    obtain ⟨⟨ys', ρ5⟩, e6, h⟩ := R.ok_of h
    cases h
    exact .yes ρ1 ρ2 ρ3 hd d ys' e1 e2 e3 e4 e5 e6 rfl
  | false =>
    have h : (chk ws ρ (wipeE ρ2 vs) >>= _) = R.ok (ys, ρf) := h
    obtain ⟨_, e5, h⟩ := R.ok_of h
    exact .no ρ1 ρ2 e1 e2 e5 h
end Y

set_option Elab.async false
set_option linter.all false
set_option maxRecDepth 100000
namespace Y
open PySem PySem.Spec PyProof.Rows L2

theorem wipe_same {σ σ' : St} {vs : List Nat} (hl : σ'.length = σ.length) (h : ∀ j, j ∉ vs → σ'[j]? = σ[j]?) : L2.wipe σ' vs = L2.wipe σ vs := by
  apply List.ext_getElem?
  intro j
  by_cases hj : j ∈ vs
  · have q : ∀ (τ : St), (L2.wipe τ vs)[j]? = if j < τ.length then some none else none := fun τ => by
      have hlen := L2.wipe_length τ vs
      cases e : (L2.wipe τ vs)[j]? with
      | none =>
        rw [List.getElem?_eq_none_iff] at e
        rw [if_neg (by omega)]
      | some o =>
        have := (List.getElem?_eq_some_iff.mp e).1
        rw [if_pos (by omega)]
        cases o with
        | none => rfl
        | some v => exact absurd hj (wipe_some e).2
    rw [q, q, hl]
  · rw [wipe_ne hj, wipe_ne hj, h j hj]
theorem wipe_idem {σ : St} {vs : List Nat} : L2.wipe (L2.wipe σ vs) vs = L2.wipe σ vs := wipe_same (L2.wipe_length σ vs) fun j hj => wipe_ne hj
theorem wipeE_none {ρ : Env} {vs : List Nat} : ∀ i ∈ vs, ∀ d, (wipeE ρ vs)[i]? ≠ some (some d) := fun i hi d e => (wipeE_some e).2 hi
section
variable {X : Cx} {P0 : Pr} {O W : List Nat} {E : EK} {a b c e tg : Expr} {es : List Expr} {ma mb mc : EM} {ms : AM} {pos : Pos}
theorem PE.ex {e : Expr} {m : EM} (h : ∀ P0, CEx X P0 O W E e m) : PE X e (fun σ H Q => ∃ P0, tM X.K P0 O W E m σ H Q) := ⟨fun pins s σ H Q I ⟨P0, q⟩ => (h P0).run pins s σ H Q I q⟩
theorem PT.ex {e : Expr} {m : BM} (h : ∀ P0, CT X P0 O W E e m) : PT X e (fun σ H Q => ∃ P0, tMt X.K P0 O W E m σ H Q) := ⟨fun pins s σ H Q I ⟨P0, q⟩ => (h P0).run pins s σ H Q I q⟩
theorem PG.ex {e : Expr} {m : GM} {is : List Nat} (h : ∀ P0, CG X P0 O W e m is) : PG X e (fun v σ H Q => ∃ P0, tG X.K P0 O W m is v σ H Q) := by
  refine ⟨fun pins s σ H v u Q I r ⟨P0, q⟩ => ?_⟩
  cases h P0 with
  | mk h => exact h pins s σ H v u Q I r q
/-- the tests of a comprehension -/
abbrev CTs (X : Cx) (O W : List Nat) (E : EK) (ifs : List Expr) (m : BM) : Prop := PTs X ifs (fun σ H Q => ∃ P0, tMt X.K P0 O W E m σ H Q)
theorem cts_nil : CTs X O W E [] cYes := by
  cases (pts_nil (X := X)) with
  | mk h => exact ⟨fun pins s σ H Q I ⟨P0, ρ, S, q⟩ => h pins s σ H Q I (q H S .refl)⟩
theorem cts_one {m : BM} (h : ∀ P0, CT X P0 O W E c m) : CTs X O W E [c] m := pts_one (PT.ex h)
theorem comp_core {K : PySem.W.Frag} {im : IM} {tm : GM} {t : BM} {me : EM} {is vs : List Nat} (hv : ∀ i ∈ is, i ∈ vs) (ho : ∀ i ∈ vs, i ∉ O) (σ : St) (H : Hp) (Q : VK) (h : tM K P0 O W E (cComp im tm t me vs) σ H Q) :
    tLc (tMi K P0 O W E im) (fun v σ H Q => ∃ P0, tG K P0 O W tm is v σ H Q) (fun σ H Q => ∃ P0, tMt K P0 O W E00 t σ H Q) (fun σ H Q => ∃ P0, tM K P0 O W E00 me σ H Q) vs σ H Q := by
  obtain ⟨ρ, S, h⟩ := h
  refine ⟨ρ, S, h.of_bind.mono fun ⟨⟨ds, ws⟩, ρ1⟩ q J H1 Ok S1 k1 src ok hz Dn hD => ?_⟩
  obtain ⟨⟨ys, ρf⟩, er, q⟩ := q.of_nox
  have src : Src K O W ds ws J Ok := src
  have hz : ds.length ≤ sizeLine := hz
  generalize hP : (fun b => P0 b ∨ b = Dn : Pr) = P1
  have pD : P1 Dn := by subst hP; exact .inr rfl
  have pI : ∀ b, P0 b → P1 b := by subst hP; exact fun b z => .inl z
  have pO : ∀ b, P1 b → P0 b ∨ b = Dn := by subst hP; exact fun b z => z
  have S2 : Sim K P1 O W ρ1 σ (upd H1 Dn (.lst [])) := by subst hP; exact S1.more hD
  have ok2 : Ok P1 ρ1 σ (upd H1 Dn (.lst [])) := src.grow P0 _ ρ1 σ H1 _ S1 (fun b z => (pO b z).elim .inl fun z => .inr (by rw [z]; exact hD)) (Same.new hD) ok
  have wO : ∀ w ∈ ws, w ∉ vs := fun w hw z => ho w z (src.mem _ _ _ _ ok w hw)
  have sO : ∀ i ∈ O, (L2.wipe σ vs)[i]? = σ[i]? := fun i hi => wipe_ne fun y => ho i y hi
  have S3 : Sim K P1 O W (wipeE ρ1 vs) (L2.wipe σ vs) (upd H1 Dn (.lst [])) := S2.wipe2 ho
  have nD : ¬ OA O (L2.wipe σ vs) Dn := fun z => (S1.dom Dn (.inr ((OA_of sO Dn).mp z))).some hD
  have ok3 : Ok P1 (wipeE ρ1 vs) (L2.wipe σ vs) (upd H1 Dn (.lst [])) := src.keep P1 ρ1 σ _ _ _ _ S2 (fun _ _ e _ => e) (fun b z => .inl ((FA_of sO b).mp z)) (fun w hw => ⟨wipe_ne (wO w hw), by
    cases e : (wipeE ρ1 vs)[w]? with
    | none =>
      have : ρ1.length ≤ w := by rw [← wipeE_length ρ1 vs]; exact List.getElem?_eq_none_iff.mp e
      rw [List.getElem?_eq_none this]
    | some o =>
      have q2 : ∀ (is : List Nat), w ∉ is → (wipeE ρ1 is)[w]? = ρ1[w]? := fun is => by
        induction is with
        | nil => intro _; rfl
        | cons i is ih =>
          intro hn
          simp only [List.mem_cons, not_or] at hn
          unfold wipeE
          rw [List.getElem?_set_ne fun z => hn.1 z.symm]
          exact ih hn.2
      rw [← e, q2 vs (wO w hw)]⟩) ok2
  -- the invariant
  let I : Nat → Hp → Prop := fun i Hx => i ≤ ds.length ∧ ∃ (ρx : Env) (acc : List V) (yd rest : List D), Sim K P1 O W ρx (L2.wipe σ vs) Hx ∧ Ok P1 ρx (L2.wipe σ vs) Hx ∧ Hx Dn = some (.lst acc) ∧ Reps K Hx yd (FA P1 O (L2.wipe σ vs)) acc ∧ acc.length ≤ i ∧
    cCompL tm t me vs ws (ds.drop i) ρx = .ok (rest, ρf) ∧ ys = yd ++ rest ∧ (∀ b o, H1 b = some o → ¬ OA W σ b → Hx b = some o) ∧ (∀ b, H1 b ≠ none → Hx b ≠ none) ∧ (∀ j ∈ vs, ∀ d, ρx[j]? ≠ some (some d))
  refine ⟨fun i m Hx => m = ds.length - i ∧ I i Hx, ⟨ds.length, by simp, Nat.zero_le _, wipeE ρ1 vs, [], [], ys, S3, ok3, upd_same, Reps.nil, Nat.le_refl _, er, rfl, fun b o e _ => Same.new hD b o e, fun b e => Same.some (Same.new hD) b e, wipeE_none⟩, ?_⟩
  rintro i m Hx ⟨rfl, hi, ρx, acc, yd, rest, Sx, okx, hDx, hR, hacc, hC, hys, kx, sx, nx⟩
  by_cases hlt : i < ds.length
  · right
    refine ⟨src.go P1 i ρx _ Hx Sx okx hlt, I (i + 1), fun H' p' => ⟨ds.length - (i + 1), by omega, rfl, p'⟩, fun x' H' y => ?_⟩
    obtain ⟨sm, rx⟩ := src.yld P1 i ρx _ Hx x' H' ds[i] Sx okx (List.getElem?_eq_getElem hlt) y
    rw [List.drop_eq_getElem_cons hlt] at hC
    have back : ∀ {σ2 : St}, σ2.length = (L2.wipe σ vs).length → (∀ j, j ∉ is → σ2[j]? = (L2.wipe σ vs)[j]?) → L2.wipe σ2 vs = L2.wipe σ vs ∧ ∀ j ∈ O, σ2[j]? = (L2.wipe σ vs)[j]? := fun {σ2} h1 h2 =>
      ⟨(wipe_same h1 fun j hj => h2 j fun z => hj (hv j z)).trans wipe_idem, fun j hj => h2 j fun z => ho j (hv j z) hj⟩
    -- from the turn's end to the next turn
    have next : ∀ {σ2 : St} {ρ3 : Env} {H4 : Hp} {acc' : List V} {yd' rest' : List D}, σ2.length = (L2.wipe σ vs).length → (∀ j, j ∉ is → σ2[j]? = (L2.wipe σ vs)[j]?) → Sim K P1 O W ρ3 σ2 H4 → Keep W σ2 H' H4 →
        (∀ w ∈ ws, (wipeE ρ3 vs)[w]? = ρx[w]?) → Reps K H4 yd' (FA P1 O σ2) acc' → acc'.length ≤ i + 1 → cCompL tm t me vs ws (ds.drop (i + 1)) (wipeE ρ3 vs) = .ok (rest', ρf) → ys = yd' ++ rest' → I (i + 1) (upd H4 Dn (.lst acc')) := by
      intro σ2 ρ3 H4 acc' yd' rest' h1 h2 S4 k4 hw r' hl' hc' hy'
      obtain ⟨b1, b2⟩ := back h1 h2
      have nD2 : ¬ OA O σ2 Dn := fun z => nD ((OA_of b2 Dn).mp z)
      have S5 := S4.wipe2 (is := vs) ho
      rw [b1] at S5
      have S6 := S5.wr (o := .lst acc') pD trivial
      have kp : ∀ b o, Hx b = some o → ¬ FA P1 O (L2.wipe σ vs) b → upd H4 Dn (.lst acc') b = some o := fun b o e n => by
        rw [upd_ne fun z => n (.inl (by rw [z]; exact pD))]
        exact k4.keep b o (sm b o e) fun z => n (.inr ((OA_of b2 b).mp (S4.oaw z)))
      refine ⟨hlt, wipeE ρ3 vs, acc', yd', rest', S6, src.keep P1 ρx _ Hx _ _ _ Sx kp (fun b z => .inl z) (fun w hw' => ⟨rfl, hw w hw'⟩) okx, upd_same, ?_, hl', hc', hy', fun b o e n => ?_, fun b e => ?_, wipeE_none⟩
      · refine r'.mono yd' S4.dom (fun b o e n => ?_) fun b z => .inl ((FA_of b2 b).mpr z)
        rw [upd_ne fun z => n (.inl (by rw [z]; exact pD))]
        exact e
      · have hb : b ≠ Dn := ne_of_none e hD
        rw [upd_ne hb]
        exact k4.keep b o (sm b o (kx b o e n)) fun z => n ((OA_of (fun i hi => sO i (S1.sub i hi)) b).mp ((OA_of (fun i hi => b2 i (S1.sub i hi)) b).mp z))
      · by_cases hb : b = Dn
        · rw [hb, upd_same]; intro z; cases z
        · rw [upd_ne hb]
          exact k4.some b (Same.some sm b (sx b e))
    cases cComp_step hC with
    | yes ρa ρb ρc hd d ys' e1 e2 e3 e4 e5 e6 e7 =>
      refine ⟨P1, ρx, ds[i], ρa, Sx.same sm, rx, e1, fun σ2 Sa h1 h2 => ⟨(back h1 h2).1, P1, ρa, Sa, ?_⟩⟩
      rw [e2]
      intro H3 Sb k3
      refine (if_pos rfl).mpr ⟨P1, ρb, Sb, ?_⟩
      rw [e3]
      intro y' H4 Sc k4 r4
      have b2 := (back h1 h2).2
      have nD2 : ¬ OA O σ2 Dn := fun z => nD ((OA_of b2 Dn).mp z)
      have k34 : Keep W σ2 H' H4 := k3.trans k4
      refine ⟨acc, k34.keep _ _ (sm _ _ hDx) fun z => nD2 (Sc.oaw z), by omega, ?_⟩
      have r5 : Reps K H4 yd (FA P1 O σ2) acc := hR.mono yd Sx.dom (fun b o e n => k34.keep b o (sm b o e) fun z => n (.inr ((OA_of b2 b).mp (Sc.oaw z)))) fun b z => .inl ((FA_of b2 b).mp z)
      exact next h1 h2 Sc k34 (chk_ok e5) (r5.append (Reps.cons (r4.v e4) Reps.nil)) (by simp; omega) e6 (by rw [hys, e7]; simp)
    | no ρa ρb e1 e2 e5 e6 =>
      refine ⟨P1, ρx, ds[i], ρa, Sx.same sm, rx, e1, fun σ2 Sa h1 h2 => ⟨(back h1 h2).1, P1, ρa, Sa, ?_⟩⟩
      rw [e2]
      intro H3 Sb k3
      refine (if_neg Bool.false_ne_true).mpr ?_
      have b2 := (back h1 h2).2
      have nD2 : ¬ OA O σ2 Dn := fun z => nD ((OA_of b2 Dn).mp z)
      have r5 : Reps K H3 yd (FA P1 O σ2) acc := hR.mono yd Sx.dom (fun b o e n => k3.keep b o (sm b o e) fun z => n (.inr ((OA_of b2 b).mp (Sb.oaw z)))) fun b z => .inl ((FA_of b2 b).mp z)
      have hD3 : H3 Dn = some (.lst acc) := k3.keep _ _ (sm _ _ hDx) fun z => nD2 (Sb.oaw z)
      have fin := next h1 h2 Sb k3 (chk_ok e5) r5 (by omega) e6 hys
      have e : upd H3 Dn (.lst acc) = H3 := by
        funext b
        unfold upd
        split
        · rename_i z; rw [z, hD3]
        · rfl
      rw [e] at fin
      exact fin
  · left
    have ei : i = ds.length := by omega
    subst ei
    refine ⟨src.stop P1 ρx _ Hx Sx okx, ?_⟩
    rw [List.drop_length] at hC
    have hC : (R.ok (([] : List D), ρx)) = R.ok (rest, ρf) := hC
    cases hC
    rw [List.append_nil] at hys
    subst hys
    have kH : Keep W σ H1 Hx := ⟨kx, sx⟩
    refine q (.ref Dn) Hx ((Sx.lessP pI).out ho nx) (k1.trans kH) ⟨?_, fun _ a e => ?_⟩
    · unfold Rep
      refine ⟨Dn, acc, rfl, fun z => (S1.dom Dn z).some hD, hDx, hR.less Sx.dom fun b z => ?_⟩
      rcases z with z | z
      · exact (FA_of sO b).mpr (z.imp (pI b) id)
      · rw [z]; exact .inl pD
    · cases e
      exact Classical.byContradiction fun z => k1.some Dn z hD
theorem ce_comp {elt iter : Expr} {ifs : List Expr} {scope : Scope} {own : List (Str × Nat)} {im : IM} {tm : GM} {t : BM} {me : EM} {is : List Nat} (hc : X.calm = true) (hN : X.N.Nodup) (hi : CI X P0 O W E tg iter im) (ok : BlkOk X.N X.env.scope scope own)
    (hg : ∀ (P0 : Pr) (s : Shared) (H : Hp) (C : Addr) (cl : List (Str × Addr)) (fp : List Addr), CG (X.blk s H scope (compEnvC scope cl C X.env) fp) P0 O W tg tm is)
    (ht : ∀ (s : Shared) (H : Hp) (C : Addr) (cl : List (Str × Addr)) (fp : List Addr), CTs (X.blk s H scope (compEnvC scope cl C X.env) fp) O W E00 ifs t)
    (he : ∀ (P0 : Pr) (s : Shared) (H : Hp) (C : Addr) (cl : List (Str × Addr)) (fp : List Addr), CEx (X.blk s H scope (compEnvC scope cl C X.env) fp) P0 O W E00 elt me)
    (hv : ∀ i ∈ is, i ∈ own.map (·.2) := by decide) (ho : ∀ i ∈ own.map (·.2), i ∉ O := by decide) (hs : ∀ x, foldedSetIterable iter X.env x = pure x := by intro _; rfl) :
    CEx X P0 O W E (.ListComp elt [⟨tg, iter, ifs, 0⟩] scope pos) (cComp im tm t me (own.map (·.2))) :=
  PE.imp (pe_lc hc hN hi ok (fun s H C cl fp => PG.ex fun P0 => hg P0 s H C cl fp) ht (fun s H C cl fp => PE.ex fun P0 => he P0 s H C cl fp) hs) (comp_core hv ho)
end
end Y

set_option Elab.async false
set_option linter.all false
set_option maxRecDepth 100000
namespace Y
open PySem PySem.Spec PyProof.Rows L2

mutual
def D.nl : D → Bool
  | .non => true
  | .bl _ => true
  | .int _ => true
  | .str _ => true
  | .tup ds => nls ds
  | .ftu ds => nls ds
  | _ => false
def nls : List D → Bool
  | [] => true
  | d :: ds => d.nl && nls ds
end
/-- a list, a dict of such -/
def D.shallow : D → Bool
  | .lst ds => nls ds
  | .dik _ ds => nls ds
  | .dit _ ds => nls ds
  | d => d.nl
section
variable {K : PySem.W.Frag} {H : Hp}
mutual
theorem Rep.nl : ∀ {d : D} {P P' : Pr} {v : V}, d.nl = true → Rep K H d P v → Rep K H d P' v
  | .non, _, _, _, _, h => by unfold Rep at h ⊢; exact h
  | .bl _, _, _, _, _, h => by unfold Rep at h ⊢; exact h
  | .int _, _, _, _, _, h => by unfold Rep at h ⊢; exact h
  | .str _, _, _, _, _, h => by unfold Rep at h ⊢; exact h
  | .tup ds, P, P', v, n, h => by
    unfold Rep at h ⊢
    obtain ⟨a, vs, e, h1, h2⟩ := h
    exact ⟨a, vs, e, h1, Reps.nl (by unfold D.nl at n; exact n) h2⟩
  | .ftu ds, P, P', v, n, h => by
    unfold Rep at h ⊢
    obtain ⟨a, vs, o, e, h1, hd, h2⟩ := h
    exact ⟨a, vs, o, e, h1, hd, Reps.nl (by unfold D.nl at n; exact n) h2⟩
  | .lst _, _, _, _, n, _ => by simp [D.nl] at n
  | .arg _, _, _, _, n, _ => by simp [D.nl] at n
  | .dik _ _, _, _, _, n, _ => by simp [D.nl] at n
  | .dit _ _, _, _, _, n, _ => by simp [D.nl] at n
theorem Reps.nl : ∀ {ds : List D} {P P' : Pr} {vs : List V}, nls ds = true → Reps K H ds P vs → Reps K H ds P' vs
  | [], _, _, _, _, h => by rw [h.nil_iff]; exact Reps.nil
  | d :: ds, P, P', vs, n, h => by
    obtain ⟨v, ws, rfl, h1, h2⟩ := h.cons_iff
    unfold nls at n
    rw [Bool.and_eq_true] at n
    exact Reps.cons (Rep.nl n.1 h1) (Reps.nl n.2 h2)
end
theorem RepO.shallow {d : D} {P P' : Pr} {v : V} (n : d.shallow = true) (h : RepO K H d P v) : RepO K H d P' v := by
  cases d with
  | lst ds => obtain ⟨a, vs, e, h1, h2⟩ := h; exact ⟨a, vs, e, h1, h2.nl n⟩
  | dik ks ds => obtain ⟨a, vs, e, hl, h1, h2⟩ := h; exact ⟨a, vs, e, hl, h1, h2.nl n⟩
  | dit ks ds => obtain ⟨a, vs, e, hl, h1, h2⟩ := h; exact ⟨a, vs, e, hl, h1, h2.nl n⟩
  | non => exact h
  | bl _ => exact h
  | int _ => exact h
  | str _ => exact h
  | tup _ => exact h
  | arg _ => exact h
  | ftu _ => exact h
theorem RepO.mono {H' : Hp} {d : D} {P P' : Pr} {v : V} (hm : ∀ b, P b → isMut (H b)) (k : ∀ b o, H b = some o → ¬ P b → H' b = some o) (hp : ∀ b, P' b → P b ∨ H b = none) (hk : ∀ a o, v = .ref a → H a = some o → H' a = some o) (h : RepO K H d P v) : RepO K H' d P' v := by
  cases d with
  | lst ds => obtain ⟨a, vs, e, h1, h2⟩ := h; exact ⟨a, vs, e, hk a _ e h1, h2.mono ds hm k hp⟩
  | dik ks ds => obtain ⟨a, vs, e, hl, h1, h2⟩ := h; exact ⟨a, vs, e, hl, hk a _ e h1, h2.mono ds hm k hp⟩
  | dit ks ds => obtain ⟨a, vs, e, hl, h1, h2⟩ := h; exact ⟨a, vs, e, hl, hk a _ e h1, h2.mono ds hm k hp⟩
  | non => exact h
  | bl _ => exact h
  | int _ => exact h
  | str _ => exact h
  | tup _ => exact h
  | arg _ => exact h
  | ftu _ => exact h
end
open Classical in
/-- what is known of the slots is what was known; or, of own slots, it holds no lists -/
noncomputable def chkO (O W : List Nat) (ρ ρ' : Env) : R Unit := if ∀ (j : Nat) d, ρ'[j]? = some (some d) → (ρ[j]? = some (some d) ∧ j ∉ W) ∨ (j ∈ O ∧ d.shallow = true) ∨ d.nl = true then .ok () else .stk
theorem chkO_ok {O W : List Nat} {ρ ρ' : Env} (h : chkO O W ρ ρ' = .ok ()) : ∀ (j : Nat) d, ρ'[j]? = some (some d) → (ρ[j]? = some (some d) ∧ j ∉ W) ∨ (j ∈ O ∧ d.shallow = true) ∨ d.nl = true := by
  unfold chkO at h
  split at h
  · assumption
  · cases h
@[simp] theorem chkO_same {O : List Nat} {ρ : Env} : chkO O [] ρ ρ = .ok () := by unfold chkO; rw [if_pos fun j d e => .inl ⟨e, by simp⟩]
/-- what an own slot may take -/
def D.ownable : D → Bool
  | .lst _ => true
  | .non => true
  | .bl _ => true
  | .int _ => true
  | .str _ => true
  | _ => false
section
variable {K : PySem.W.Frag} {P0 P1 : Pr} {O W : List Nat} {ρ ρ' : Env} {σ σ' : St} {H H' : Hp} {d : D} {v : V}
/-- an own slot's object is written -/
theorem Sim.ownW (S : Sim K P0 O W ρ σ H) {i : Nat} {a : Addr} {o : HO} (hi : i ∈ O) (ha : σ[i]? = some (some (.ref a))) (ho : isMut (some o)) (r : RepO K (upd H a o) d (FA P0 O σ) (.ref a)) : Sim K P0 O W (ρ.set i (some d)) σ (upd H a o) := by
  have pa : FA P0 O σ a := .inr ⟨i, hi, ha⟩
  have k : ∀ b u, H b = some u → ¬ FA P0 O σ b → upd H a o b = some u := fun b u e n => by rw [upd_ne fun z => n (by rw [z]; exact pa)]; exact e
  refine ⟨S.sub, by simpa using S.len, fun b z => ?_, fun j d' e n => ?_, fun j d' e n => ?_, S.sep, S.sep0⟩
  · by_cases hb : b = a
    · rw [hb, upd_same]; exact ho
    · rw [upd_ne hb]; exact S.dom b z
  · have hj : i ≠ j := fun (z : i = j) => n (by rw [← z]; exact hi)
    rw [List.getElem?_set_ne hj] at e
    obtain ⟨v, h1, h2⟩ := S.val j d' e n
    exact ⟨v, h1, h2.of_same S.dom k⟩
  · by_cases hj : i = j
    · subst hj
      have h1 : i < ρ.length := by have := (List.getElem?_eq_some_iff.mp e).1; simpa using this
      rw [List.getElem?_set_self h1] at e
      cases e
      exact ⟨_, ha, r⟩
    · rw [List.getElem?_set_ne hj] at e
      obtain ⟨v, h1, h2⟩ := S.own j d' e n
      refine ⟨v, h1, h2.mono S.dom k (fun _ z => .inl z) fun b u e1 e2 => ?_⟩
      subst e1
      rw [upd_ne fun (z : b = a) => hj (S.sep i j a hi n ha (by rw [← z]; exact h1))]
      exact e2
/-- a datum of an own slot, of a new object -/
theorem Rep.own (hm : ∀ b, FA P0 O σ b → isMut (H b)) (hd : d.ownable = true) (r : Rep K H d (FA P0 O σ) v) {P' : Pr} (hp : ∀ b, P' b → FA P0 O σ b ∨ v = .ref b) : RepO K H d P' v := by
  cases d with
  | lst ds =>
    unfold Rep at r
    obtain ⟨a, vs, rfl, h0, h1, h2⟩ := r
    exact ⟨a, vs, rfl, h1, h2.less (mutL hm h1) fun b z => (hp b z).imp id fun z => by cases z; rfl⟩
  | dik _ _ => cases hd
  | dit _ _ => cases hd
  | non => unfold Rep at r; exact r
  | bl _ => unfold Rep at r; exact r
  | int _ => unfold Rep at r; exact r
  | str _ => unfold Rep at r; exact r
  | tup _ => cases hd
  | arg _ => cases hd
  | ftu _ => cases hd
/-- an own slot gets a new object v. S0: the state ahead of its making -/
theorem Sim.setO (S0 : Sim K P0 O W ρ σ H) (S : Sim K P0 O W ρ' σ H') (k : Keep W σ H H') (c : ∀ (j : Nat) d, ρ'[j]? = some (some d) → (ρ[j]? = some (some d) ∧ j ∉ W) ∨ (j ∈ O ∧ d.shallow = true) ∨ d.nl = true) {i : Nat} (hi : i ∈ O)
    (new : ∀ a, v = .ref a → H a = none ∧ isMut (H' a)) (r : RepO K H' d (fun b => FA P0 O σ b ∨ v = .ref b) v) : Sim K P0 O W (ρ'.set i (some d)) (σ.set i (some v)) H' := by
  have gs : ∀ {j : Nat} {w : V}, (σ.set i (some v))[j]? = some (some w) → (j = i ∧ w = v) ∨ (j ≠ i ∧ σ[j]? = some (some w)) := fun {j w} e => by
    by_cases hj : i = j
    · subst hj
      have h1 : i < σ.length := by have := (List.getElem?_eq_some_iff.mp e).1; simpa using this
      rw [List.getElem?_set_self h1] at e
      cases e
      exact .inl ⟨rfl, rfl⟩
    · rw [List.getElem?_set_ne hj] at e
      exact .inr ⟨fun z => hj z.symm, e⟩
  have oa : ∀ b, OA O (σ.set i (some v)) b → v = .ref b ∨ OA O σ b := fun b ⟨j, hj, e⟩ => by
    rcases gs e with ⟨_, e2⟩ | ⟨_, e2⟩
    · exact .inl e2.symm
    · exact .inr ⟨j, hj, e2⟩
  have fa0 : ∀ b, FA P0 O (σ.set i (some v)) b → FA P0 O σ b ∨ H b = none := fun b z => by
    rcases z with z | z
    · exact .inl (.inl z)
    · rcases oa b z with z | z
      · exact .inr (new b z).1
      · exact .inl (.inr z)
  have kf : ∀ b o, H b = some o → ¬ FA P0 O σ b → H' b = some o := fun b o e n => k.keep b o e fun z => n (.inr (S.oaw z))
  -- the new object is not what an own slot held
  have apart : ∀ a, v = .ref a → ¬ FA P0 O σ a := fun a e z => (S0.dom a z).some (new a e).1
  refine ⟨S.sub, by simpa using S.len, fun b z => ?_, fun j d' e n => ?_, fun j d' e n => ?_, fun x y a hx hy e1 e2 => ?_, fun a z y => ?_⟩
  · rcases z with z | z
    · exact S.dom b (.inl z)
    · rcases oa b z with z | z
      · exact (new b z).2
      · exact S.dom b (.inr z)
  · have hj : i ≠ j := fun (z : i = j) => n (by rw [← z]; exact hi)
    rw [List.getElem?_set_ne hj] at e ⊢
    rcases c j d' e with ⟨e0, _⟩ | ⟨z, _⟩ | nl
    · obtain ⟨w, h1, h2⟩ := S0.val j d' e0 n
      exact ⟨w, h1, h2.mono d' S0.dom kf fa0⟩
    · exact absurd z n
    · obtain ⟨w, h1, h2⟩ := S.val j d' e n
      exact ⟨w, h1, h2.nl nl⟩
  · by_cases hj : i = j
    · subst hj
      have h1 : i < ρ'.length := by have := (List.getElem?_eq_some_iff.mp e).1; simpa using this
      rw [List.getElem?_set_self h1] at e
      cases e
      refine ⟨v, List.getElem?_set_self (Nat.lt_of_lt_of_le h1 S.len), ?_⟩
      have r' := r
      refine r'.mono (P := fun b => FA P0 O σ b ∨ v = .ref b) (fun b z => z.elim (S.dom b) fun z => (new b z).2) (fun _ _ e _ => e) (fun b z => ?_) fun _ _ _ e => e
      rcases z with z | z
      · exact .inl (.inl (.inl z))
      · exact .inl ((oa b z).elim .inr fun z => .inl (.inr z))
    · rw [List.getElem?_set_ne hj] at e ⊢
      rcases c j d' e with ⟨e0, hw⟩ | ⟨_, sh⟩ | nl
      · obtain ⟨w, h1, h2⟩ := S0.own j d' e0 n
        refine ⟨w, h1, h2.mono S0.dom kf fa0 fun a o e1 e2 => ?_⟩
        subst e1
        refine k.keep a o e2 fun ⟨x, hx, ex⟩ => ?_
        have := S0.sep x j a (S0.sub x hx) n ex h1
        exact hw (this ▸ hx)
      · obtain ⟨w, h1, h2⟩ := S.own j d' e n
        exact ⟨w, h1, h2.shallow sh⟩
      · obtain ⟨w, h1, h2⟩ := S.own j d' e n
        refine ⟨w, h1, ?_⟩
        cases d' <;> first | exact h2 | (simp [D.nl] at nl)
  · rcases gs e1 with ⟨f1, g1⟩ | ⟨f1, g1⟩
    · rcases gs e2 with ⟨f2, g2⟩ | ⟨f2, g2⟩
      · rw [f1, f2]
      · exact absurd (.inr ⟨y, hy, g2⟩) (apart a g1.symm)
    · rcases gs e2 with ⟨f2, g2⟩ | ⟨f2, g2⟩
      · exact absurd (.inr ⟨x, hx, g1⟩) (apart a g2.symm)
      · exact S.sep x y a hx hy g1 g2
  · rcases oa a z with z | z
    · exact apart a z (.inl y)
    · exact S.sep0 a z y
end

inductive Fl where
  | nx | bk | ct | rt (h : Hd)
abbrev SM := Env → R (Fl × Env)
def Fin (K : PySem.W.Frag) (P0 : Pr) (O : List Nat) (Hs : Hp) (D : Ends) (σ : St) (H : Hp) : Fl → Prop
  | .nx => D.nx σ H
  | .bk => D.bk σ H
  | .ct => D.ct σ H
  | .rt h => ∀ v, HdR K P0 O Hs σ H h v → D.rt v H
def tSt (K : PySem.W.Frag) (P0 : Pr) (O W U : List Nat) (E : EK) (m : SM) : TS := fun D σ H => ∃ ρ, Sim K P0 O W ρ σ H ∧
  Res E O σ H (m ρ) fun a => ∀ σ' H', Sim K P0 O W a.2 σ' H' → Tr O U σ H σ' H' → σ'.length = σ.length → Fin K P0 O H D σ' H' a.1
section
variable {E : EK} {O W U : List Nat} {σ σ1 : St} {H H1 : Hp} {α β : Type}
theorem Keep.up (hs : ∀ i ∈ W, i ∈ O) (k : Keep W σ H H1) : Keep O σ H H1 := ⟨fun b o e n => k.keep b o e fun ⟨i, hi, z⟩ => n ⟨i, hs i hi, z⟩, k.some⟩
theorem Res.down (hs : ∀ i ∈ W, i ∈ O) {r : R α} {k : α → Prop} (h : Res E O σ H r k) : Res E W σ H r k := by
  cases r with
  | ok a => exact h
  | er c ds => exact fun H' kp => h H' (kp.up hs)
  | stk => exact h
theorem Keep.afterT {H2 : Hp} (t : Tr O U σ H σ1 H1) (k : Keep O σ1 H1 H2) : Keep O σ H H2 where
  keep := fun b o e n => k.keep b o (t.keep b o e n) fun z => by
    rcases t.own b z with z | z
    · exact n z
    · rw [e] at z; cases z
  some := fun b e => k.some b (t.some b e)
theorem Res.keepT {r : R α} {k : α → Prop} (h : Res E O σ H r k) (t : Tr O U σ H σ1 H1) : Res E O σ1 H1 r k := by
  cases r with
  | ok a => exact h
  | er c ds => exact fun H' kp => h H' (kp.afterT t)
  | stk => exact h
end
section
variable {X : Cx} {P0 : Pr} {O W U : List Nat} {E : EK} {a b c e tg : Expr} {es : List Expr} {ma mb mc : EM} {ms : AM} {pos : Pos} {st : Stmt} {sts : List Stmt} {m n : SM}
abbrev CS (X : Cx) (P0 : Pr) (O W U : List Nat) (E : EK) (st : Stmt) (m : SM) : Prop := PS X st (tSt X.K P0 O W U E m)
abbrev CSs (X : Cx) (P0 : Pr) (O W U : List Nat) (E : EK) (sts : List Stmt) (m : SM) : Prop := PSs X sts (tSt X.K P0 O W U E m)
def sSkip : SM := fun ρ => .ok (.nx, ρ)
def sSeq (m n : SM) : SM := fun ρ => do
  let (f, ρ1) ← m ρ
  match f with
  | .nx => n ρ1
  | f => pure (f, ρ1)
theorem cs_nil : CSs X P0 O W U E [] sSkip := PSs.imp pss_nil fun D σ H ⟨ρ, S, h⟩ => h σ H S .refl rfl
theorem cs_one (h : CS X P0 O W U E st m) : CSs X P0 O W U E [st] m := pss_one h
theorem cs_cons (h : CS X P0 O W U E st m) (h2 : CSs X P0 O W U E sts n) : CSs X P0 O W U E (st :: sts) (sSeq m n) := PSs.imp (pss_cons h h2) fun D σ H ⟨ρ, S, h⟩ =>
  ⟨ρ, S, h.of_bind.mono fun ⟨f, ρ1⟩ q σ1 H1 S1 t1 l1 => by
    cases f with
    | nx =>
      refine ⟨ρ1, S1, (Res.keepT (show Res E O σ H (n ρ1) _ from q) t1).mono fun ⟨f2, ρ2⟩ q2 σ2 H2 S2 t2 l2 => ?_⟩
      have q3 := q2 σ2 H2 S2 (t1.trans t2) (l2.trans l1)
      cases f2 with
      | nx => exact q3
      | bk => exact q3
      | ct => exact q3
      | rt hd => exact fun v r => q3 v (r.back t1.some)
    | bk => exact q σ1 H1 S1 t1 l1
    | ct => exact q σ1 H1 S1 t1 l1
    | rt hd => exact q σ1 H1 S1 t1 l1⟩
def sRet (m : EM) : SM := fun ρ => do
  let (h, ρ1) ← m ρ
  pure (.rt h, ρ1)
theorem cs_ret (h : CEx X P0 O W E e ma) : CS X P0 O W U E (.Return (some e) pos) (sRet ma) := PS.imp (ps_ret h) fun D σ H ⟨ρ, S, h⟩ =>
  ⟨ρ, S, (h.of_bind.down S.sub).mono fun ⟨hd, ρ1⟩ q v H1 S1 k1 r1 => q σ H1 S1 (Tr.of S.sub k1) rfl v r1⟩
def sIf (t : BM) (m n : SM) : SM := fun ρ => do
  let (k, ρ1) ← t ρ
  if k = true then m ρ1 else n ρ1
theorem Fin.back {K : PySem.W.Frag} {Hs Hs' : Hp} {D : Ends} {σ : St} {H : Hp} {f : Fl} (k : ∀ b, Hs b ≠ none → Hs' b ≠ none) (h : Fin K P0 O Hs D σ H f) : Fin K P0 O Hs' D σ H f := by
  cases f with
  | rt hd => exact fun v r => h v (r.back k)
  | nx => exact h
  | bk => exact h
  | ct => exact h
theorem cs_if {t : BM} {xs ys : List Stmt} (hc : CT X P0 O W E c t) (h1 : CSs X P0 O W U E xs m) (h2 : CSs X P0 O W U E ys n) : CS X P0 O W U E (.If c xs ys pos) (sIf t m n) := PS.imp (ps_if hc h1 h2) fun D σ H ⟨ρ, S, h⟩ =>
  ⟨ρ, S, (h.of_bind.down S.sub).mono fun ⟨k, ρ1⟩ q H1 S1 k1 => by
    cases k with
    | true =>
      exact (if_pos rfl).mpr ⟨ρ1, S1, (Res.keepT (show Res E O σ H (m ρ1) _ from q) (Tr.of (U := U) S.sub k1)).mono fun ⟨f2, ρ2⟩ q2 σ2 H2 S2 t2 l2 => (q2 σ2 H2 S2 ((Tr.of S.sub k1).trans t2) l2).back fun b e => k1.some b e⟩
    | false =>
      exact (if_neg Bool.false_ne_true).mpr ⟨ρ1, S1, (Res.keepT (show Res E O σ H (n ρ1) _ from q) (Tr.of (U := U) S.sub k1)).mono fun ⟨f2, ρ2⟩ q2 σ2 H2 S2 t2 l2 => (q2 σ2 H2 S2 ((Tr.of S.sub k1).trans t2) l2).back fun b e => k1.some b e⟩⟩
end
end Y

set_option Elab.async false
set_option linter.all false
set_option maxRecDepth 100000
namespace Y
open PySem PySem.Spec PyProof.Rows L2
section
variable {K : PySem.W.Frag} {X : Cx} {P0 : Pr} {O W U : List Nat} {E : EK} {a b c e tg iter : Expr} {es : List Expr} {ma mb mc : EM} {ms : AM} {pos : Pos} {st : Stmt} {sts : List Stmt} {m n : SM}
def sAsg (m : EM) (tm : GM) : SM := fun ρ => do
  let (h, ρ1) ← m ρ
  let d ← h.v.nox
  let ρ2 ← (tm d ρ1).nox
  pure (.nx, ρ2)
theorem Tr.slots {is : List Nat} {σ σ' : St} {H : Hp} (ho : ∀ i ∈ is, i ∉ O) (hu : ∀ i ∈ U, i ∈ O) (h : ∀ j, j ∉ is → σ'[j]? = σ[j]?) : Tr O U σ H σ' H :=
  ⟨fun _ _ e _ => e, fun _ e => e, fun b z => .inl ((OA_of (fun i hi => h i fun y => ho i y hi) b).mp z), fun i hi => h i fun y => ho i y (hu i hi)⟩
theorem tM_asg {tm : GM} {is : List Nat} (ho : ∀ i ∈ is, i ∉ O) (hu : ∀ i ∈ U, i ∈ O) (D : Ends) (σ : St) (H : Hp) (h : tSt K P0 O W U E (sAsg ma tm) D σ H) : tAsg (tM K P0 O W E ma) (tG K P0 O W tm is) D σ H := by
  obtain ⟨ρ, S, h⟩ := h
  refine ⟨ρ, S, (h.of_bind.down S.sub).mono fun ⟨hd, ρ1⟩ q v H1 S1 k1 r1 => ?_⟩
  obtain ⟨d, e1, q⟩ := q.of_nox
  obtain ⟨ρ2, e2, q⟩ := q.of_nox
  exact ⟨ρ1, d, ρ2, S1, r1.v e1, e2, fun σ' S' l h' => q σ' H1 S' ((Tr.of S.sub k1).trans (Tr.slots ho hu h')) l⟩
theorem cs_asg {tm : GM} {is : List Nat} (h : CEx X P0 O W E e ma) (hg : CG X P0 O W tg tm is) (ho : ∀ i ∈ is, i ∉ O := by decide) (hu : ∀ i ∈ U, i ∈ O := by decide) (hs : swapsWithSole [tg] e pos.line X.env = pure false := by rfl) (hw : swappedStores [tg] e X.env = pure none := by rfl) (h1 : (assignEach [tg] X.env).map (·.2) = [assign tg X.env] := by rfl) : CS X P0 O W U E (.Assign [tg] e pos) (sAsg ma tm) :=
  PS.imp (ps_asg h hg hs hw h1) (tM_asg ho hu)
/-- y = [.. for ..] on one line, y not captured -/
theorem cs_asgLc {i : Nat} {y : Str} {py : Pos} {elt : Expr} {ifs : List Expr} {scope : Scope} {own : List (Str × Nat)} {im : IM} {tm : GM} {t : BM} {me : EM} {is : List Nat} {p2 : Pos} (hc : X.calm = true) (hN : X.N.Nodup) (hy : X.N[i]? = some y) (hyl : X.env.scope.names.lookup y = some .local)
    (hsw : swapsWith (.ListComp elt [⟨tg, iter, ifs, 0⟩] scope pos) (some (.Name y py)) p2.line X.env = pure true) (hi : CI X P0 O W E tg iter im) (ok : BlkOk X.N X.env.scope scope own)
    (hg : ∀ (P0 : Pr) (s : Shared) (H : Hp) (C : Addr) (cl : List (Str × Addr)) (fp : List Addr), CG (X.blk s H scope (compEnvC scope cl C X.env) fp) P0 O W tg tm is)
    (ht : ∀ (s : Shared) (H : Hp) (C : Addr) (cl : List (Str × Addr)) (fp : List Addr), CTs (X.blk s H scope (compEnvC scope cl C X.env) fp) O W E00 ifs t)
    (he : ∀ (P0 : Pr) (s : Shared) (H : Hp) (C : Addr) (cl : List (Str × Addr)) (fp : List Addr), CEx (X.blk s H scope (compEnvC scope cl C X.env) fp) P0 O W E00 elt me)
    (hv : ∀ i ∈ is, i ∈ own.map (·.2) := by decide) (ho : ∀ i ∈ own.map (·.2), i ∉ O := by decide) (hi' : i ∉ O := by decide) (hu : ∀ i ∈ U, i ∈ O := by decide) (hs : ∀ x, foldedSetIterable iter X.env x = pure x := by intro _; rfl) :
    CS X P0 O W U E (.Assign [.Name y py] (.ListComp elt [⟨tg, iter, ifs, 0⟩] scope pos) p2) (sAsg (cComp im tm t me (own.map (·.2))) (tmName i)) :=
  PS.imp (ps_setLc (i := i) hc hN hy hyl hsw hi ok (fun s H C cl fp => PG.ex fun P0 => hg P0 s H C cl fp) ht (fun s H C cl fp => PE.ex fun P0 => he P0 s H C cl fp) hs) fun D σ H h => by
    have q := tM_asg (is := [i]) (by simpa using hi') hu D σ H h
    refine comp_core (im := im) (tm := tm) (t := t) (me := me) hv ho σ H _ ?_
    obtain ⟨ρ, S, q⟩ := q
    refine ⟨ρ, S, q.mono fun a q v H1 S1 k1 r1 => ?_⟩
    obtain ⟨ρ1, d, ρ2, S2, r, e, q⟩ := q v H1 S1 k1 r1
    cases e
    exact q _ (S2.set hi' r) (by simp) fun j hj => List.getElem?_set_ne fun z => hj (by simp [z])
noncomputable def sOwn (O W : List Nat) (m : EM) (i : Nat) : SM := fun ρ => do
  let (h, ρ1) ← m ρ
  match h with
  | .fr d => do
    let _ ← (chkO O W ρ ρ1).nox
    if d.ownable = true then pure (.nx, ρ1.set i (some d)) else .stk
  | _ => .stk
theorem tM_own {i : Nat} (hi : i ∈ O) (hu : i ∉ U) (D : Ends) (σ : St) (H : Hp) (h : tSt K P0 O W U E (sOwn O W ma i) D σ H) : tAsg (tM K P0 O W E ma) (gName i) D σ H := by
  obtain ⟨ρ, S, h⟩ := h
  refine ⟨ρ, S, (h.of_bind.down S.sub).mono fun ⟨hd, ρ1⟩ q v H1 S1 k1 r1 => ?_⟩
  cases hd with
  | vl d => exact q.elim
  | ow j => exact q.elim
  | fr d =>
    obtain ⟨_, e1, q⟩ := Res.of_nox (show Res E O σ H ((chkO O W ρ ρ1).nox >>= _) _ from q)
    have c := chkO_ok e1
    by_cases hd : d.ownable = true
    · rw [if_pos hd] at q
      have new : ∀ a, v = .ref a → H a = none ∧ isMut (H1 a) := fun a e => by
        subst e
        have r := r1.1
        have f := r1.2
        cases d with
        | lst ds =>
          unfold Rep at r
          obtain ⟨b, vs, e, h0, h1, h2⟩ := r
          cases e
          exact ⟨f rfl _ rfl, by rw [h1]; trivial⟩
        | non => unfold Rep at r; cases r
        | bl _ => unfold Rep at r; cases r
        | int _ => unfold Rep at r; cases r
        | str _ => unfold Rep at r; cases r
        | tup _ => cases hd
        | arg _ => cases hd
        | ftu _ => cases hd
        | dik _ _ => cases hd
        | dit _ _ => cases hd
      have S2 := S.setO S1 k1 c hi new (r1.1.own S1.dom hd fun b z => z)
      have gs : ∀ {b : Addr}, OA O (σ.set i (some v)) b → OA O σ b ∨ H b = none := fun {b} ⟨j, hj, e⟩ => by
        by_cases hij : i = j
        · subst hij
          have h1 : i < σ.length := by have := (List.getElem?_eq_some_iff.mp e).1; simpa using this
          rw [List.getElem?_set_self h1] at e
          cases e
          exact .inr (new b rfl).1
        · rw [List.getElem?_set_ne hij] at e
          exact .inl ⟨j, hj, e⟩
      exact q _ H1 S2 ⟨fun b o e n => k1.keep b o e fun z => n (S.oaw z), k1.some, fun b z => gs z, fun j hj => List.getElem?_set_ne fun (z : i = j) => hu (by rw [z]; exact hj)⟩ (by simp)
    · rw [if_neg hd] at q
      exact q.elim
theorem cs_own {i : Nat} {x : Str} {p : Pos} (hN : X.N.Nodup) (h : CEx X P0 O W E e ma) (hi : i ∈ O := by decide) (hu : i ∉ U := by decide) (hx : X.N[i]? = some x := by rfl) (hl : Loc X.env.scope x := by first | exact Or.inl rfl | exact Or.inr rfl) (hf : X.fn x = true ∨ X.env.scope.names.lookup x = some .local := by first | exact .inl rfl | exact .inr rfl)
    (hs : swapsWithSole [.Name x p] e pos.line X.env = pure false := by rfl) (hw : swappedStores [.Name x p] e X.env = pure none := by rfl) : CS X P0 O W U E (.Assign [.Name x p] e pos) (sOwn O W ma i) :=
  PS.imp (ps_asg h (pg_name hN hx hl hf) hs hw) (tM_own hi hu)
/-- few arguments, no stars -/
abbrev Few (X : Cx) (cp : Pos) (es : List Expr) : Prop := ((backTo cp (starEach es X.env)).all (fun x => !x.1) && (backToKw cp (keywordEach [] X.env)).all (fun x => x.1.isSome)
      && decide (es.length + ([] : List Keyword).length + (if ([] : List Keyword).isEmpty then 0 else 1) < 30)) = true
theorem Tr.ownW {i : Nat} {l : Addr} {o : HO} {σ : L2.St} {H H1 : Hp} (hs : ∀ i ∈ W, i ∈ O) (k : Keep W σ H H1) (hi : i ∈ O) (ha : σ[i]? = Option.some (Option.some (V.ref l))) : Tr O U σ H σ (upd H1 l o) where
  keep := fun b u e n => by
    rw [upd_ne fun (z : b = l) => n ⟨i, hi, by rw [z]; exact ha⟩]
    exact k.keep b u e fun ⟨j, hj, z⟩ => n ⟨j, hs j hj, z⟩
  some := fun b e => by
    by_cases hb : b = l
    · rw [hb, upd_same]; intro z; cases z
    · rw [upd_ne hb]; exact k.some b e
  own := fun _ z => .inl z
  unch := fun _ _ => rfl
/-- the list of an own slot -/
theorem Sim.lst {ρ : Env} {σ : St} {H : Hp} (S : Sim K P0 O W ρ σ H) {i : Nat} {ds : List D} (hi : i ∈ O) (e : ρ[i]? = some (some (.lst ds))) : ∃ l vs, σ[i]? = some (some (.ref l)) ∧ H l = some (.lst vs) ∧ Reps K H ds (FA P0 O σ) vs := by
  obtain ⟨v, h1, l, vs, rfl, h2, h3⟩ := S.own i _ e hi
  exact ⟨l, vs, h1, h2, h3⟩
/-- .. is given other items -/
theorem Sim.lstW {ρ : Env} {σ : St} {H : Hp} (S : Sim K P0 O W ρ σ H) {i : Nat} {l : Addr} {ds' : List D} {vs' vs : List V} (hi : i ∈ O) (ha : σ[i]? = some (some (.ref l))) (hl : H l = some (.lst vs)) (r : Reps K H ds' (FA P0 O σ) vs') : Sim K P0 O W (ρ.set i (some (.lst ds'))) σ (upd H l (.lst vs')) :=
  S.ownW hi ha trivial ⟨l, vs', rfl, upd_same, r.mono ds' S.dom (fun b o e n => by rw [upd_ne fun z => n (.inr ⟨i, hi, by rw [z]; exact ha⟩)]; exact e) fun b z => .inl z⟩
def lstAt (i : Nat) (ρ : Env) : R (List D) := match ρ[i]? with
  | some (some (.lst ds)) => .ok ds
  | _ => .stk
theorem lstAt_ok {i : Nat} {ρ : Env} {ds : List D} (h : lstAt i ρ = .ok ds) : ρ[i]? = some (some (.lst ds)) := by
  unfold lstAt at h
  split at h
  · rename_i e; cases h; exact e
  · cases h
/-- x.append(e) -/
def sAppend (i : Nat) (m : EM) : SM := fun ρ => do
  let _ ← (lstAt i ρ).nox
  let (h, ρ1) ← m ρ
  let d ← h.v.nox
  let ds ← (lstAt i ρ1).nox
  if szOk (ds.length + 1) = true then pure (.nx, ρ1.set i (some (.lst (ds ++ [d])))) else .stk
theorem tM_append {i : Nat} (hi : i ∈ O) (D : Ends) (σ : St) (H : Hp) (h : tSt K P0 O W U E (sAppend i ma) D σ H) : tDrop (tBM K "list" rAppend (tVar i) (tCons (tM K P0 O W E ma) tNil)) D σ H := by
  obtain ⟨ρ, S, h⟩ := h
  obtain ⟨ds0, e0, h⟩ := h.of_nox
  obtain ⟨l, vs0, h1, h2, _⟩ := S.lst hi (lstAt_ok e0)
  refine ⟨.ref l, h1, .inl ⟨rfl, _, SqL.of h2⟩, ρ, S, (h.of_bind.down S.sub).mono fun ⟨hd, ρ1⟩ q v H1 S1 k1 r1 => ?_⟩
  obtain ⟨d, e1, q⟩ := q.of_nox
  obtain ⟨ds, e2, q⟩ := q.of_nox
  obtain ⟨l', vs, h1', h3, h4⟩ := S1.lst hi (lstAt_ok e2)
  rw [h1] at h1'
  cases h1'
  by_cases c : szOk (ds.length + 1) = true
  · rw [if_pos c] at q
    have c := of_decide_eq_true c
    refine ⟨l, vs, v, rfl, rfl, h3, by rw [h4.length]; omega, ?_⟩
    exact q σ _ (S1.lstW hi h1 h3 (h4.append (Reps.cons (r1.v e1) Reps.nil))) (Tr.ownW S.sub k1 hi h1) rfl
  · rw [if_neg c] at q
    exact q.elim
theorem cs_append {i : Nat} {x : Str} {p ap cp : Pos} (h : CEx X P0 O W E e ma) (hi : i ∈ O := by decide) (hx : X.N[i]? = some x := by rfl) (hv : Vis X.env.scope x := by first | exact Or.inl rfl | exact Or.inr (Or.inl rfl) | exact Or.inr (Or.inr rfl)) (hd : (x == ("__debug__" : Str)) = false := by decide) (hcd : (x == ("__classdict__" : Str)) = false := by decide)
    (he : starEach [e] X.env = (false, eval e X.env) :: starEach [] X.env := by rfl) (hpl : (backTo cp (starEach [] X.env)).any (·.1) = false := by rfl) (hbase : attributeBase (.Name x p) "append" X.env (eval (.Name x p) X.env) = eval (.Name x p) X.env := by rfl) (hline : (ap.endLine == cp.line) = true := by rfl)
    (hfew : Few X cp [e] := by rfl) (hsw : swapsWith (.Call (.Attribute (.Name x p) "append" ap) [e] [] cp) none pos.line X.env = pure false := by rfl) :
    CS X P0 O W U E (.Expr (.Call (.Attribute (.Name x p) "append" ap) [e] [] cp) pos) (sAppend i ma) :=
  PS.imp (ps_expr (pe_bm PySem.F.plainAttrs_list PySem.F.slot_list_append PySem.F.type_list_append mt_append (pe_var (i := i) hx hv hd hcd) (pa_cons h pa_nil he) hbase hfew hline he hpl) hsw) (tM_append hi)
end
end Y

set_option Elab.async false
set_option linter.all false
set_option maxRecDepth 100000
namespace Y
open PySem PySem.Spec PyProof.Rows L2
section
variable {K : PySem.W.Frag} {X : Cx} {P0 : Pr} {O W U : List Nat} {E : EK} {a b c e tg iter : Expr} {es : List Expr} {ma mb mc : EM} {ms : AM} {pos : Pos} {st : Stmt} {sts : List Stmt} {m n : SM}
def sSetIx (i : Nat) (mk mv : EM) : SM := fun ρ => do
  let (h, ρ1) ← mv ρ
  let d ← h.v.nox
  let _ ← (lstAt i ρ1).nox
  let (h2, ρ2) ← mk ρ1
  let k ← h2.v.nox
  match k with
  | .int z => do
    let ds ← (lstAt i ρ2).nox
    match ixN ds.length z with
    | some j => pure (.nx, ρ2.set i (some (.lst (ds.set j d))))
    | none => .stk
  | _ => .stk
theorem Reps.set {H : Hp} {P : Pr} {d : D} {v : V} (r : Rep K H d P v) : ∀ {ds : List D} {vs : List V} (j : Nat), Reps K H ds P vs → Reps K H (ds.set j d) P (vs.set j v)
  | [], _, j, h => by rw [h.nil_iff]; exact Reps.nil
  | x :: xs, _, 0, h => by
    obtain ⟨w, ws, rfl, h1, h2⟩ := h.cons_iff
    exact Reps.cons r h2
  | x :: xs, _, j + 1, h => by
    obtain ⟨w, ws, rfl, h1, h2⟩ := h.cons_iff
    exact Reps.cons h1 (Reps.set r j h2)
theorem cs_setix {i : Nat} {x : Str} {p sp : Pos} {k : Expr} {mk : EM} (h : CEx X P0 O W E e ma) (hk : CEx X P0 O W E k mk) (hi : i ∈ O := by decide) (hx : X.N[i]? = some x := by rfl) (hv : Vis X.env.scope x := by first | exact Or.inl rfl | exact Or.inr (Or.inl rfl) | exact Or.inr (Or.inr rfl)) (hd : (x == ("__debug__" : Str)) = false := by decide) (hcd : (x == ("__classdict__" : Str)) = false := by decide)
    (hs : swapsWithSole [.Subscript (.Name x p) k sp] e pos.line X.env = pure false := by rfl) (hw : swappedStores [.Subscript (.Name x p) k sp] e X.env = pure none := by rfl) (h1 : (assignEach [.Subscript (.Name x p) k sp] X.env).map (·.2) = [assign (.Subscript (.Name x p) k sp) X.env] := by rfl)
    (hb : ∀ v, assign (.Subscript (.Name x p) k sp) X.env v = (do
      let ov ← holding [v] (eval (.Name x p) X.env)
      let iv ← holding [v, ov] (eval k X.env)
      standAt sp
      holding [v, ov, iv] (setItem ov iv v)
      release [v, ov, iv] []) := by intro _; rfl) :
    CS X P0 O W U E (.Assign [.Subscript (.Name x p) k sp] e pos) (sSetIx i mk ma) := PS.imp (ps_asg h (pg_sub (pe_var (i := i) hx hv hd hcd) hk set_list hb) hs hw h1) fun D σ H ⟨ρ, S, h⟩ => by
  refine ⟨ρ, S, (h.of_bind.down S.sub).mono fun ⟨hd, ρ1⟩ q v H1 S1 k1 r1 => ?_⟩
  obtain ⟨d, e1, q1⟩ := q.of_nox
  obtain ⟨ds0, e0, q2⟩ := q1.of_nox
  obtain ⟨l, vs0, h1, h2, _⟩ := S1.lst hi (lstAt_ok e0)
  refine ⟨.ref l, h1, ρ1, S1, ((q2.of_bind.down S1.sub).keep k1).mono fun ⟨hd2, ρ2⟩ q3 w H2 S2 k2 r2 => ?_⟩
  obtain ⟨dk, e2, q4⟩ := q3.of_nox
  have rk := r2.v e2
  cases dk <;> first | (exact q4.elim) | skip
  rename_i z
  unfold Rep at rk
  subst rk
  obtain ⟨ds, e3, q5⟩ := Res.of_nox (show Res E O σ H ((lstAt i ρ2).nox >>= _) _ from q4)
  obtain ⟨l', vs, h1', h3, h4⟩ := S2.lst hi (lstAt_ok e3)
  rw [h1] at h1'
  cases h1'
  cases ej : ixN ds.length z with
  | none => rw [ej] at q5; exact q5.elim
  | some j =>
    rw [ej] at q5
    refine ⟨l, vs, z, j, rfl, rfl, h3, by rw [h4.length]; exact ej, ?_⟩
    exact q5 σ _ (S2.lstW hi h1 h3 (Reps.set (S1.rep k2 (r1.v e1)) j h4)) (Tr.ownW S.sub (k1.trans k2) hi h1) rfl
noncomputable def forL (tm : GM) (body : SM) (vs ws : List Nat) : List D → Env → R (Fl × Env)
  | [], ρ => .ok (.nx, ρ)
  | x :: xs, ρ => do
    let ρ1 ← (tm x ρ).nox
    let (f, ρ2) ← body ρ1
    match f with
    | .bk => pure (.nx, ρ2)
    | .rt h => pure (.rt h, ρ2)
    | _ => do
      let _ ← (chk ws ρ (wipeE ρ2 vs)).nox
      forL tm body vs ws xs (wipeE ρ2 vs)
noncomputable def sFor (U : List Nat) (im : IM) (tm : GM) (body : SM) (vs : List Nat) : SM := fun ρ => do
  let ((ds, ws), ρ1) ← im ρ
  if (ws.all fun w => U.contains w) = true then forL tm body vs ws ds ρ1 else .stk
theorem for_core {im : IM} {tm : GM} {is vs U' : List Nat} (ho : ∀ i ∈ is, i ∉ O) (hu : ∀ i ∈ U', i ∈ O) (hu' : ∀ i ∈ U, i ∈ U') (D : Ends) (σ : L2.St) (H : Hp) (h : tSt X.K P0 O W U E (sFor U' im tm m vs) D σ H) : tFor (tMi X.K P0 O W E im) (tG X.K P0 O W tm is) (tSt X.K P0 O W U' E m) D σ H := by
  obtain ⟨ρ, S, h⟩ := h
  refine ⟨ρ, S, (h.of_bind.down S.sub).mono fun ⟨⟨ds, ws⟩, ρ1⟩ q J H1 Ok S1 k1 src ok hz => ?_⟩
  have src : Src X.K O W ds ws J Ok := src
  have q : Res E O σ H (if (ws.all fun w => U'.contains w) = true then forL tm m vs ws ds ρ1 else .stk) _ := q
  by_cases hw : (ws.all fun w => U'.contains w) = true
  · rw [if_pos hw] at q
    have hw : ∀ w ∈ ws, w ∈ U' := fun w hw' => by simpa using List.all_eq_true.mp hw w hw'
    have t1 : Tr O U σ H σ H1 := Tr.of S.sub k1
    let Post : Fl × Env → Prop := fun a => ∀ σ' H', Sim X.K P0 O W a.2 σ' H' → Tr O U σ H σ' H' → σ'.length = σ.length → Fin X.K P0 O H D σ' H' a.1
    let I : Nat → L2.St → Hp → Prop := fun i σx Hx => i ≤ ds.length ∧ ∃ ρx, Sim X.K P0 O W ρx σx Hx ∧ Ok P0 ρx σx Hx ∧ Tr O U σ H σx Hx ∧ σx.length = σ.length ∧ Res E O σx Hx (forL tm m vs ws (ds.drop i) ρx) Post
    refine ⟨fun i k σx Hx => k = ds.length - i ∧ I i σx Hx, ⟨ds.length, by simp, Nat.zero_le _, ρ1, S1, ok, t1, rfl, Res.keepT (show Res E O σ H (forL tm m vs ws ds ρ1) Post from q) t1⟩, ?_⟩
    rintro i k σx Hx ⟨rfl, hil, ρx, Sx, okx, tx, lx, qx⟩
    by_cases hlt : i < ds.length
    · right
      refine ⟨src.go P0 i ρx σx Hx Sx okx hlt, I (i + 1), fun σ' H' p' => ⟨ds.length - (i + 1), by omega, rfl, p'⟩, fun x' H' y => ?_⟩
      obtain ⟨sm, rx⟩ := src.yld P0 i ρx σx Hx x' H' ds[i] Sx okx (List.getElem?_eq_getElem hlt) y
      rw [List.drop_eq_getElem_cons hlt] at qx
      unfold forL at qx
      obtain ⟨ρa, e1, qx⟩ := qx.of_nox
      refine ⟨ρx, ds[i], ρa, Sx.same sm, rx, e1, fun σ2 S2 l2 ag => ?_⟩
      have t2 : Tr O U' σx Hx σ2 H' := Tr.trans (σ1 := σx) (H1 := H') ⟨fun b o e _ => sm b o e, Same.some sm, fun _ z => .inl z, fun _ _ => rfl⟩ (Tr.slots ho hu ag)
      refine ⟨ρa, S2, (Res.keepT qx.of_bind t2).mono fun ⟨f, ρ2⟩ q3 σ3 H3 S3 t3 l3 => ?_⟩
      have t4 : Tr O U' σx Hx σ3 H3 := t2.trans t3
      have t5 : Tr O U σ H σ3 H3 := tx.trans (t4.less hu')
      have l5 : σ3.length = σ.length := l3.trans (l2.trans lx)
      have next : Res E O σx Hx (do let _ ← (chk ws ρx (wipeE ρ2 vs)).nox; forL tm m vs ws (ds.drop (i + 1)) (wipeE ρ2 vs)) Post → I (i + 1) σ3 H3 := fun q4 => by
        obtain ⟨_, e4, q5⟩ := Res.of_nox (show Res E O σx Hx ((chk ws ρx (wipeE ρ2 vs)).nox >>= fun _ => forL tm m vs ws (ds.drop (i + 1)) (wipeE ρ2 vs)) Post from q4)
        refine ⟨hlt, wipeE ρ2 vs, S3.wipe vs, ?_, t5, l5, Res.keepT q5 t4⟩
        refine src.keep P0 ρx σx Hx _ σ3 H3 Sx (fun b o e n => t4.keep b o e fun z => n (.inr z)) (fun b z => ?_) (fun w hw' => ⟨t4.unch w (hw w hw'), chk_ok e4 w hw'⟩) okx
        rcases z with z | z
        · exact .inl (.inl z)
        · exact (t4.own b z).imp .inr id
      cases f with
      | nx => exact next q3
      | ct => exact next q3
      | bk => exact q3 σ3 H3 S3 t5 l5
      | rt hd =>
        intro v r
        exact q3 σ3 H3 S3 t5 l5 v (r.back fun b e => Same.some sm b (tx.some b e))
    · left
      have ei : i = ds.length := by omega
      subst ei
      rw [List.drop_length] at qx
      exact ⟨src.stop P0 ρx σx Hx Sx okx, qx σx Hx Sx tx lx⟩
  · rw [if_neg hw] at q
    exact q.elim
theorem cs_for {im : IM} {tm : GM} {is vs U' : List Nat} {xs : List Stmt} (hp : PassesOwn (model X.prog X.w) X.A X.env X.xe) (hc : X.calm = true) (hi : CI X P0 O W E tg iter im) (hg : CG X P0 O W tg tm is) (hb : CSs X P0 O W U' E xs m) (ho : ∀ i ∈ is, i ∉ O := by decide) (hu : ∀ i ∈ U', i ∈ O := by decide) (hu' : ∀ i ∈ U, i ∈ U' := by decide)
    (hs : ∀ x, foldedSetIterable iter X.env x = pure x := by intro _; rfl) : CS X P0 O W U E (.For tg iter xs [] pos) (sFor U' im tm m vs) := PS.imp (ps_for hp hc hi hg hb hs) (for_core ho hu hu')
end
end Y

set_option Elab.async false
set_option linter.all false
set_option maxRecDepth 100000
namespace Y
open PySem PySem.Spec PyProof.Rows L2

theorem passN {X : Cx} : Passes (L2N.CX X.prog X.w) X E0 := fun _ _ _ _ _ _ _ q => by
  rcases q with ⟨_, _, _, _, _, _, _, _, _, _, _, _, f⟩
  exact False.elim f
theorem okN {P : Program} {w : World} {K : PySem.W.Frag} {mg : Str → Option Value} {base : Heap} {x qual : Str} {st : Stmt} {f : Addr} {fd : FuncData} {N ps : List Str} {k : Nat} {sp : Sp} (F : Fun K x qual st f fd) (S : FnScope N ps (defScope st)) (hlen : ∀ vs H Q E, sp vs H Q E → vs.length = ps.length)
    (hb : ∀ (cdv : Value) (A : Around) (outer : List PySem.Env) (s : Shared) (H : Hp) (vs : List V) (Q : VK) (E : XK), Room k (A.deeper (envOfC qual (defScope st) s.heap.objs.size f cdv)) → sp vs H Q E →
      ∃ t, PSs (cxOf (L2N.CX P w) P w K mg base N qual (defScope st) f cdv A outer s H E) (defBody st) t ∧ t { nx := fun _ H' => Q .non H', rt := Q } (L2.start N vs) H) : FnOk P w K mg base (L2N.CX P w) (k + 1) f fd ps sp := by
  rcases F.ex with ⟨_, _, _, _, _, _, cd, _, _, rfl, look, code⟩
  exact fn_of look code S hlen fun A outer s H vs Q E => hb cd A outer s H vs Q E

/-- an exception of the program's own, made with a text -/
def exE (mg : Str → Option Value) (E : XK) : EK := fun c ds H => ds = [] ∧ ∃ C, mg c = some (.ref C) ∧ E (.ref C) none H
abbrev Fn := List D → R (Hd × Env)
/-- O: the parameters whose lists it may change -/
def spD (K : PySem.W.Frag) (mg : Str → Option Value) (np : Nat) (O : List Nat) (g : Fn) : Sp := fun vs H Q E => vs.length = np ∧ ∃ ds P0, Sim K P0 O [] (ds.map some) (vs.map some) H ∧ ds.length = np ∧
  Res (exE mg E) O (vs.map some) H (g ds) fun a => ∀ v H', Keep O (vs.map some) H H' → Sim K P0 O [] a.2 (vs.map some) H' → HdR K P0 O H (vs.map some) H' a.1 v → Q v H'
structure Glo (P : Program) (w : World) (K : PySem.W.Frag) (mg : Str → Option Value) (base : Heap) (name : Str) (k np : Nat) (O : List Nat) (g : Fn) : Prop where
  ex : ∃ f fd ps, mg name = some (.ref f) ∧ PySem.W.keepIn K (.ref f) = true ∧ Binds K fd ps [] ∧ ps.length = np ∧ FnOk P w K mg base (L2N.CX P w) k f fd ps (spD K mg np O g)
/-- exceptions of callees reach what is wanted here -/
structure Out2 (X : Cx) (E : EK) (XE : XK) : Prop where
  pass : Passes (L2N.CX X.prog X.w) X XE
  ex : ∀ c ds H, E c ds H → exE X.mg XE c ds H
theorem Out2.blk {X : Cx} : Out2 X E00 E0 := ⟨passN, fun _ _ _ h => h.elim⟩
def pureF (g : List D → R Hd) : Fn := fun ds => do
  let h ← g ds
  pure (h, [])
section
variable {K : PySem.W.Frag} {P0 : Pr} {O W : List Nat} {ρ : Env} {σ : St} {H H' : Hp}
theorem FA_nil {τ : St} (b : Addr) : FA P0 [] τ b ↔ P0 b := ⟨fun z => z.elim id (fun ⟨_, h, _⟩ => (nomatch h)), .inl⟩
theorem Keep.nil {τ : St} (k : Keep [] τ H H') : Same H H' := fun b o e => k.keep b o e fun ⟨_, h, _⟩ => nomatch h
/-- the callee's state where no parameter is its own -/
theorem sim_args {ds : List D} {vs : List V} (hm : ∀ b, P0 b → isMut (H b)) (r : Reps K H ds P0 vs) : Sim K P0 [] [] (ds.map some) (vs.map some) H where
  sub := fun _ h => nomatch h
  len := by rw [List.length_map, List.length_map, r.length]; exact Nat.le_refl _
  dom := fun b z => hm b ((FA_nil b).mp z)
  val := fun i d e _ => by
    rw [List.getElem?_map] at e
    cases q : ds[i]? with
    | none => rw [q] at e; cases e
    | some d' =>
      rw [q] at e; cases e
      obtain ⟨v, e1, r1⟩ := r.get q
      exact ⟨v, by rw [List.getElem?_map, e1]; rfl, r1.less hm fun b z => (FA_nil b).mp z⟩
  own := fun i d e h => nomatch h
  sep := fun _ _ _ h => nomatch h
  sep0 := fun a ⟨_, h, _⟩ => nomatch h
end
section
variable {X : Cx} {P0 : Pr} {O W U : List Nat} {E : EK} {XE : XK} {a b c e : Expr} {es : List Expr} {ma mb mc : EM} {ms : AM} {pos : Pos} {k np : Nat} {name : Str}
/-- f(..), no argument's list is changed -/
def cCallF (g : List D → R Hd) (m : AM) : EM := fun ρ => do
  let (hs, ρ1) ← m ρ
  let ds ← (vsOf hs).nox
  let h ← g ds
  match h with
  | .ow _ => .stk
  | h => pure (h, ρ1)
theorem tM_callF {g : List D → R Hd} (hE : ∀ c ds H, E c ds H → exE X.mg XE c ds H) (σ : St) (H : Hp) (Q : VK) (len : ∀ σ H Q, tMs X.K P0 O W E ms σ H Q → True) (h : tM X.K P0 O W E (cCallF g ms) σ H Q) (hl : ∀ ρ hs ρ1, ms ρ = .ok (hs, ρ1) → hs.length = np) :
    tCall (spD X.K X.mg np [] (pureF g)) [] XE (tMs X.K P0 O W E ms) σ H Q := by
  obtain ⟨ρ, S, h⟩ := h
  refine ⟨ρ, S, ?_⟩
  cases em : ms ρ with
  | stk => unfold cCallF at h; rw [em] at h; exact h.elim
  | er c ds => unfold cCallF at h; rw [em] at h; exact h
  | ok p =>
    obtain ⟨hs, ρ1⟩ := p
    unfold cCallF at h
    rw [em] at h
    intro vs H1 S1 k1 r1
    obtain ⟨ds, e1, q⟩ := Res.of_nox (show Res E W σ H ((vsOf hs).nox >>= _) _ from h)
    have rr := HdRs.vs r1 e1
    have lv : vs.length = np := by
      have : ∀ {hs : List Hd} {vs : List V}, HdRs X.K P0 O H σ H1 hs vs → vs.length = hs.length := fun {hs} => by
        induction hs with
        | nil => intro vs r; have r : vs = [] := r; rw [r]; rfl
        | cons h hs ih => intro vs ⟨v, ws, e, _, r2⟩; rw [e, List.length_cons, List.length_cons, ih r2]
      rw [this r1]
      exact hl ρ hs ρ1 em
    rw [List.append_nil]
    refine ⟨lv, ds, FA P0 O σ, sim_args S1.dom rr, by rw [← rr.length]; exact lv, ?_⟩
    have q := q.keep k1
    unfold pureF
    cases eg : g ds with
    | stk => rw [eg] at q; exact q.elim
    | er c xs =>
      rw [eg] at q
      exact fun H' kp => hE c xs H' (q H' (Keep.same kp.nil))
    | ok hd =>
      rw [eg] at q
      intro v H2 k2 _ r2
      have sm := Keep.nil k2
      cases hd with
      | ow j => exact q.elim
      | fr d => exact q v H2 (S1.same sm) (k1.trans (Keep.same sm)) ⟨r2.1.less (fun b z => (S1.same sm).dom b ((FA_nil b).mp z)) fun b z => .inl z, fun m a e => Classical.byContradiction fun z => k1.some a z (r2.2 m a e)⟩
      | vl d => exact q v H2 (S1.same sm) (k1.trans (Keep.same sm)) (Rep.less (fun b z => (S1.same sm).dom b ((FA_nil b).mp z)) r2 fun b z => .inl z)
/-- the number of arguments -/
def ALen (m : AM) (n : Nat) : Prop := ∀ ρ hs ρ1, m ρ = .ok (hs, ρ1) → hs.length = n
theorem alen_nil : ALen cNil 0 := fun ρ hs ρ1 h => by cases h; rfl
theorem alen_cons {n : Nat} (h : ALen ms n) : ALen (cCons ma ms) (n + 1) := fun ρ hs ρ1 e => by
  obtain ⟨⟨h1, ρa⟩, e1, e⟩ := R.ok_of e
  obtain ⟨⟨h2, ρb⟩, e2, e⟩ := R.ok_of e
  cases e
  rw [List.length_cons, h _ _ _ e2]
theorem ce_call {g : List D → R Hd} {p : Pos} (G : Glo X.prog X.w X.K X.mg X.base name k np [] (pureF g)) (o : Out2 X E XE) (hr : Room k X.A) (ha : CA X P0 O W E (e :: es) ms) (hl : ALen ms np) (hg : Gl X name := by rfl) (hdb : (name == ("__debug__" : Str)) = false := by decide)
    (he : starEach (e :: es) X.env = (false, eval e X.env) :: starEach es X.env := by rfl) (hpl : (backTo pos (starEach es X.env)).any (·.1) = false := by rfl) : CEx X P0 O W E (.Call (.Name name p) (e :: es) [] pos) (cCallF g ms) := by
  obtain ⟨f, fd, ps, hm, hk, hb, _, F⟩ := G.ex
  exact PE.imp (pe_call F hr hg hm hk hb .nil o.pass ha hdb he hpl) fun σ H Q h => tM_callF o.ex σ H Q (fun _ _ _ _ => trivial) h hl
end
end Y

set_option Elab.async false
set_option linter.all false
set_option maxRecDepth 100000
namespace Y
open PySem PySem.Spec PyProof.Rows L2

def retH (np : Nat) : Fl → Env → R Hd
  | .nx, _ => .ok (.fr .non)
  | .rt (.ow i), ρ => if np ≤ i then (do
      let d ← (look i ρ).nox
      pure (.fr d)) else .stk
  | .rt h, _ => .ok h
  | _, _ => .stk
def outs (O : List Nat) (np : Nat) (ρ : Env) : Env := (List.range np).map fun i => if O.contains i = true then ρ.getD i none else none
def fnD (np n : Nat) (O : List Nat) (m : SM) : Fn := fun ds => do
  let (f, ρ) ← m (ds.map some ++ List.replicate (n - np) none)
  let h ← (retH np f ρ).nox
  pure (h, outs O np ρ)
section
variable {K : PySem.W.Frag} {mg : Str → Option Value} {P0 : Pr} {O Oc W U : List Nat} {ρ : Env} {σ : St} {H H' : Hp} {d : D} {v : V} {np n : Nat}
theorem RepO.less {P P' : Pr} (hm : ∀ b, P b → isMut (H b)) (h : RepO K H d P v) (hp : ∀ b, P' b → P b) : RepO K H d P' v := h.mono hm (fun _ _ e _ => e) (fun b z => .inl (hp b z)) fun _ _ _ e => e
/-- an own slot's object, told on -/
theorem RepO.rep {P P' : Pr} (hm : ∀ b, P b → isMut (H b)) (h : RepO K H d P v) (hp : ∀ b, P' b → P b) (ha : ∀ a, v = .ref a → ¬ P' a ∧ P a) : Rep K H d P' v := by
  cases d with
  | lst ds =>
    obtain ⟨a, vs, rfl, h1, h2⟩ := h
    unfold Rep
    exact ⟨a, vs, rfl, (ha a rfl).1, h1, h2.less hm fun b z => z.elim (hp b) fun z => by rw [z]; exact (ha a rfl).2⟩
  | dik ks ds =>
    obtain ⟨a, vs, rfl, hl, h1, h2⟩ := h
    unfold Rep
    exact ⟨a, vs, rfl, (ha a rfl).1, hl, .inl h1, h2.less hm fun b z => z.elim (hp b) fun z => by rw [z]; exact (ha a rfl).2⟩
  | dit ks ds =>
    obtain ⟨a, vs, rfl, hl, h1, h2⟩ := h
    unfold Rep
    exact ⟨a, vs, rfl, (ha a rfl).1, hl, .inl h1, h2.less hm fun b z => z.elim (hp b) fun z => by rw [z]; exact (ha a rfl).2⟩
  | non => unfold Rep; exact h
  | bl _ => unfold Rep; exact h
  | int _ => unfold Rep; exact h
  | str _ => unfold Rep; exact h
  | tup _ => exact False.elim h
  | arg _ => exact False.elim h
  | ftu _ => exact False.elim h
theorem start_get {N : List Str} {vs : List V} {i : Nat} {v : V} (h : (L2.start N vs)[i]? = some (some v)) : vs[i]? = some v := by
  unfold L2.start at h
  by_cases hi : i < vs.length
  · rw [List.getElem?_append_left (by simpa using hi), List.getElem?_map] at h
    cases e : vs[i]? with
    | none => rw [e] at h; cases h
    | some a => rw [e] at h; cases h; rfl
  · rw [List.getElem?_append_right (by simpa using hi), List.getElem?_replicate] at h
    split at h <;> cases h
theorem start_of {N : List Str} {vs : List V} {i : Nat} {v : V} (h : vs[i]? = some v) : (L2.start N vs)[i]? = some (some v) := by
  unfold L2.start
  have hi : i < vs.length := (List.getElem?_eq_some_iff.mp h).1
  rw [List.getElem?_append_left (by simpa using hi), List.getElem?_map, h]
  rfl
theorem env_get {ds : List D} {k i : Nat} {d : D} (h : (ds.map some ++ List.replicate k none)[i]? = some (some d)) : ds[i]? = some d := by
  by_cases hi : i < ds.length
  · rw [List.getElem?_append_left (by simpa using hi), List.getElem?_map] at h
    cases e : ds[i]? with
    | none => rw [e] at h; cases h
    | some a => rw [e] at h; cases h; rfl
  · rw [List.getElem?_append_right (by simpa using hi), List.getElem?_replicate] at h
    split at h <;> cases h
theorem map_get {α : Type} {ds : List α} {i : Nat} {d : α} : (ds.map some)[i]? = some (some d) ↔ ds[i]? = some d := by
  rw [List.getElem?_map]
  cases ds[i]? <;> simp
theorem OA_start {N : List Str} {vs : List V} (hO : ∀ i, i ∈ O ↔ i ∈ Oc ∧ i < np) (hl : vs.length = np) (b : Addr) : OA Oc (L2.start N vs) b ↔ OA O (vs.map some) b := by
  constructor
  · rintro ⟨i, hi, e⟩
    have e := start_get e
    exact ⟨i, (hO i).mpr ⟨hi, by rw [← hl]; exact (List.getElem?_eq_some_iff.mp e).1⟩, map_get.mpr e⟩
  · rintro ⟨i, hi, e⟩
    exact ⟨i, ((hO i).mp hi).1, start_of (map_get.mp e)⟩
theorem sim_start {N : List Str} {ds : List D} {vs : List V} (S : Sim K P0 O [] (ds.map some) (vs.map some) H) (hO : ∀ i, i ∈ O ↔ i ∈ Oc ∧ i < np) (hW : ∀ i ∈ W, i ∈ Oc) (hl : vs.length = np) (hd : ds.length = np) (hn : N.length = n) : Sim K P0 Oc W (ds.map some ++ List.replicate (n - np) none) (L2.start N vs) H := by
  have fa : ∀ b, FA P0 Oc (L2.start N vs) b → FA P0 O (vs.map some) b := fun b z => z.imp id (OA_start hO hl b).mp
  refine ⟨hW, by unfold L2.start; simp; omega, fun b z => S.dom b (fa b z), fun i d e n => ?_, fun i d e n => ?_, fun i j a hi hj e1 e2 => ?_, fun a z => S.sep0 a ((OA_start hO hl a).mp z)⟩
  · obtain ⟨v, h1, h2⟩ := S.val i d (map_get.mpr (env_get e)) fun z => n ((hO i).mp z).1
    exact ⟨v, start_of (map_get.mp h1), h2.less S.dom fa⟩
  · have e := env_get e
    have hi : i < np := by rw [← hd]; exact (List.getElem?_eq_some_iff.mp e).1
    obtain ⟨v, h1, h2⟩ := S.own i d (map_get.mpr e) ((hO i).mpr ⟨n, hi⟩)
    exact ⟨v, start_of (map_get.mp h1), h2.less S.dom fa⟩
  · have e1 := start_get e1
    have e2 := start_get e2
    have l1 : i < np := by rw [← hl]; exact (List.getElem?_eq_some_iff.mp e1).1
    have l2 : j < np := by rw [← hl]; exact (List.getElem?_eq_some_iff.mp e2).1
    exact S.sep i j a ((hO i).mpr ⟨hi, l1⟩) ((hO j).mpr ⟨hj, l2⟩) (map_get.mpr e1) (map_get.mpr e2)
theorem outs_get {i : Nat} (h : (outs O np ρ)[i]? = some (some d)) : i ∈ O ∧ i < np ∧ ρ[i]? = some (some d) := by
  unfold outs at h
  rw [List.getElem?_map] at h
  cases e : (List.range np)[i]? with
  | none => rw [e] at h; cases h
  | some j =>
    rw [e] at h
    have hi := (List.getElem?_eq_some_iff.mp e).1
    have hj : j = i := by
      obtain ⟨h1, h2⟩ := List.getElem?_eq_some_iff.mp e
      simpa using h2.symm
    subst hj
    simp only [Option.map_some, Option.some.injEq] at h
    split at h
    · rename_i c
      refine ⟨by simpa using c, by simpa using hi, ?_⟩
      rw [List.getD_eq_getElem?_getD] at h
      cases q : ρ[j]? with
      | none => rw [q] at h; cases h
      | some o => rw [q] at h; simp at h; rw [h]
    · cases h
/-- THE RULE for a def -/
theorem fnD_ok {P : Program} {w : World} {base : Heap} {x qual : Str} {st : Stmt} {f : Addr} {fd : FuncData} {N ps : List Str} {k : Nat} {m : SM} (F : Fun K x qual st f fd) (S : FnScope N ps (defScope st)) (hp : ps.length = np) (hn : N.length = n) (hO : ∀ i, i ∈ O ↔ i ∈ Oc ∧ i < np) (hW : ∀ i ∈ W, i ∈ Oc) (hU : ∀ i ∈ O, i ∈ U)
    (hb : ∀ (cdv : Value) (A : Around) (outer : List PySem.Env) (s : Shared) (H : Hp) (E : XK) (P0 : Pr), Room k (A.deeper (envOfC qual (defScope st) s.heap.objs.size f cdv)) → CSs (cxOf (L2N.CX P w) P w K mg base N qual (defScope st) f cdv A outer s H E) P0 Oc W U (exE mg E) (defBody st) m) :
    FnOk P w K mg base (L2N.CX P w) (k + 1) f fd ps (spD K mg np O (fnD np n O m)) := by
  refine okN F S (fun vs H Q E h => by rw [h.1, hp]) fun cdv A outer s H vs Q E hr h => ?_
  obtain ⟨hl, ds, P0, S0, hd, h⟩ := h
  refine ⟨_, hb cdv A outer s H E P0 hr, _, sim_start S0 hO hW hl hd hn, ?_⟩
  have oa := fun b => OA_start (N := N) hO hl b
  have kO : ∀ {H'}, Keep Oc (L2.start N vs) H H' → Keep O (vs.map some) H H' := fun {H'} k => ⟨fun b o e nn => k.keep b o e fun z => nn ((oa b).mp z), k.some⟩
  unfold fnD at h
  cases em : m (ds.map some ++ List.replicate (n - np) none) with
  | stk => rw [em] at h; exact h.elim
  | er c xs => rw [em] at h; exact fun H' kp => h H' (kO kp)
  | ok p =>
    obtain ⟨fl, ρ1⟩ := p
    rw [em] at h
    obtain ⟨hh, e1, h⟩ := Res.of_nox (show Res (exE mg E) O (vs.map some) H ((retH np fl ρ1).nox >>= _) _ from h)
    intro σ' H' S' t' l'
    have h : ∀ v H', Keep O (vs.map some) H H' → Sim K P0 O [] (outs O np ρ1) (vs.map some) H' → HdR K P0 O H (vs.map some) H' hh v → Q v H' := h
    have un : ∀ i ∈ O, σ'[i]? = (L2.start N vs)[i]? := fun i hi => t'.unch i (hU i hi)
    have pre : ∀ {i : Nat} {v : V}, i ∈ O → (σ'[i]? = some (some v) ↔ (vs.map some)[i]? = some (some v)) := fun {i v} hi => by
      rw [un i hi]
      exact ⟨fun e => map_get.mpr (start_get e), fun e => start_of (map_get.mp e)⟩
    have oO : ∀ b, OA O (vs.map some) b → OA Oc σ' b := fun b ⟨i, hi, e⟩ => ⟨i, ((hO i).mp hi).1, (pre hi).mpr e⟩
    have fa : ∀ b, FA P0 O (vs.map some) b → FA P0 Oc σ' b := fun b z => z.imp id (oO b)
    have kk : Keep O (vs.map some) H H' := ⟨fun b o e nn => t'.keep b o e fun z => nn ((oa b).mp z), t'.some⟩
    have so : Sim K P0 O [] (outs O np ρ1) (vs.map some) H' := by
      refine ⟨fun _ z => (nomatch z), by unfold outs; simp [hl], fun b z => S'.dom b (fa b z), fun i d e nn => absurd (outs_get e).1 nn, fun i d e hi => ?_, S0.sep, S0.sep0⟩
      obtain ⟨_, _, e2⟩ := outs_get e
      obtain ⟨v, h1, h2⟩ := S'.own i d e2 ((hO i).mp hi).1
      exact ⟨v, (pre hi).mp h1, h2.less S'.dom fa⟩
    cases fl with
    | bk => cases e1
    | ct => cases e1
    | nx => cases e1; exact h .non H' kk so ⟨by unfold Rep; rfl, fun z => by cases z⟩
    | rt hd' =>
      intro v r
      cases hd' with
      | fr d => cases e1; exact h v H' kk so ⟨r.1.less S'.dom fa, r.2⟩
      | vl d => cases e1; exact h v H' kk so (Rep.less S'.dom r fa)
      | ow i =>
        have e1 : (if np ≤ i then (do
          let d ← (look i ρ1).nox
          pure (Hd.fr d)) else .stk) = R.ok hh := e1
        by_cases hi : np ≤ i
        · rw [if_pos hi] at e1
          obtain ⟨d, e2, e1⟩ := R.ok_of e1
          cases e1
          have e2 := look_some (R.nox_of e2)
          obtain ⟨v', h1, h2⟩ := S'.own i d e2 r.1
          have q : σ'[i]? = some (some v) := r.2
          rw [q] at h1
          cases h1
          have no : ∀ a, v = .ref a → ¬ OA O (vs.map some) a := fun a e z => by
            obtain ⟨j, hj, ej⟩ := z
            have := S'.sep i j a r.1 ((hO j).mp hj).1 (by rw [q, e]) ((pre hj).mpr ej)
            have := ((hO j).mp hj).2
            omega
          refine h v H' kk so ⟨h2.rep S'.dom fa fun a e => ⟨fun z => ?_, .inr ⟨i, r.1, by rw [q, e]⟩⟩, fun _ a e => ?_⟩
          · rcases z with z | z
            · exact S'.sep0 a ⟨i, r.1, by rw [q, e]⟩ z
            · exact no a e z
          · rcases t'.own a ⟨i, r.1, by rw [q, e]⟩ with z | z
            · exact absurd ((oa a).mp z) (no a e)
            · exact z
        · rw [if_neg hi] at e1
          cases e1
end
end Y

set_option Elab.async false
set_option linter.all false
set_option maxRecDepth 100000
namespace Y
open PySem PySem.Spec PyProof.Rows L2

def placed (pr : List (Nat × Nat)) : Nat → List Hd → Bool
  | _, [] => true
  | j, .ow i :: hs => pr.contains (j, i) && placed pr (j + 1) hs
  | j, _ :: hs => (!pr.any fun p => p.1 == j) && placed pr (j + 1) hs
def putOuts (os : Env) : List (Nat × Nat) → Env → Env
  | [], ρ => ρ
  | (j, i) :: pr, ρ => (putOuts os pr ρ).set i (os.getD j none)
def cCallIO (pr : List (Nat × Nat)) (g : Fn) (m : AM) : EM := fun ρ => do
  let (hs, ρ1) ← m ρ
  if placed pr 0 hs = true then do
    let ds ← (dsOf hs ρ1).nox
    let (h, os) ← g ds
    match h with
    | .ow _ => .stk
    | h => pure (h, putOuts os pr ρ1)
  else .stk
section
variable {K : PySem.W.Frag} {P0 : Pr} {O Oc W : List Nat} {ρ : Env} {σ : St} {Hs H H' : Hp} {pr : List (Nat × Nat)} {os : Env}
theorem putOuts_len : ∀ pr : List (Nat × Nat), (putOuts os pr ρ).length = ρ.length
  | [] => rfl
  | (j, i) :: pr => by unfold putOuts; rw [List.length_set, putOuts_len pr]
theorem putOuts_ne {x : Nat} : ∀ {pr : List (Nat × Nat)}, x ∉ pr.map (·.2) → (putOuts os pr ρ)[x]? = ρ[x]?
  | [], _ => rfl
  | (j, i) :: pr, h => by
    simp only [List.map_cons, List.mem_cons, not_or] at h
    unfold putOuts
    rw [List.getElem?_set_ne fun z => h.1 z.symm, putOuts_ne h.2]
theorem putOuts_at {j i : Nat} {d : D} : ∀ {pr : List (Nat × Nat)}, (pr.map (·.2)).Nodup → (j, i) ∈ pr → (putOuts os pr ρ)[i]? = some (some d) → os[j]? = some (some d)
  | [], _, h, _ => nomatch h
  | (j', i') :: pr, nd, h, e => by
    simp only [List.map_cons, List.nodup_cons] at nd
    unfold putOuts at e
    rcases List.mem_cons.mp h with z | z
    · cases z
      have hl : i < (putOuts os pr ρ).length := by
        have := (List.getElem?_eq_some_iff.mp e).1
        simpa using this
      rw [List.getElem?_set_self hl, List.getD_eq_getElem?_getD] at e
      cases q : os[j]? with
      | none => rw [q] at e; cases e
      | some o => rw [q] at e; simp at e; rw [e]
    · have hi : i' ≠ i := fun y => nd.1 (by rw [y]; exact List.mem_map.mpr ⟨_, z, rfl⟩)
      rw [List.getElem?_set_ne hi] at e
      exact putOuts_at nd.2 z e
theorem HdRs.at : ∀ {hs : List Hd} {vs : List V} {j : Nat} {v : V}, HdRs K P0 O Hs σ H hs vs → vs[j]? = some v → ∃ h, hs[j]? = some h ∧ HdR K P0 O Hs σ H h v
  | [], _, _, _, r, e => by have r : _ = [] := r; rw [r] at e; simp at e
  | h :: hs, _, 0, v, ⟨w, ws, e0, r1, _⟩, e => by subst e0; simp at e; subst e; exact ⟨h, rfl, r1⟩
  | h :: hs, _, j + 1, v, ⟨w, ws, e0, _, r2⟩, e => by subst e0; simpa using HdRs.at r2 (by simpa using e)
theorem HdRs.len : ∀ {hs : List Hd} {vs : List V}, HdRs K P0 O Hs σ H hs vs → vs.length = hs.length
  | [], _, r => by have r : _ = [] := r; rw [r]; rfl
  | h :: hs, _, ⟨w, ws, e0, _, r2⟩ => by subst e0; rw [List.length_cons, List.length_cons, HdRs.len r2]
theorem dsOf_at : ∀ {hs : List Hd} {ds : List D}, dsOf hs ρ = .ok ds → ds.length = hs.length ∧ ∀ (j : Nat) h d, hs[j]? = some h → ds[j]? = some d → h.d ρ = .ok d
  | [], _, e => by cases e; exact ⟨rfl, fun j h d e => by simp at e⟩
  | h :: hs, _, e => by
    obtain ⟨d, e1, e⟩ := R.ok_of e
    obtain ⟨ds, e2, e⟩ := R.ok_of e
    cases e
    obtain ⟨l, g⟩ := dsOf_at e2
    refine ⟨by rw [List.length_cons, List.length_cons, l], fun j h' d' a b => ?_⟩
    cases j with
    | zero => simp at a b; subst a b; exact R.nox_of e1
    | succ j => exact g j h' d' (by simpa using a) (by simpa using b)
theorem placed_at : ∀ {hs : List Hd} {k : Nat}, placed pr k hs = true → ∀ (j : Nat) h, hs[j]? = some h → (∃ i, h = .ow i ∧ (k + j, i) ∈ pr) ∨ ((∀ i, h ≠ .ow i) ∧ (k + j) ∉ pr.map (·.1))
  | [], _, _, j, h, e => by simp at e
  | h0 :: hs, k, p, j, h, e => by
    cases j with
    | zero =>
      simp at e; subst e
      cases h0 with
      | ow i =>
        unfold placed at p
        rw [Bool.and_eq_true] at p
        exact .inl ⟨i, rfl, by simpa using p.1⟩
      | fr d =>
        unfold placed at p
        rw [Bool.and_eq_true] at p
        refine .inr ⟨fun i z => (by cases z), fun z => ?_⟩
        obtain ⟨q, hq, e⟩ := List.mem_map.mp z
        have := p.1
        simp only [Bool.not_eq_true', List.any_eq_false] at this
        exact this q hq (by simpa using e)
      | vl d =>
        unfold placed at p
        rw [Bool.and_eq_true] at p
        refine .inr ⟨fun i z => (by cases z), fun z => ?_⟩
        obtain ⟨q, hq, e⟩ := List.mem_map.mp z
        have := p.1
        simp only [Bool.not_eq_true', List.any_eq_false] at this
        exact this q hq (by simpa using e)
    | succ j =>
      have p2 : placed pr (k + 1) hs = true := by
        cases h0 <;> (unfold placed at p; rw [Bool.and_eq_true] at p; exact p.2)
      have := placed_at p2 j h (by simpa using e)
      rwa [show k + 1 + j = k + (j + 1) by omega] at this
end
theorem nodup_inj {pr : List (Nat × Nat)} (hn : (pr.map (·.2)).Nodup) {j j' i : Nat} (a : (j, i) ∈ pr) (b : (j', i) ∈ pr) : j = j' := by
  induction pr with
  | nil => cases a
  | cons p pr ih =>
    simp only [List.map_cons, List.nodup_cons] at hn
    rcases List.mem_cons.mp a with a | a <;> rcases List.mem_cons.mp b with b | b
    · rw [← a] at b; cases b; rfl
    · exact absurd (List.mem_map.mpr ⟨_, b, by rw [← a]⟩) hn.1
    · exact absurd (List.mem_map.mpr ⟨_, a, by rw [← b]⟩) hn.1
    · exact ih hn.2 a b
theorem nodup_inj1 {pr : List (Nat × Nat)} (hn : (pr.map (·.1)).Nodup) {j i i' : Nat} (a : (j, i) ∈ pr) (b : (j, i') ∈ pr) : i = i' := by
  induction pr with
  | nil => cases a
  | cons p pr ih =>
    simp only [List.map_cons, List.nodup_cons] at hn
    rcases List.mem_cons.mp a with a | a <;> rcases List.mem_cons.mp b with b | b
    · rw [← a] at b; cases b; rfl
    · exact absurd (List.mem_map.mpr ⟨_, b, by rw [← a]⟩) hn.1
    · exact absurd (List.mem_map.mpr ⟨_, a, by rw [← b]⟩) hn.1
    · exact ih hn.2 a b
section
variable {X : Cx} {P0 : Pr} {O Oc W U : List Nat} {E : EK} {XE : XK} {a b c e : Expr} {es : List Expr} {ma mb mc : EM} {ms : AM} {pos : Pos} {k np : Nat} {name : Str} {pr : List (Nat × Nat)}
theorem tM_callIO {g : Fn} (hE : ∀ c ds H, E c ds H → exE X.mg XE c ds H) (hO : O = pr.map (·.1)) (hn : (pr.map (·.2)).Nodup) (hn1 : (pr.map (·.1)).Nodup) (hw : ∀ p ∈ pr, p.2 ∈ W) (hl : ALen ms np) (σ : St) (H : Hp) (Q : VK) (h : tM X.K P0 Oc W E (cCallIO pr g ms) σ H Q) :
    tCall (spD X.K X.mg np O g) [] XE (tMs X.K P0 Oc W E ms) σ H Q := by
  obtain ⟨ρ, S, h⟩ := h
  refine ⟨ρ, S, ?_⟩
  cases em : ms ρ with
  | stk => unfold cCallIO at h; rw [em] at h; exact h.elim
  | er c ds => unfold cCallIO at h; rw [em] at h; exact h
  | ok p =>
    obtain ⟨hs, ρ1⟩ := p
    unfold cCallIO at h
    rw [em] at h
    intro vs H1 S1 k1 r1
    have q : Res E W σ H (if placed pr 0 hs = true then (do
      let ds ← (dsOf hs ρ1).nox
      let (h, os) ← g ds
      match h with
      | .ow _ => .stk
      | h => pure (h, putOuts os pr ρ1)) else .stk) _ := h
    have hp : placed pr 0 hs = true := by
      cases hp : placed pr 0 hs with
      | true => rfl
      | false => rw [hp] at q; exact q.elim
    rw [if_pos hp] at q
    obtain ⟨ds, e1, q⟩ := q.of_nox
    have pl := placed_at hp
    simp only [Nat.zero_add] at pl
    obtain ⟨dl, dg⟩ := dsOf_at e1
    have lv : vs.length = np := by rw [HdRs.len r1]; exact hl ρ hs ρ1 em
    have ld : ds.length = np := by rw [dl]; exact hl ρ hs ρ1 em
    rw [List.append_nil]
    -- the callee's own objects are own here
    have own : ∀ {j : Nat} {v : V}, j ∈ O → (vs.map some)[j]? = some (some v) → ∃ i, (j, i) ∈ pr ∧ i ∈ Oc ∧ i ∈ W ∧ σ[i]? = some (some v) ∧ hs[j]? = some (.ow i) := fun {j v} hj e => by
      obtain ⟨h, e2, r⟩ := HdRs.at r1 (map_get.mp e)
      rcases pl j h e2 with ⟨i, rfl, hi⟩ | ⟨_, hn'⟩
      · exact ⟨i, hi, r.1, hw _ hi, r.2, e2⟩
      · rw [hO] at hj; exact absurd hj hn'
    have oa : ∀ b, OA O (vs.map some) b → OA W σ b := fun b ⟨j, hj, e⟩ => let ⟨i, _, _, h2, h3, _⟩ := own hj e; ⟨i, h2, h3⟩
    have oaO : ∀ b, OA O (vs.map some) b → OA Oc σ b := fun b z => S1.oaw (oa b z)
    generalize hP1 : (fun b => FA P0 Oc σ b ∧ ¬ OA O (vs.map some) b : Pr) = P1
    have fa1 : ∀ b, FA P1 O (vs.map some) b → FA P0 Oc σ b := fun b z => by
      subst hP1
      rcases z with z | z
      · exact z.1
      · exact .inr (oaO b z)
    have fa2 : ∀ b, FA P0 Oc σ b → FA P1 O (vs.map some) b := fun b z => by
      subst hP1
      by_cases y : OA O (vs.map some) b
      · exact .inr y
      · exact .inl ⟨z, y⟩
    have S2 : Sim X.K P1 O [] (ds.map some) (vs.map some) H1 := by
      refine ⟨fun _ z => (nomatch z), by simp [lv, ld], fun b z => S1.dom b (fa1 b z), fun j d e nj => ?_, fun j d e hj => ?_, fun x y a hx hy e1 e2 => ?_, fun a z y => by subst hP1; exact y.2 z⟩
      · have e := map_get.mp e
        have hj : j < vs.length := by rw [lv, ← ld]; exact (List.getElem?_eq_some_iff.mp e).1
        have ev : vs[j]? = some vs[j] := List.getElem?_eq_getElem hj
        obtain ⟨h, e2, r⟩ := HdRs.at r1 ev
        refine ⟨vs[j], map_get.mpr ev, ?_⟩
        have hd := dg j h d e2 e
        rcases pl j h e2 with ⟨i, rfl, hi⟩ | ⟨hne, _⟩
        · exact absurd (by rw [hO]; exact List.mem_map.mpr ⟨_, hi, rfl⟩) nj
        · cases h with
          | fr d' => cases hd; exact r.1.less S1.dom fa1
          | vl d' => cases hd; exact Rep.less S1.dom r fa1
          | ow i => exact absurd rfl (hne i)
      · have e := map_get.mp e
        have hj' : j < vs.length := by rw [lv, ← ld]; exact (List.getElem?_eq_some_iff.mp e).1
        have ev : (vs.map some)[j]? = some (some vs[j]) := map_get.mpr (List.getElem?_eq_getElem hj')
        obtain ⟨i, h1, h2, h3, h4, h5⟩ := own hj ev
        have hd := look_some (dg j _ d h5 e)
        obtain ⟨w, h6, h7⟩ := S1.own i d hd h2
        rw [h4] at h6; cases h6
        exact ⟨_, ev, h7.less S1.dom fa1⟩
      · obtain ⟨i1, a1, b1, c1, d1, f1⟩ := own hx e1
        obtain ⟨i2, a2, b2, c2, d2, f2⟩ := own hy e2
        have ei := S1.sep i1 i2 a b1 b2 d1 d2
        subst ei
        have := nodup_inj hn a1 a2
        exact this
    refine ⟨lv, ds, P1, S2, ld, ?_⟩
    have q := q.keep k1
    cases eg : g ds with
    | stk => rw [eg] at q; exact q.elim
    | er c xs =>
      rw [eg] at q
      exact fun H' kp => hE c xs H' (q H' ⟨fun b o e n => kp.keep b o e fun z => n (oa b z), kp.some⟩)
    | ok p =>
      obtain ⟨hd, os⟩ := p
      rw [eg] at q
      intro v H2 k2 S3 r2
      have S3 : Sim X.K P1 O [] os (vs.map some) H2 := S3
      have k3 : Keep W σ H1 H2 := ⟨fun b o e n => k2.keep b o e fun z => n (oa b z), k2.some⟩
      have slot : ∀ {j i : Nat}, (j, i) ∈ pr → i ∈ Oc := fun {j i} z => S1.sub i (hw _ z)
      have S4 : Sim X.K P0 Oc W (putOuts os pr ρ1) σ H2 := by
        refine ⟨S1.sub, by rw [putOuts_len]; exact S1.len, fun b z => S3.dom b (fa2 b z), fun i d e n => ?_, fun i d e n => ?_, S1.sep, S1.sep0⟩
        · have ni : i ∉ pr.map (·.2) := fun z => by
            obtain ⟨⟨j, i'⟩, hq, z⟩ := List.mem_map.mp z
            cases z
            exact n (slot hq)
          rw [putOuts_ne ni] at e
          obtain ⟨v, h1, h2⟩ := S1.val i d e n
          exact ⟨v, h1, h2.of_same S1.dom fun b o e n => k2.keep b o e fun z => n (.inr (oaO b z))⟩
        · by_cases ni : i ∈ pr.map (·.2)
          · obtain ⟨⟨j, i'⟩, hq, z⟩ := List.mem_map.mp ni
            cases z
            have eo := putOuts_at hn hq e
            have hj : j ∈ O := by rw [hO]; exact List.mem_map.mpr ⟨_, hq, rfl⟩
            obtain ⟨w, h1, h2⟩ := S3.own j d eo hj
            obtain ⟨i2, a2, b2, c2, d2, f2⟩ := own hj h1
            have : i2 = i' := by
              have := nodup_inj1 hn1 a2 hq
              exact this
            subst this
            exact ⟨w, d2, h2.less S3.dom fa2⟩
          · rw [putOuts_ne ni] at e
            obtain ⟨w, h1, h2⟩ := S1.own i d e n
            refine ⟨w, h1, h2.mono S1.dom (fun b o e n => k2.keep b o e fun z => n (.inr (oaO b z))) (fun _ z => .inl z) fun a o e1 e2 => k2.keep a o e2 fun ⟨j, hj, ej⟩ => ?_⟩
            subst e1
            obtain ⟨i2, a2, b2, c2, d2, f2⟩ := own hj ej
            have := S1.sep i i2 a n b2 h1 d2
            subst this
            exact ni (List.mem_map.mpr ⟨_, a2, rfl⟩)
      cases hd with
      | ow j => exact q.elim
      | fr d => exact q v H2 S4 (k1.trans k3) ⟨r2.1.less S3.dom fa2, fun m a e => Classical.byContradiction fun z => k1.some a z (r2.2 m a e)⟩
      | vl d => exact q v H2 S4 (k1.trans k3) (Rep.less S3.dom r2 fa2)
theorem ce_callIO {g : Fn} {p : Pos} (G : Glo X.prog X.w X.K X.mg X.base name k np O g) (pr : List (Nat × Nat)) (o : Out2 X E XE) (hr : Room k X.A) (ha : CA X P0 Oc W E (e :: es) ms) (hl : ALen ms np) (hO : O = pr.map (·.1) := by rfl) (hn : (pr.map (·.2)).Nodup := by decide) (hn1 : (pr.map (·.1)).Nodup := by decide) (hw : ∀ p ∈ pr, p.2 ∈ W := by decide) (hg : Gl X name := by rfl) (hdb : (name == ("__debug__" : Str)) = false := by decide)
    (he : starEach (e :: es) X.env = (false, eval e X.env) :: starEach es X.env := by rfl) (hpl : (backTo pos (starEach es X.env)).any (·.1) = false := by rfl) : CEx X P0 Oc W E (.Call (.Name name p) (e :: es) [] pos) (cCallIO pr g ms) := by
  obtain ⟨f, fd, ps, hm, hk, hb, _, F⟩ := G.ex
  exact PE.imp (pe_call F hr hg hm hk hb .nil o.pass ha hdb he hpl) fun σ H Q h => tM_callIO o.ex hO hn hn1 hw hl σ H Q h
end
end Y

set_option Elab.async false
set_option linter.all false
set_option maxRecDepth 100000
namespace Y
open PySem PySem.Spec PyProof.Rows L2

def fnP (np n : Nat) (m : SM) : List D → R Hd := fun ds => do
  let (f, ρ) ← m (ds.map some ++ List.replicate (n - np) none)
  (retH np f ρ).nox
section
variable {P : Program} {w : World} {K : PySem.W.Frag} {mg : Str → Option Value} {base : Heap} {name : Str} {k np n : Nat} {O : List Nat}
theorem Glo.imp {g g' : Fn} (G : Glo P w K mg base name k np O g) (h : ∀ vs H Q E, spD K mg np O g' vs H Q E → spD K mg np O g vs H Q E) : Glo P w K mg base name k np O g' :=
  let ⟨f, fd, ps, h1, h2, h3, h4, F⟩ := G.ex
  ⟨f, fd, ps, h1, h2, h3, h4, F.imp h⟩
theorem Glo.mono {g : Fn} {k' : Nat} (G : Glo P w K mg base name k np O g) (h : k ≤ k' := by decide) : Glo P w K mg base name k' np O g :=
  let ⟨f, fd, ps, h1, h2, h3, h4, F⟩ := G.ex
  ⟨f, fd, ps, h1, h2, h3, h4, F.mono h⟩
theorem spD_pure {m : SM} {vs : List V} {H : Hp} {Q : VK} {E : XK} : spD K mg np [] (pureF (fnP np n m)) vs H Q E → spD K mg np [] (fnD np n [] m) vs H Q E := fun ⟨hl, ds, P0, S, hd, h⟩ => ⟨hl, ds, P0, S, hd, by
  unfold pureF fnP at h
  unfold fnD
  cases em : m (ds.map some ++ List.replicate (n - np) none) with
  | stk => rw [em] at h; exact h
  | er c xs => rw [em] at h; exact h
  | ok p =>
    obtain ⟨fl, ρ⟩ := p
    rw [em] at h
    cases er : (retH np fl ρ).nox with
    | stk => exact (show Res (exE mg E) [] (vs.map some) H ((retH np fl ρ).nox >>= fun h => Y.R.ok (h, outs [] np ρ)) _ by
        rw [er]
        have h : Res (exE mg E) [] (vs.map some) H ((retH np fl ρ).nox >>= fun h => Y.R.ok (h, [])) _ := h
        rw [er] at h
        exact h)
    | er c xs => cases e2 : retH np fl ρ <;> rw [e2] at er <;> cases er
    | ok hd' =>
      refine (show Res (exE mg E) [] (vs.map some) H ((retH np fl ρ).nox >>= fun h => Y.R.ok (h, outs [] np ρ)) _ from ?_)
      have h : Res (exE mg E) [] (vs.map some) H ((retH np fl ρ).nox >>= fun h => Y.R.ok (h, [])) _ := h
      rw [er] at h ⊢
      exact fun v H' kp S' r => h v H' kp (S'.move (Nat.zero_le _) (fun _ _ => rfl) (fun _ z => nomatch z) fun i d e => by simp at e) r⟩
theorem Glo.pure {m : SM} (G : Glo P w K mg base name k np [] (fnD np n [] m)) : Glo P w K mg base name k np [] (pureF (fnP np n m)) := G.imp fun vs H Q E h => spD_pure h
/-- a def of the text -/
structure Def (K : PySem.W.Frag) (mg : Str → Option Value) (x : Str) (st : Stmt) : Prop where
  ex : ∃ f fd, mg x = some (.ref f) ∧ Fun K x x st f fd
theorem glo_mk {x : Str} {st : Stmt} {N ps : List Str} {Oc W U : List Nat} {m : SM} (F : Def K mg x st) (S : FnScope N ps (defScope st))
    (hb : ∀ (f : Addr) (cdv : Value) (A : Around) (outer : List PySem.Env) (s : Shared) (H : Hp) (E : XK) (P0 : Pr), Room k (A.deeper (envOfC x (defScope st) s.heap.objs.size f cdv)) → CSs (cxOf (L2N.CX P w) P w K mg base N x (defScope st) f cdv A outer s H E) P0 Oc W U (exE mg E) (defBody st) m)
    (bi : ∀ (kV doc pm : Value) (an : Option Addr) (cdv ct : Value) (us : List Value), us.length = ps.length → bindArgs (PySem.W.fnOf x x (defArgs st) (defBody st) (defScope st) .none kV doc pm an cdv ct) ⟨us, []⟩ = Pure.pure (ps.zip us))
    (hp : ps.length = np := by rfl) (hn : N.length = n := by rfl) (hO : O = Oc.filter (fun i => decide (i < np)) := by rfl) (hW : ∀ i ∈ W, i ∈ Oc := by decide) (hU : ∀ i ∈ O, i ∈ U := by decide) : Glo P w K mg base x (k + 1) np O (fnD np n O m) := by
  obtain ⟨f, fd, hm, F⟩ := F.ex
  exact ⟨f, fd, ps, hm, F.kp, F.binds bi, hp, fnD_ok F S hp hn (fun i => by rw [hO, List.mem_filter, decide_eq_true_eq]) hW hU fun cdv A outer s H E P0 hr => hb f cdv A outer s H E P0 hr⟩
theorem law_fn {st : Stmt} {f : Addr} {fd : FuncData} {N : List Str} {Oc W : List Nat} {m : SM} (F : Fun K "law" "law" st f fd) (S : FnScope N ["script"] (defScope st))
    (hb : ∀ (f : Addr) (cdv : Value) (A : Around) (outer : List PySem.Env) (s : Shared) (H : Hp) (E : XK) (P0 : Pr), Room k (A.deeper (envOfC "law" (defScope st) s.heap.objs.size f cdv)) → CSs (cxOf (L2N.CX P w) P w K mg base N "law" (defScope st) f cdv A outer s H E) P0 Oc W [] (exE mg E) (defBody st) m)
    (hn : N.length = n := by rfl) (hO : [] = Oc.filter (fun i => decide (i < 1)) := by rfl) (hW : ∀ i ∈ W, i ∈ Oc := by decide) : FnOk P w K mg base (L2N.CX P w) (k + 1) f fd ["script"] (spD K mg 1 [] (pureF (fnP 1 n m))) :=
  (fnD_ok (O := []) F S rfl hn (fun i => by rw [hO, List.mem_filter, decide_eq_true_eq]; exact Iff.rfl) hW (fun _ h => by simp at h) fun cdv A outer s H E P0 hr => hb f cdv A outer s H E P0 hr).imp fun vs H Q E h => spD_pure h
theorem out2_body {N : List Str} {x : Str} {sc : Scope} {f : Addr} {cdv : Value} {A : Around} {outer : List PySem.Env} {s : Shared} {H : Hp} {E : XK} : Out2 (cxOf (L2N.CX P w) P w K mg base N x sc f cdv A outer s H E) (exE mg E) E :=
  ⟨L2N.passes_call (L2N.takes_of rfl rfl rfl rfl) (fun _ _ _ _ h => h), fun c ds H h => h⟩
theorem cx_none {H : Hp} {s : Shared} {e : Value} {s' : Shared} (h : L2N.CX P w [] H s (fun _ _ _ => False) e s') : False := by
  obtain ⟨_, _, _, _, _, _, _, _, _, _, _, _, z⟩ := h
  exact z.elim
end
end Y

set_option Elab.async false
set_option linter.all false
set_option maxRecDepth 100000
namespace Y
open PySem PySem.Spec PyProof.Rows L2
def tyN : D → String
  | .non => "NoneType" | .bl _ => "bool" | .int _ => "int" | .str _ => "str" | .tup _ => "tuple" | .lst _ => "list" | .arg _ => "list" | .dik _ _ => "dict" | .dit _ _ => "dict" | .ftu _ => "tuple"
def isInt : D → Bool
  | .int _ => true | .bl _ => true | _ => false
def isBl : D → Bool
  | .bl _ => true | _ => false
def isStr : D → Bool
  | .str _ => true | _ => false
def isTup : D → Bool
  | .tup _ => true | .ftu _ => true | _ => false
def isLst : D → Bool
  | .lst _ => true | .arg _ => true | _ => false
abbrev IsK (T : String) (f : D → Bool) : Prop := ∀ d, kitB (tyN d) T = some (f d)
theorem isk_int : IsK "int" isInt := fun d => by cases d <;> simp only [tyN, isInt] <;> decide +kernel
theorem isk_bool : IsK "bool" isBl := fun d => by cases d <;> simp only [tyN, isBl] <;> decide +kernel
theorem isk_str : IsK "str" isStr := fun d => by cases d <;> simp only [tyN, isStr] <;> decide +kernel
theorem isk_tuple : IsK "tuple" isTup := fun d => by cases d <;> simp only [tyN, isTup] <;> decide +kernel
theorem isk_list : IsK "list" isLst := fun d => by cases d <;> simp only [tyN, isLst] <;> decide +kernel
def noDit : D → Bool
  | .dit _ _ => false | .ftu _ => false | _ => true
def isFt : D → Bool
  | .ftu _ => true | _ => false
theorem tyX_of {K : PySem.W.Frag} {H : Hp} {P : Pr} {d : D} {v : V} (hd : (noDit d || isFt d) = true) (h : RepW K H d P v) : TyX K H v (.type (tyN d)) := by
  cases d with
  | non => have h : Rep K H .non P v := h; unfold Rep at h; subst h; exact .base .non
  | bl b => have h : Rep K H (.bl b) P v := h; unfold Rep at h; subst h; exact .base (.bl b)
  | int i => have h : Rep K H (.int i) P v := h; unfold Rep at h; subst h; exact .base (.int i)
  | str x => have h : Rep K H (.str x) P v := h; unfold Rep at h; subst h; exact .base (.str x)
  | tup ds =>
    have h : Rep K H (.tup ds) P v := h
    unfold Rep at h
    obtain ⟨a, vs, rfl, h1, _⟩ := h
    exact .base (.tup h1)
  | lst ds =>
    obtain ⟨a, vs, rfl, h1, _⟩ := h
    exact .base (.lst h1)
  | arg ns =>
    obtain ⟨a, rfl, h1⟩ := h
    rcases h1 with (h1 | ⟨o, h1⟩) | ⟨ob, its, n, h1, h2, _⟩
    · exact .base (.lst h1)
    · exact .base (.frz h1)
    · exact .kList h1 h2
  | dik ks ds =>
    obtain ⟨a, vs, rfl, _, h1, _⟩ := h
    rcases h1 with h1 | ⟨o, h1⟩
    · exact .base (.dK h1)
    · exact .fDict h1
  | dit ks ds => cases hd
  | ftu ds =>
    have h : Rep K H (.ftu ds) P v := h
    unfold Rep at h
    obtain ⟨a, vs, o, rfl, h1, _⟩ := h
    exact .fTuple h1
def cIsi (f : D → Bool) (m : EM) : EM := fun ρ => do
  let (h, ρ1) ← m ρ
  let d ← (h.d ρ1).nox
  if (noDit d || isFt d) = true then pure (.fr (.bl (f d)), ρ1) else .stk
section
variable {X : Cx} {P0 : Pr} {O W : List Nat} {E : EK} {a : Expr} {ma : EM} {pos : Pos}
theorem ce_isi {T : String} {x : Str} {f : D → Bool} {p q : Pos} (hk : IsK T f) (hm : X.mg "isinstance" = none) (hm2 : X.mg x = none) (h : CEx X P0 O W E a ma) (hv : bootBuiltins "isinstance" = some (.builtin "isinstance")) (hv2 : bootBuiltins x = some (.type T))
    (hg : Gl X "isinstance" := by rfl) (hg2 : Gl X x := by rfl) (hn : x ≠ "__name__" := by decide) (hdb : (x == ("__debug__" : Str)) = false := by decide)
    (he : starEach [a, .Name x q] X.env = (false, eval a X.env) :: starEach [.Name x q] X.env := by rfl) (hpl : (backTo pos (starEach [.Name x q] X.env)).any (·.1) = false := by rfl) (he2 : starEach [.Name x q] X.env = (false, eval (.Name x q) X.env) :: starEach [] X.env := by rfl) : CEx X P0 O W E (.Call (.Name "isinstance" p) [a, .Name x q] [] pos) (cIsi f ma) :=
  PE.imp (pe_callB call_isi hg hm hv (pa_cons h (pa_cons (pe_bltn hg2 hm2 hv2 (v := .ty T) rfl hn hdb) pa_nil he2) he) (by decide) (by decide) he hpl) fun σ H Q ⟨ρ, S, h⟩ => by
    refine ⟨ρ, S, h.of_bind.mono fun ⟨hd, ρ1⟩ q v H1 S1 k1 r1 => ?_⟩
    obtain ⟨d, e1, q⟩ := q.of_nox
    by_cases c : (noDit d || isFt d) = true
    · rw [if_pos c] at q
      exact ⟨v, .ty T, _, _, f d, rfl, .ty T, tyX_of c (HdR.d S1 r1 e1), kit_ty (hk d), (out_of (K := X.K) S1 k1 q).bl⟩
    · rw [if_neg c] at q
      exact q.elim
end
end Y

set_option Elab.async false
set_option linter.all false
set_option maxRecDepth 100000
namespace Y
open PySem PySem.Spec PyProof.Rows L2
def sExpr (m : EM) : SM := fun ρ => do
  let (_, ρ1) ← m ρ
  pure (.nx, ρ1)
section
variable {K : PySem.W.Frag} {X : Cx} {P0 : Pr} {O W U : List Nat} {E : EK} {e : Expr} {ma : EM} {pos : Pos}
theorem cs_expr (h : CEx X P0 O W E e ma) (hs : swapsWith e none pos.line X.env = pure false := by rfl) : CS X P0 O W U E (.Expr e pos) (sExpr ma) := PS.imp (ps_expr h hs) fun D σ H ⟨ρ, S, h⟩ =>
  ⟨ρ, S, (h.of_bind.down S.sub).mono fun ⟨hd, ρ1⟩ q v H1 S1 k1 r1 => q σ H1 S1 (Tr.of S.sub k1) rfl⟩
/-- what the top binds -/
theorem def_mk {h : Heap} {mg : Str → Option Value} {x : Str} {st : Stmt} {f : Addr} {od an : Option Addr} {sl : Array (Option Value)} {oc kV dc pm cd ct : Value} (Z : K.In h) (G : h.Ns mainGlobals mg)
    (a : PySem.W.nsIn K mainGlobals x = some (some (.ref f))) (l : K.lookup f = some ⟨oc, od, .func (PySem.W.fnOf x x (defArgs st) (defBody st) (defScope st) .none kV dc pm an cd ct), sl⟩) (c : PySem.W.codeIn K cd x = true) (k : PySem.W.keepIn K (.ref f) = true) : Def K mg x st :=
  ⟨⟨f, _, PySem.W.mg_of Z G a, fun_mk l c k⟩⟩
end
theorem bo_len : bootBuiltins "len" = some (.builtin "len") := by decide +kernel
theorem bo_max : bootBuiltins "max" = some (.builtin "max") := by decide +kernel
theorem bo_min : bootBuiltins "min" = some (.builtin "min") := by decide +kernel
theorem bo_divmod : bootBuiltins "divmod" = some (.builtin "divmod") := by decide +kernel
theorem bo_sum : bootBuiltins "sum" = some (.builtin "sum") := by decide +kernel
theorem bo_all : bootBuiltins "all" = some (.builtin "all") := by decide +kernel
theorem bo_isinstance : bootBuiltins "isinstance" = some (.builtin "isinstance") := by decide +kernel
theorem bo_sorted : bootBuiltins "sorted" = some (.builtin "sorted") := by decide +kernel
theorem bo_tuple : bootBuiltins "tuple" = some (.type "tuple") := by decide +kernel
theorem bo_list : bootBuiltins "list" = some (.type "list") := by decide +kernel
theorem bo_bool : bootBuiltins "bool" = some (.type "bool") := by decide +kernel
theorem bo_str : bootBuiltins "str" = some (.type "str") := by decide +kernel
theorem bo_int : bootBuiltins "int" = some (.type "int") := by decide +kernel
theorem bo_dict : bootBuiltins "dict" = some (.type "dict") := by decide +kernel
theorem bo_set : bootBuiltins "set" = some (.type "set") := by decide +kernel
theorem _root_.L2.Room.units65 {k : Nat} {A : Around} (r : Room k A) : A.units + 65 < cLine := by have := r.un; omega
end Y

set_option Elab.async false
set_option linter.all false
set_option maxRecDepth 100000
namespace Y
open PySem PySem.Spec PyProof.Rows L2
abbrev Good (g : List D → R Hd) (n : Nat) : Prop := ∀ ns : List Int, ns.length ≤ n → (∀ z ∈ ns, Builtin.Int.intBits z ≤ 1048576) → ∃ b, g [.arg ns] = .ok b ∧ (b = .fr (.bl true) ∨ b = .vl (.bl true))
def spL (K : PySem.W.Frag) (n : Nat) : Sp := fun vs H Q E => ∃ (a : Addr) (ns : List Int), vs = [.ref a] ∧ SqL K H a (ns.map V.int) ∧ ns.length ≤ n ∧ (∀ z ∈ ns, Builtin.Int.intBits z ≤ 1048576) ∧ ∀ H', Q (.bl true) H'
theorem spL_to {K : PySem.W.Frag} {mg : Str → Option Value} {g : List D → R Hd} {n : Nat} (hg : Good g n) {vs : List V} {H : Hp} {Q : VK} {E : XK} : spL K n vs H Q E → spD K mg 1 [] (pureF g) vs H Q E := fun ⟨a, ns, e, hS, h1, h2, q⟩ => by
  subst e
  obtain ⟨b, e, hb⟩ := hg ns h1 h2
  refine ⟨rfl, [.arg ns], fun _ => False, sim_args (fun b z => z.elim) (Reps.cons ?_ Reps.nil), rfl, ?_⟩
  · unfold Rep
    refine ⟨a, rfl, ?_⟩
    rcases hS with hS | hS
    · exact .inl ⟨fun z => z, hS⟩
    · exact .inr (.inr hS)
  · unfold pureF
    rw [e]
    intro v H' _ _ r
    have : v = .bl true := by
      rcases hb with rfl | rfl
      · have r := r.1; unfold Rep at r; exact r
      · have r : Rep K H' (.bl true) (FA (fun _ => False) [] ([V.ref a].map some)) v := r; unfold Rep at r; exact r
    rw [this]
    exact q H'
/-- the law as the head wants it -/
theorem law_all {P : Program} {w : World} {K : PySem.W.Frag} {mg : Str → Option Value} {h : Heap} {fa f2 : Addr} {st : Stmt} {k n : Nat} {g : List D → R Hd} (Z : K.In h) (G : h.Ns mainGlobals mg) (hfa : mg "law" = some (.ref fa)) (hg : Good g n)
    {od an : Option Addr} {sl : Array (Option Value)} {oc kV dc pm cd ct : Value}
    (ok : ∀ (base : Heap) {f : Addr} {fd : FuncData}, Fun K "law" "law" st f fd → FnOk P w K mg base (L2N.CX P w) k f fd ["script"] (spD K mg 1 [] (pureF g)))
    (hb : ∀ (kV dc pm : Value) (an : Option Addr) (cd ct : Value) (s : Shared) (u : Value), BindsTo s (PySem.W.fnOf "law" "law" (defArgs st) (defBody st) (defScope st) .none kV dc pm an cd ct) ⟨[u], []⟩ [("script", u)])
    (a : PySem.W.nsIn K mainGlobals "law" = some (some (.ref f2))) (l : K.lookup f2 = some ⟨oc, od, .func (PySem.W.fnOf "law" "law" (defArgs st) (defBody st) (defScope st) .none kV dc pm an cd ct), sl⟩) (c : PySem.W.codeIn K cd "law" = true) (kp : PySem.W.keepIn K (.ref f2) = true) :
    ∃ fd : FuncData, (∀ (s : Shared) (u : Value), BindsTo s fd ⟨[u], []⟩ [("script", u)]) ∧ ∀ base : Heap, K.In base → base.Ns mainGlobals mg → FnOk P w K mg base (L2N.CX P w) k fa fd ["script"] (spL K n) := by
  have e := hfa.symm.trans (PySem.W.mg_of Z G a)
  cases e
  exact ⟨_, fun s u => hb kV dc pm an cd ct s u, fun base _ _ => (ok base (fun_mk l c kp)).imp fun vs H Q E h => spL_to hg h⟩
end Y

set_option Elab.async false
set_option linter.all false
set_option maxRecDepth 100000
namespace Y
open PySem PySem.Spec PyProof.Rows L2
variable {ρ : Env}
@[simp] theorem e_look {i : Nat} : look i ρ = (match ρ[i]? with | some (some d) => .ok d | _ => .stk) := id rfl
@[simp] theorem e_var {i : Nat} : cVar i ρ = ((look i ρ).nox >>= fun d => R.ok (.vl d, ρ)) := id rfl
@[simp] theorem e_own {i : Nat} : cOwn i ρ = ((look i ρ).nox >>= fun _ => R.ok (.ow i, ρ)) := id rfl
@[simp] theorem e_c {d : D} : cC d ρ = .ok (.fr d, ρ) := id rfl
@[simp] theorem e_hfr {d : D} : Hd.d (.fr d) ρ = .ok d := id rfl
@[simp] theorem e_hvl {d : D} : Hd.d (.vl d) ρ = .ok d := id rfl
@[simp] theorem e_how {i : Nat} : Hd.d (.ow i) ρ = look i ρ := id rfl
@[simp] theorem e_vfr {d : D} : Hd.v (.fr d) = .ok d := id rfl
@[simp] theorem e_vvl {d : D} : Hd.v (.vl d) = .ok d := id rfl
@[simp] theorem e_vow {i : Nat} : Hd.v (.ow i) = .stk := id rfl
@[simp] theorem e_op {f : D → D → R D} {a b : EM} : cOp f a b ρ = (a ρ >>= fun p => b p.2 >>= fun q => (p.1.d q.2).nox >>= fun x => (q.1.d q.2).nox >>= fun y => (f x y).nox >>= fun z => R.ok (.fr z, q.2)) := id rfl
@[simp] theorem e_tru {m : EM} : cTru m ρ = (m ρ >>= fun p => (p.1.d p.2).nox >>= fun d => (truD d).nox >>= fun b => R.ok (b, p.2)) := id rfl
@[simp] theorem e_bl {m : EM} : cBl m ρ = (m ρ >>= fun p => p.1.v.nox >>= fun d => match d with | .bl b => R.ok (b, p.2) | _ => .stk) := id rfl
@[simp] theorem e_notT {m : BM} : cNotT m ρ = (m ρ >>= fun p => R.ok (!p.1, p.2)) := id rfl
@[simp] theorem e_andT {a b : BM} : cAndT a b ρ = (a ρ >>= fun p => if p.1 = true then b p.2 else R.ok (false, p.2)) := id rfl
@[simp] theorem e_orT {a b : BM} : cOrT a b ρ = (a ρ >>= fun p => if p.1 = true then R.ok (true, p.2) else b p.2) := id rfl
@[simp] theorem e_nil : cNil ρ = .ok ([], ρ) := id rfl
@[simp] theorem e_cons {a : EM} {as : AM} : cCons a as ρ = (a ρ >>= fun p => as p.2 >>= fun q => R.ok (p.1 :: q.1, q.2)) := id rfl
@[simp] theorem e_vs0 : vsOf [] = .ok [] := id rfl
@[simp] theorem e_vs1 {h : Hd} {hs : List Hd} : vsOf (h :: hs) = (h.v.nox >>= fun d => vsOf hs >>= fun ds => R.ok (d :: ds)) := id rfl
@[simp] theorem e_ds0 : dsOf [] ρ = .ok [] := id rfl
@[simp] theorem e_ds1 {h : Hd} {hs : List Hd} : dsOf (h :: hs) ρ = ((h.d ρ).nox >>= fun d => dsOf hs ρ >>= fun ds => R.ok (d :: ds)) := id rfl
@[simp] theorem e_and {a b : EM} : cAnd a b ρ = (a ρ >>= fun p => (p.1.d p.2).nox >>= fun d => (truD d).nox >>= fun k => if k = true then b p.2 else R.ok (p.1, p.2)) := id rfl
@[simp] theorem e_or {a b : EM} : cOr a b ρ = (a ρ >>= fun p => (p.1.d p.2).nox >>= fun d => (truD d).nox >>= fun k => if k = true then R.ok (p.1, p.2) else b p.2) := id rfl
@[simp] theorem e_not {m : EM} : cNot m ρ = (m ρ >>= fun p => (p.1.d p.2).nox >>= fun d => (truD d).nox >>= fun k => R.ok (.fr (.bl (!k)), p.2)) := id rfl
@[simp] theorem e_chain {f g : D → D → R D} {a b c : EM} : cChain f g a b c ρ = (a ρ >>= fun p => b p.2 >>= fun q => (p.1.d q.2).nox >>= fun x => (q.1.d q.2).nox >>= fun y => (f x y).nox >>= fun z => match z with | .bl k => if k = true then (c q.2 >>= fun r => (q.1.d r.2).nox >>= fun y => (r.1.d r.2).nox >>= fun w => (g y w).nox >>= fun z => R.ok (.fr z, r.2)) else .ok (.fr (.bl false), q.2) | _ => .stk) := id rfl
@[simp] theorem e_neg {m : EM} : cNeg m ρ = (m ρ >>= fun p => p.1.v.nox >>= fun d => match d with | .int i => R.ok (.fr (.int (-i)), p.2) | _ => .stk) := id rfl
@[simp] theorem e_tup {m : AM} : cTup m ρ = (m ρ >>= fun p => (vsOf p.1).nox >>= fun ds => if szOk ds.length = true then R.ok (.fr (.tup ds), p.2) else .stk) := id rfl
@[simp] theorem e_lst {m : AM} : cLst m ρ = (m ρ >>= fun p => (vsOf p.1).nox >>= fun ds => if szOk ds.length = true then R.ok (.fr (.lst ds), p.2) else .stk) := id rfl
@[simp] theorem e_call {f : List D → R D} {m : AM} : cCall f m ρ = (m ρ >>= fun p => (dsOf p.1 p.2).nox >>= fun ds => (f ds).nox >>= fun z => R.ok (.fr z, p.2)) := id rfl
@[simp] theorem e_ix {a b : EM} : cIx a b ρ = (a ρ >>= fun p => b p.2 >>= fun q => (p.1.d q.2).nox >>= fun x => (q.1.d q.2).nox >>= fun y => (ixD x y).nox >>= fun z => R.ok (.vl z, q.2)) := id rfl
@[simp] theorem e_nopart : cNoPart ρ = .ok (none, ρ) := id rfl
@[simp] theorem e_part {m : EM} : cPart m ρ = (m ρ >>= fun p => p.1.v.nox >>= fun d => match d with | .int i => R.ok (some i, p.2) | _ => .stk) := id rfl
@[simp] theorem e_slice {a : EM} {lo hi : OM} : cSlice a lo hi ρ = (a ρ >>= fun p => lo p.2 >>= fun q => hi q.2 >>= fun r => (p.1.d r.2).nox >>= fun d => (sliceD d q.1 r.1).nox >>= fun z => R.ok (.fr z, r.2)) := id rfl
@[simp] theorem e_iter {m : EM} : cIter m ρ = (m ρ >>= fun p => (p.1.d p.2).nox >>= fun d => (itD d).nox >>= fun ds => if szOk ds.length = true then R.ok ((ds, p.1.ws), p.2) else .stk) := id rfl
@[simp] theorem e_range {f : List D → R (List D)} {m : AM} : cRange f m ρ = (m ρ >>= fun p => (vsOf p.1).nox >>= fun ds => (f ds).nox >>= fun xs => if szOk xs.length = true then R.ok ((xs, []), p.2) else .stk) := id rfl
@[simp] theorem e_yes : cYes ρ = .ok (true, ρ) := id rfl
@[simp] theorem e_isi {f : D → Bool} {m : EM} : cIsi f m ρ = (m ρ >>= fun p => (p.1.d p.2).nox >>= fun d => if (noDit d || isFt d) = true then R.ok (.fr (.bl (f d)), p.2) else .stk) := id rfl
@[simp] theorem e_callF {g : List D → R Hd} {m : AM} : cCallF g m ρ = (m ρ >>= fun p => (vsOf p.1).nox >>= fun ds => g ds >>= fun h => match h with | .ow _ => .stk | h => R.ok (h, p.2)) := id rfl
@[simp] theorem e_callIO {pr : List (Nat × Nat)} {g : Fn} {m : AM} : cCallIO pr g m ρ = (m ρ >>= fun p => if placed pr 0 p.1 = true then ((dsOf p.1 p.2).nox >>= fun ds => g ds >>= fun r => match r.1 with | .ow _ => .stk | h => R.ok (h, putOuts r.2 pr p.2)) else .stk) := id rfl
@[simp] theorem e_tmN {i : Nat} {d : D} : tmName i d ρ = .ok (ρ.set i (some d)) := id rfl
@[simp] theorem e_tmT {is : List Nat} {ds : List D} : tmTup is (.tup ds) ρ = if ds.length = is.length then .ok (setAll ρ is ds) else .stk := id rfl
@[simp] theorem e_sa0 {ds : List D} : setAll ρ [] ds = ρ := by unfold setAll; rfl
@[simp] theorem e_sa1 {i : Nat} {is : List Nat} {d : D} {ds : List D} : setAll ρ (i :: is) (d :: ds) = setAll (ρ.set i (some d)) is ds := id rfl
@[simp] theorem e_comp {im : IM} {tm : GM} {t : BM} {e : EM} {vs : List Nat} : cComp im tm t e vs ρ = (im ρ >>= fun p => (cCompL tm t e vs p.1.2 p.1.1 (wipeE p.2 vs)).nox >>= fun q => R.ok (.fr (.lst q.1), q.2)) := id rfl
@[simp] theorem e_skip : sSkip ρ = .ok (.nx, ρ) := id rfl
@[simp] theorem e_seq {m n : SM} : sSeq m n ρ = (m ρ >>= fun p => match p.1 with | .nx => n p.2 | f => R.ok (f, p.2)) := by
  unfold sSeq; congr
@[simp] theorem e_ret {m : EM} : sRet m ρ = (m ρ >>= fun p => R.ok (.rt p.1, p.2)) := id rfl
@[simp] theorem e_sif {t : BM} {m n : SM} : sIf t m n ρ = (t ρ >>= fun p => if p.1 = true then m p.2 else n p.2) := id rfl
@[simp] theorem e_asg {m : EM} {tm : GM} : sAsg m tm ρ = (m ρ >>= fun p => p.1.v.nox >>= fun d => (tm d p.2).nox >>= fun r => R.ok (.nx, r)) := id rfl
@[simp] theorem e_sown {O W : List Nat} {m : EM} {i : Nat} : sOwn O W m i ρ = (m ρ >>= fun p => match p.1 with | .fr d => ((chkO O W ρ p.2).nox >>= fun _ => if d.ownable = true then R.ok (.nx, p.2.set i (some d)) else .stk) | _ => .stk) := by
  unfold sOwn; congr
@[simp] theorem e_app {i : Nat} {m : EM} : sAppend i m ρ = ((lstAt i ρ).nox >>= fun _ => m ρ >>= fun p => p.1.v.nox >>= fun d => (lstAt i p.2).nox >>= fun ds => if szOk (ds.length + 1) = true then R.ok (.nx, p.2.set i (some (.lst (ds ++ [d])))) else .stk) := id rfl
@[simp] theorem e_lat {i : Nat} : lstAt i ρ = (match ρ[i]? with | some (some (.lst ds)) => .ok ds | _ => .stk) := id rfl
@[simp] theorem e_six {i : Nat} {mk mv : EM} : sSetIx i mk mv ρ = (mv ρ >>= fun p => p.1.v.nox >>= fun d => (lstAt i p.2).nox >>= fun _ => mk p.2 >>= fun q => q.1.v.nox >>= fun k => match k with | .int z => ((lstAt i q.2).nox >>= fun ds => match ixN ds.length z with | some j => R.ok (.nx, q.2.set i (some (.lst (ds.set j d)))) | none => .stk) | _ => .stk) := by
  unfold sSetIx; congr
@[simp] theorem e_expr {m : EM} : sExpr m ρ = (m ρ >>= fun p => R.ok (.nx, p.2)) := id rfl
@[simp] theorem e_for {U : List Nat} {im : IM} {tm : GM} {body : SM} {vs : List Nat} : sFor U im tm body vs ρ = (im ρ >>= fun p => if (p.1.2.all fun w => U.contains w) = true then forL tm body vs p.1.2 p.1.1 p.2 else .stk) := id rfl
@[simp] theorem e_w0 : wipeE ρ [] = ρ := id rfl
@[simp] theorem e_w1 {i : Nat} {is : List Nat} : wipeE ρ (i :: is) = (wipeE ρ is).set i none := id rfl
@[simp] theorem e_po0 {os : Env} : putOuts os [] ρ = ρ := id rfl
@[simp] theorem e_po1 {os : Env} {j i : Nat} {pr : List (Nat × Nat)} : putOuts os ((j, i) :: pr) ρ = (putOuts os pr ρ).set i (os.getD j none) := id rfl
@[simp] theorem e_pl0 {pr : List (Nat × Nat)} {j : Nat} : placed pr j [] = true := id rfl
@[simp] theorem e_pl1 {pr : List (Nat × Nat)} {j i : Nat} {hs : List Hd} : placed pr j (.ow i :: hs) = (pr.contains (j, i) && placed pr (j + 1) hs) := id rfl
@[simp] theorem e_pl2 {pr : List (Nat × Nat)} {j : Nat} {d : D} {hs : List Hd} : placed pr j (.vl d :: hs) = ((!pr.any fun p => p.1 == j) && placed pr (j + 1) hs) := id rfl
@[simp] theorem e_pl3 {pr : List (Nat × Nat)} {j : Nat} {d : D} {hs : List Hd} : placed pr j (.fr d :: hs) = ((!pr.any fun p => p.1 == j) && placed pr (j + 1) hs) := id rfl
@[simp] theorem e_rt0 {np : Nat} : retH np .nx ρ = .ok (.fr .non) := id rfl
@[simp] theorem e_rt1 {np : Nat} {d : D} : retH np (.rt (.fr d)) ρ = .ok (.fr d) := id rfl
@[simp] theorem e_rt2 {np : Nat} {d : D} : retH np (.rt (.vl d)) ρ = .ok (.vl d) := id rfl
@[simp] theorem e_rt3 {np i : Nat} : retH np (.rt (.ow i)) ρ = if np ≤ i then ((look i ρ).nox >>= fun d => R.ok (.fr d)) else .stk := id rfl
theorem e_fnP {np n : Nat} {m : SM} {ds : List D} : fnP np n m ds = (m (ds.map some ++ List.replicate (n - np) none) >>= fun p => (retH np p.1 p.2).nox) := rfl
theorem e_fnD {np n : Nat} {O : List Nat} {m : SM} {ds : List D} : fnD np n O m ds = (m (ds.map some ++ List.replicate (n - np) none) >>= fun p => (retH np p.1 p.2).nox >>= fun h => R.ok (h, outs O np p.2)) := rfl
@[simp] theorem e_outs1 {O : List Nat} : outs O 1 ρ = [if O.contains 0 = true then ρ.getD 0 none else none] := id rfl
@[simp] theorem e_outs2 {O : List Nat} : outs O 2 ρ = [if O.contains 0 = true then ρ.getD 0 none else none, if O.contains 1 = true then ρ.getD 1 none else none] := id rfl
@[simp] theorem e_outs3 {O : List Nat} : outs O 3 ρ = [if O.contains 0 = true then ρ.getD 0 none else none, if O.contains 1 = true then ρ.getD 1 none else none, if O.contains 2 = true then ρ.getD 2 none else none] := id rfl
@[simp] theorem e_outs4 {O : List Nat} : outs O 4 ρ = [if O.contains 0 = true then ρ.getD 0 none else none, if O.contains 1 = true then ρ.getD 1 none else none, if O.contains 2 = true then ρ.getD 2 none else none, if O.contains 3 = true then ρ.getD 3 none else none] := id rfl
@[simp] theorem e_outs5 {O : List Nat} : outs O 5 ρ = [if O.contains 0 = true then ρ.getD 0 none else none, if O.contains 1 = true then ρ.getD 1 none else none, if O.contains 2 = true then ρ.getD 2 none else none, if O.contains 3 = true then ρ.getD 3 none else none, if O.contains 4 = true then ρ.getD 4 none else none] := id rfl
end Y

set_option Elab.async false
set_option linter.all false
set_option maxRecDepth 100000
namespace Y
open PySem PySem.Spec PyProof.Rows L2
@[simp] theorem d_add {i j : Int} : addD (.int i) (.int j) = .ok (.int (i + j)) := id rfl
@[simp] theorem d_addT {x y : List D} : addD (.tup x) (.tup y) = if szOk (x.length + y.length) = true then .ok (.tup (x ++ y)) else .stk := id rfl
@[simp] theorem d_addL {x y : List D} : addD (.lst x) (.lst y) = if szOk (x.length + y.length) = true then .ok (.lst (x ++ y)) else .stk := id rfl
@[simp] theorem d_addS {x y : Str} : addD (.str x) (.str y) = if szOk (x.length + y.length) = true then .ok (.str (x ++ y)) else .stk := id rfl
@[simp] theorem d_sub {i j : Int} : subD (.int i) (.int j) = .ok (.int (i - j)) := id rfl
@[simp] theorem d_mul {i j : Int} : mulD (.int i) (.int j) = if mulOk i j = true then .ok (.int (i * j)) else .stk := id rfl
@[simp] theorem d_fdiv {i j : Int} : fdivD (.int i) (.int j) = if smallPos j = true then .ok (.int (i / j)) else .stk := id rfl
@[simp] theorem d_mod {i j : Int} : modD (.int i) (.int j) = if 0 < j then .ok (.int (i % j)) else .stk := id rfl
@[simp] theorem d_shl {i j : Int} : shlD (.int i) (.int j) = if shOk i j = true then .ok (.int (i * 2 ^ j.toNat)) else .stk := id rfl
@[simp] theorem d_shr {i j : Int} : shrD (.int i) (.int j) = if 0 ≤ j then .ok (.int (i / 2 ^ j.toNat)) else .stk := id rfl
@[simp] theorem d_and {i j : Int} : andD (.int i) (.int j) = .ok (.int (Builtin.bitAnd i j)) := id rfl
@[simp] theorem d_xor {i j : Int} : xorD (.int i) (.int j) = .ok (.int (Builtin.bitXor i j)) := id rfl
@[simp] theorem d_lt {i j : Int} : ltD (.int i) (.int j) = .ok (.bl (decide (i < j))) := id rfl
@[simp] theorem d_le {i j : Int} : leD (.int i) (.int j) = .ok (.bl (decide (i ≤ j))) := id rfl
@[simp] theorem d_gt {i j : Int} : gtD (.int i) (.int j) = .ok (.bl (decide (j < i))) := id rfl
@[simp] theorem d_ge {i j : Int} : geD (.int i) (.int j) = .ok (.bl (decide (j ≤ i))) := id rfl
@[simp] theorem d_isN {x : D} : isD x .non = .ok (.bl (isNon x)) := by cases x <;> rfl
@[simp] theorem d_isB {a b : Bool} : isD (.bl a) (.bl b) = .ok (.bl (decide (a = b))) := id rfl
@[simp] theorem d_lenT {x : List D} : lenD [.tup x] = .ok (.int x.length) := id rfl
@[simp] theorem d_lenL {x : List D} : lenD [.lst x] = .ok (.int x.length) := id rfl
@[simp] theorem d_lenA {x : List Int} : lenD [.arg x] = .ok (.int x.length) := id rfl
@[simp] theorem d_lenS {x : Str} : lenD [.str x] = if szOk x.length = true then .ok (.int x.length) else .stk := id rfl
@[simp] theorem d_max {i j : Int} : max2D [.int i, .int j] = .ok (.int (max i j)) := id rfl
@[simp] theorem d_min {i j : Int} : min2D [.int i, .int j] = .ok (.int (min i j)) := id rfl
@[simp] theorem d_divmod {i j : Int} : divmodD [.int i, .int j] = if smallPos j = true then .ok (.tup [.int (i / j), .int (i % j)]) else .stk := id rfl
@[simp] theorem d_tupL {x : List D} : tupleD [.lst x] = .ok (.tup x) := id rfl
@[simp] theorem d_tupT {x : List D} : tupleD [.tup x] = .ok (.tup x) := id rfl
@[simp] theorem d_lstL {x : List D} : listD [.lst x] = .ok (.lst x) := id rfl
@[simp] theorem d_lstT {x : List D} : listD [.tup x] = .ok (.lst x) := id rfl
@[simp] theorem d_intI {i : Int} : intOfD [.int i] = .ok (.int i) := id rfl
@[simp] theorem d_intB {k : Bool} : intOfD [.bl k] = .ok (.int (if k then 1 else 0)) := id rfl
@[simp] theorem d_ixT {x : List D} {i : Int} : ixD (.tup x) (.int i) = match atI x i with | some d => .ok d | none => .stk := id rfl
@[simp] theorem d_ixL {x : List D} {i : Int} : ixD (.lst x) (.int i) = match atI x i with | some d => .ok d | none => .stk := id rfl
@[simp] theorem d_ixA {x : List Int} {i : Int} : ixD (.arg x) (.int i) = match atI x i with | some n => .ok (.int n) | none => .stk := id rfl
@[simp] theorem d_slT {x : List D} {a b : Option Int} : sliceD (.tup x) a b = .ok (.tup (cutD x a b)) := id rfl
@[simp] theorem d_slL {x : List D} {a b : Option Int} : sliceD (.lst x) a b = .ok (.lst (cutD x a b)) := id rfl
@[simp] theorem d_itL {x : List D} : itD (.lst x) = .ok x := id rfl
@[simp] theorem d_itT {x : List D} : itD (.tup x) = .ok x := id rfl
@[simp] theorem d_itA {x : List Int} : itD (.arg x) = .ok (x.map D.int) := id rfl
@[simp] theorem d_rng1 {j : Int} : rng1D [.int j] = if rngOk j = true then .ok ((List.range j.toNat).map fun i => D.int (i : Nat)) else .stk := by
  show (if rngOk j = true then R.ok ((List.range j.toNat).map fun i => D.int (0 + (i : Nat))) else .stk) = _
  simp
@[simp] theorem d_truB {b : Bool} : truD (.bl b) = .ok b := id rfl
@[simp] theorem d_truN : truD .non = .ok false := id rfl
@[simp] theorem d_truI {i : Int} : truD (.int i) = .ok (i != 0) := id rfl
@[simp] theorem d_truL {x : List D} : truD (.lst x) = .ok (!x.isEmpty) := id rfl
@[simp] theorem d_truT {x : List D} : truD (.tup x) = .ok (!x.isEmpty) := id rfl
theorem ints_map : ∀ xs : List Int, intsOf (xs.map .int) = some xs
  | [] => rfl
  | x :: xs => by simp [intsOf, ints_map xs]
theorem bls_map : ∀ xs : List Bool, blsOf (xs.map .bl) = some xs
  | [] => rfl
  | x :: xs => by simp [blsOf, bls_map xs]
@[simp] theorem d_sum {xs : List Int} : sumD [.lst (xs.map .int)] = .ok (.int xs.sum) := by
  show (match intsOf (xs.map .int) with | some ns => R.ok (D.int ns.sum) | none => .stk) = _
  rw [ints_map]
@[simp] theorem d_all {xs : List Bool} : allD [.lst (xs.map .bl)] = .ok (.bl (xs.all id)) := by
  show (match blsOf (xs.map .bl) with | some ns => R.ok (D.bl (ns.all id)) | none => .stk) = _
  rw [bls_map]
@[simp] theorem d_isNon {x : D} : isNon .non = true := id rfl
theorem szOk_of {n : Nat} (h : n ≤ 16777216) : szOk n = true := decide_eq_true (show n ≤ sizeLine from by unfold sizeLine; omega)
theorem smallPos_of {j : Int} (h : 0 < j) (h2 : j < 1073741824) : smallPos j = true := decide_eq_true ⟨h, h2⟩
theorem rngOk_of {j : Int} (h : -4611686018427387904 ≤ j) (h2 : j < 4611686018427387904) : rngOk j = true := decide_eq_true ⟨by omega, by omega⟩
theorem mulOk_l {i j : Int} (h : i.natAbs < 2 ^ 64) : mulOk i j = true := by
  unfold mulOk
  rw [decide_eq_true h]
  rfl
theorem mulOk_r {i j : Int} (h : j.natAbs < 2 ^ 64) : mulOk i j = true := by
  unfold mulOk
  rw [decide_eq_true h]
  simp
theorem shOk_of {i j : Int} (h : 0 ≤ j) (h2 : j ≤ 1000000) (h3 : i.natAbs < 2 ^ 64) : shOk i j = true := decide_eq_true ⟨h, h2, h3⟩
@[simp] theorem sz0 : szOk 0 = true := by decide
@[simp] theorem sz1 : szOk 1 = true := by decide
@[simp] theorem sz2 : szOk 2 = true := by decide
@[simp] theorem sz3 : szOk 3 = true := by decide
theorem atI_of {α : Type} {xs : List α} {i : Int} {j : Nat} {x : α} (hi : i = j) (h : xs[j]? = some x) : atI xs i = some x := by
  have hj : j < xs.length := (List.getElem?_eq_some_iff.mp h).1
  unfold atI ixN
  subst hi
  rw [if_pos (by omega), if_pos (by omega)]
  show xs[(j : Int).toNat]? = some x
  rw [Int.toNat_natCast, h]
theorem atI_lt {α : Type} {xs : List α} {i : Int} (h0 : 0 ≤ i) (h : i < xs.length) : atI xs i = some (xs[i.toNat]'(by omega)) :=
  atI_of (j := i.toNat) (by omega) (List.getElem?_eq_getElem (by omega))
def eqPs : List D → List D → Bool
  | [], [] => true
  | x :: xs, y :: ys => eqP x y && eqPs xs ys
  | _, _ => false
theorem eqPs_py : ∀ xs ys : List D, PyData.eqvAll (toPys xs) (toPys ys) = eqPs xs ys
  | [], [] => by simp [toPys, PyData.eqvAll, eqPs]
  | [], _ :: _ => by simp [toPys, PyData.eqvAll, eqPs]
  | _ :: _, [] => by simp [toPys, PyData.eqvAll, eqPs]
  | x :: xs, y :: ys => by simp [toPys, PyData.eqvAll, eqPs, eqP, eqPs_py xs ys]
@[simp] theorem eqP_int {i j : Int} : eqP (.int i) (.int j) = (i == j) := by simp [eqP, toPy, PyData.eqv]
@[simp] theorem eqP_bl {i j : Bool} : eqP (.bl i) (.bl j) = (i == j) := by simp [eqP, toPy, PyData.eqv]
@[simp] theorem eqP_str {i j : Str} : eqP (.str i) (.str j) = (i == j) := by simp [eqP, toPy, PyData.eqv]
@[simp] theorem eqP_tup {xs ys : List D} : eqP (.tup xs) (.tup ys) = eqPs xs ys := by simp [eqP, toPy, PyData.eqv, eqPs_py]
@[simp] theorem eqP_lst {xs ys : List D} : eqP (.lst xs) (.lst ys) = eqPs xs ys := by simp [eqP, toPy, PyData.eqv, eqPs_py]
@[simp] theorem eqPs_ints : ∀ {xs ys : List Int}, eqPs (xs.map .int) (ys.map .int) = decide (xs = ys)
  | [], [] => by simp [eqPs]
  | [], _ :: _ => by simp [eqPs]
  | _ :: _, [] => by simp [eqPs]
  | x :: xs, y :: ys => by
    have ih := eqPs_ints (xs := xs) (ys := ys)
    simp only [List.map_cons, eqPs, eqP_int, ih, List.cons.injEq]
    by_cases h : x = y <;> simp [h]
/-- a depth that the machine bears; no dict; texts that it bears -/
def Fit : Nat → D → Prop
  | _, .non => True
  | _, .bl _ => True
  | _, .int _ => True
  | _, .str x => PyData.strOk x = true
  | n + 1, .tup ds => ∀ d ∈ ds, Fit n d
  | n + 1, .lst ds => ∀ d ∈ ds, Fit n d
  | n + 1, .ftu ds => ∀ d ∈ ds, Fit n d
  | _, _ => False
theorem fits_py {n : Nat} : ∀ {ds : List D}, (∀ d ∈ ds, (toPy d).canLay0 = true ∧ (toPy d).depth ≤ n) → PyData.canLayAll0 (toPys ds) = true ∧ PyData.depthAll (toPys ds) ≤ n
  | [], _ => by simp [toPys, PyData.canLayAll0, PyData.depthAll]
  | d :: ds, h => by
    have h1 := h d (by simp)
    have h2 := fits_py (ds := ds) fun e he => h e (by simp [he])
    simp only [toPys, PyData.canLayAll0, PyData.depthAll, h1.1, h2.1, Bool.and_self, true_and]
    omega
theorem fit_py : ∀ {n : Nat} {d : D}, Fit n d → (toPy d).canLay0 = true ∧ (toPy d).depth ≤ n
  | n, .non, _ => by simp [toPy, PyData.canLay0, PyData.depth]
  | n, .bl _, _ => by simp [toPy, PyData.canLay0, PyData.depth]
  | n, .int _, _ => by simp [toPy, PyData.canLay0, PyData.depth]
  | n, .str x, h => by
    have h : PyData.strOk x = true := by cases n <;> exact h
    simp [toPy, PyData.canLay0, PyData.depth, h]
  | 0, .tup ds, h => h.elim
  | 0, .lst ds, h => h.elim
  | n + 1, .tup ds, h => by
    have h : ∀ d ∈ ds, Fit n d := h
    have := fits_py fun d hd => fit_py (h d hd)
    simp only [toPy, PyData.canLay0, PyData.depth, this.1, true_and]
    omega
  | n + 1, .lst ds, h => by
    have h : ∀ d ∈ ds, Fit n d := h
    have := fits_py fun d hd => fit_py (h d hd)
    simp only [toPy, PyData.canLay0, PyData.depth, this.1, true_and]
    omega
  | 0, .ftu ds, h => h.elim
  | n + 1, .ftu ds, h => by
    have h : ∀ d ∈ ds, Fit n d := h
    have := fits_py fun d hd => fit_py (h d hd)
    simp only [toPy, PyData.canLay0, PyData.depth, this.1, true_and]
    omega
  | n, .arg _, h => by cases n <;> exact h.elim
  | n, .dik _ _, h => by cases n <;> exact h.elim
  | n, .dit _ _, h => by cases n <;> exact h.elim
theorem dOk_fit {n : Nat} {d : D} (h : Fit n d) (hn : n ≤ 64 := by decide) : dOk d = true := by
  have := fit_py h
  unfold dOk SeqAt.shaped
  rw [this.1, decide_eq_true (by omega)]
  rfl
theorem fit_bl {n : Nat} {i : Bool} : Fit n (.bl i) := by cases n <;> trivial
theorem eqD_of {n : Nat} {x y : D} (hx : Fit n x) (hy : Fit n y) (hn : n ≤ 64 := by decide) : eqD x y = .ok (.bl (eqP x y)) := by
  unfold eqD
  rw [dOk_fit hx hn, dOk_fit hy hn]
  rfl
theorem neD_of {n : Nat} {x y : D} (hx : Fit n x) (hy : Fit n y) (hn : n ≤ 64 := by decide) : neD x y = .ok (.bl (!eqP x y)) := by
  unfold neD
  rw [dOk_fit hx hn, dOk_fit hy hn]
  rfl
@[simp] theorem eqD_int {i j : Int} : eqD (.int i) (.int j) = .ok (.bl (decide (i = j))) := by
  rw [eqD_of (n := 0) (by unfold Fit; trivial) (by unfold Fit; trivial), eqP_int]
  by_cases h : i = j <;> simp [h]
@[simp] theorem neD_int {i j : Int} : neD (.int i) (.int j) = .ok (.bl (!decide (i = j))) := by
  rw [neD_of (n := 0) (by unfold Fit; trivial) (by unfold Fit; trivial), eqP_int]
  by_cases h : i = j <;> simp [h]
theorem eqPs_refl : ∀ {ds : List D}, (∀ d ∈ ds, eqP d d = true) → eqPs ds ds = true
  | [], _ => rfl
  | d :: ds, h => by simp [eqPs, h d (by simp), eqPs_refl (ds := ds) fun e he => h e (by simp [he])]
theorem eqP_refl : ∀ {n : Nat} {d : D}, Fit n d → eqP d d = true
  | n, .non, _ => by simp [eqP, toPy, PyData.eqv]
  | n, .bl _, _ => by simp
  | n, .int _, _ => by simp
  | n, .str x, h => by simp
  | 0, .tup ds, h => h.elim
  | 0, .lst ds, h => h.elim
  | n + 1, .tup ds, h => by
    have h : ∀ d ∈ ds, Fit n d := h
    rw [eqP_tup]
    exact eqPs_refl fun d hd => eqP_refl (h d hd)
  | n + 1, .lst ds, h => by
    have h : ∀ d ∈ ds, Fit n d := h
    rw [eqP_lst]
    exact eqPs_refl fun d hd => eqP_refl (h d hd)
  | 0, .ftu ds, h => h.elim
  | n + 1, .ftu ds, h => by
    have h : ∀ d ∈ ds, Fit n d := h
    rw [show eqP (.ftu ds) (.ftu ds) = eqPs ds ds from eqP_tup]
    exact eqPs_refl fun d hd => eqP_refl (h d hd)
  | n, .arg _, h => by cases n <;> exact h.elim
  | n, .dik _ _, h => by cases n <;> exact h.elim
  | n, .dit _ _, h => by cases n <;> exact h.elim
theorem neD_refl {n : Nat} {x : D} (hx : Fit n x) (hn : n ≤ 64 := by decide) : neD x x = .ok (.bl false) := by rw [neD_of hx hx hn, eqP_refl hx]; rfl
def ChkL (O W : List Nat) : Nat → Env → Env → Prop
  | _, _, [] => True
  | j, x :: xs, y :: ys => (y = none ∨ (y = x ∧ j ∉ W) ∨ (∃ d, y = some d ∧ ((j ∈ O ∧ d.shallow = true) ∨ d.nl = true))) ∧ ChkL O W (j + 1) xs ys
  | _, [], _ :: _ => False
theorem ChkL.at {O W : List Nat} : ∀ {ρ ρ' : Env} {k j : Nat} {d : D}, ChkL O W k ρ ρ' → ρ'[j]? = some (some d) → (ρ[j]? = some (some d) ∧ k + j ∉ W) ∨ (k + j ∈ O ∧ d.shallow = true) ∨ d.nl = true
  | _, [], _, _, _, _, e => by simp at e
  | [], _ :: _, _, _, _, h, _ => h.elim
  | x :: xs, y :: ys, k, 0, d, h, e => by
    simp at e
    subst e
    rcases h.1 with h | ⟨h, w⟩ | ⟨d', h, w⟩
    · cases h
    · exact .inl ⟨by simp [h], w⟩
    · cases h; exact .inr w
  | x :: xs, y :: ys, k, j + 1, d, h, e => by
    have := ChkL.at (j := j) h.2 (by simpa using e)
    rw [show k + (j + 1) = k + 1 + j by omega]
    simpa using this
theorem chkO_of {O W : List Nat} {ρ ρ' : Env} (h : ChkL O W 0 ρ ρ') : chkO O W ρ ρ' = .ok () := by
  unfold chkO
  rw [if_pos]
  intro j d e
  have := h.at e
  rwa [Nat.zero_add] at this
@[simp] theorem e_wsf {d : D} : Hd.ws (.fr d) = [] := id rfl
@[simp] theorem e_wsv {d : D} : Hd.ws (.vl d) = [] := id rfl
@[simp] theorem e_wso {i : Nat} : Hd.ws (.ow i) = [i] := id rfl
def shAt (i : Nat) (ρ : Y.Env) : Bool := match ρ[i]? with | some (some d) => d.shallow | _ => true
@[simp] theorem chkO_w1 {O : List Nat} {i : Nat} {ρ : Y.Env} (hi : i ∈ O) (h : shAt i ρ = true) : chkO O [i] ρ ρ = .ok () := by
  unfold chkO
  rw [if_pos]
  intro j d e
  by_cases c : j = i
  · subst c
    unfold shAt at h
    rw [e] at h
    exact .inr (.inl ⟨hi, h⟩)
  · exact .inl ⟨e, by simpa using c⟩
@[simp] theorem shL {ds : List D} : D.shallow (.lst ds) = nls ds := id rfl
@[simp] theorem nls0 : nls [] = true := by simp [nls]
@[simp] theorem nls1 {d : D} {ds : List D} : nls (d :: ds) = (d.nl && nls ds) := by simp [nls]
@[simp] theorem nlI {i : Int} : D.nl (.int i) = true := by simp [D.nl]
@[simp] theorem nlB {i : Bool} : D.nl (.bl i) = true := by simp [D.nl]
@[simp] theorem nlS {i : Str} : D.nl (.str i) = true := by simp [D.nl]
@[simp] theorem nlN : D.nl .non = true := by simp [D.nl]
@[simp] theorem nlT {ds : List D} : D.nl (.tup ds) = nls ds := by simp [D.nl]
@[simp] theorem owL {ds : List D} : D.ownable (.lst ds) = true := id rfl
theorem nls_all : ∀ {ds : List D}, (∀ d ∈ ds, d.nl = true) → nls ds = true
  | [], _ => by simp
  | d :: ds, h => by simp [h d (by simp), nls_all fun e he => h e (List.mem_cons_of_mem _ he)]
@[simp] theorem nls_ints {xs : List Int} : nls (xs.map D.int) = true := nls_all fun d h => by
  obtain ⟨x, _, rfl⟩ := List.mem_map.mp h
  simp
/-- one turn of a comprehension; of a for -/
def turnC (tm : GM) (t : BM) (e : EM) (vs : List Nat) (x : D) (ρ : Env) : R (Option D × Env) :=
  tm x ρ >>= fun ρ1 => t ρ1 >>= fun p => if p.1 = true then (e p.2 >>= fun q => q.1.v >>= fun d => R.ok (some d, wipeE q.2 vs)) else R.ok (none, wipeE p.2 vs)
def turnF (tm : GM) (body : SM) (vs : List Nat) (x : D) (ρ : Env) : R (Fl × Env) :=
  (tm x ρ).nox >>= fun ρ1 => body ρ1 >>= fun p => match p.1 with | .nx => R.ok (.nx, wipeE p.2 vs) | .ct => R.ok (.nx, wipeE p.2 vs) | f => R.ok (f, p.2)
theorem comp_cons {tm : GM} {t : BM} {e : EM} {vs ws : List Nat} {x : D} {xs ys : List D} {ρ ρ' ρf : Env} {o : Option D} (h : turnC tm t e vs x ρ = .ok (o, ρ')) (hw : ∀ w ∈ ws, ρ'[w]? = ρ[w]?) (h2 : cCompL tm t e vs ws xs ρ' = .ok (ys, ρf)) : cCompL tm t e vs ws (x :: xs) ρ = .ok (o.toList ++ ys, ρf) := by
  have ck : chk ws ρ ρ' = .ok () := by unfold chk; rw [if_pos hw]
  unfold turnC at h
  obtain ⟨ρ1, e1, h⟩ := R.ok_of h
  obtain ⟨⟨k, ρ2⟩, e3, h⟩ := R.ok_of h
  unfold cCompL
  rw [e1]
  simp only [R.bind_ok]
  rw [e3]
  cases k with
  | false =>
    have h : R.ok (none, wipeE ρ2 vs) = R.ok (o, ρ') := h
    cases h
    simp only [R.bind_ok, Bool.false_eq_true, if_false]
    rw [ck]
    exact h2
  | true =>
    have h : (e ρ2 >>= fun q => q.1.v >>= fun d => R.ok (some d, wipeE q.2 vs)) = R.ok (o, ρ') := h
    obtain ⟨⟨hd, ρ3⟩, e4, h⟩ := R.ok_of h
    obtain ⟨d, e5, h⟩ := R.ok_of h
    cases h
    simp only [R.bind_ok, if_true]
    rw [e4]
    simp only [R.bind_ok]
    rw [show hd.v = _ from e5]
    simp only [R.bind_ok]
    rw [ck]
    simp only [R.bind_ok]
    rw [h2]
    rfl
theorem for_cons {tm : GM} {body : SM} {vs ws : List Nat} {x : D} {xs : List D} {ρ ρ' : Env} {r : R (Fl × Env)} (h : turnF tm body vs x ρ = .ok (.nx, ρ')) (hw : ∀ w ∈ ws, ρ'[w]? = ρ[w]?) (h2 : forL tm body vs ws xs ρ' = r) : forL tm body vs ws (x :: xs) ρ = r := by
  have ck : chk ws ρ ρ' = .ok () := by unfold chk; rw [if_pos hw]
  unfold turnF at h
  obtain ⟨ρ1, e1, h⟩ := R.ok_of h
  obtain ⟨⟨f, ρ2⟩, e3, h⟩ := R.ok_of h
  unfold forL
  rw [e1]
  simp only [R.bind_ok]
  rw [e3]
  cases f with
  | nx =>
    have h : R.ok (Fl.nx, wipeE ρ2 vs) = R.ok (Fl.nx, ρ') := h
    cases h
    simp only [R.bind_ok]
    rw [ck]
    exact h2
  | ct =>
    have h : R.ok (Fl.nx, wipeE ρ2 vs) = R.ok (Fl.nx, ρ') := h
    cases h
    simp only [R.bind_ok]
    rw [ck]
    exact h2
  | bk => cases h
  | rt _ => cases h
/-- the loop ends in this turn -/
theorem for_rt {tm : GM} {body : SM} {vs ws : List Nat} {x : D} {xs : List D} {ρ ρ' : Env} {hd : Hd} (h : turnF tm body vs x ρ = .ok (.rt hd, ρ')) : forL tm body vs ws (x :: xs) ρ = .ok (.rt hd, ρ') := by
  unfold turnF at h
  obtain ⟨ρ1, e1, h⟩ := R.ok_of h
  obtain ⟨⟨f, ρ2⟩, e3, h⟩ := R.ok_of h
  unfold forL
  rw [e1]
  simp only [R.bind_ok]
  rw [e3]
  cases f with
  | nx => cases h
  | ct => cases h
  | bk => cases h
  | rt _ => cases h; rfl
section
variable {α : Type}
/-- the yields of a comprehension and the state behind it -/
def yields {S : Type} (next : S → α → S) (out : S → α → Option D) : List α → S → List D × S
  | [], s => ([], s)
  | x :: xs, s => ((out s x).toList ++ (yields next out xs (next s x)).1, (yields next out xs (next s x)).2)
/-- a comprehension that changes nothing: f is what it yields -/
theorem comp_map {tm : GM} {t : BM} {e : EM} {vs ws : List Nat} {ρ : Env} (F f : α → D) : ∀ (xs : List α),
    (∀ x ∈ xs, turnC tm t e vs (F x) ρ = .ok (some (f x), ρ)) → cCompL tm t e vs ws (xs.map F) ρ = .ok (xs.map f, ρ)
  | [], _ => rfl
  | x :: xs, h => comp_cons (h x (by simp)) (fun _ _ => rfl) (comp_map F f xs fun y hy => h y (by simp [hy]))
/-- .. with a test p, yields f -/
theorem comp_filter {tm : GM} {t : BM} {e : EM} {vs ws : List Nat} {ρ : Env} (F : α → D) (p : α → Bool) (f : α → D) : ∀ (xs : List α),
    (∀ x ∈ xs, turnC tm t e vs (F x) ρ = .ok (if p x = true then some (f x) else none, ρ)) → cCompL tm t e vs ws (xs.map F) ρ = .ok ((xs.filter p).map f, ρ)
  | [], _ => rfl
  | x :: xs, h => by
    have := comp_cons (ws := ws) (h x (by simp)) (fun _ _ => rfl) (comp_filter F p f xs fun y hy => h y (by simp [hy]))
    rw [List.map_cons, this]
    cases hp : p x with
    | false => rw [List.filter_cons_of_neg (by simp [hp])]; rfl
    | true => rw [List.filter_cons_of_pos hp]; rfl
/-- for: states -/
theorem for_run {S : Type} {tm : GM} {body : SM} {vs ws : List Nat} (F : α → D) (rho : S → Env) (next : S → α → S) (I : S → Prop) : ∀ (xs : List α) (s : S), I s →
    (∀ s x, I s → x ∈ xs → I (next s x) ∧ (∀ w ∈ ws, (rho (next s x))[w]? = (rho s)[w]?) ∧ turnF tm body vs (F x) (rho s) = .ok (.nx, rho (next s x))) →
    forL tm body vs ws (xs.map F) (rho s) = .ok (.nx, rho (xs.foldl next s)) ∧ I (xs.foldl next s)
  | [], s, hs, _ => ⟨rfl, hs⟩
  | x :: xs, s, hs, h => by
    obtain ⟨h1, hw, h2⟩ := h s x hs (by simp)
    have ih := for_run F rho next I xs (next s x) h1 fun s y hs hy => h s y hs (by simp [hy])
    exact ⟨for_cons h2 hw ih.1, ih.2⟩
/-- for: something that holds of what stands -/
theorem for_inv {tm : GM} {body : SM} {vs ws : List Nat} (F : α → D) (I : Env → Prop) : ∀ (xs : List α) (ρ : Env), I ρ →
    (∀ ρ x, I ρ → x ∈ xs → ∃ ρ', turnF tm body vs (F x) ρ = .ok (.nx, ρ') ∧ I ρ' ∧ (∀ w ∈ ws, ρ'[w]? = ρ[w]?)) →
    ∃ ρ', forL tm body vs ws (xs.map F) ρ = .ok (.nx, ρ') ∧ I ρ'
  | [], ρ, hs, _ => ⟨ρ, rfl, hs⟩
  | x :: xs, ρ, hs, h => by
    obtain ⟨ρ1, e1, e3, hw⟩ := h ρ x hs (by simp)
    obtain ⟨ρ', e4, h4⟩ := for_inv (body := body) (tm := tm) (ws := ws) F I xs ρ1 e3 fun s y hs hy => h s y hs (by simp [hy])
    exact ⟨ρ', for_cons e1 hw e4, h4⟩
/-- for: by the turn's number -/
theorem for_idx {tm : GM} {body : SM} {vs ws : List Nat} (F : α → D) : ∀ (xs : List α) (rho : Nat → Env),
    (∀ i (h : i < xs.length), (∀ w ∈ ws, (rho (i + 1))[w]? = (rho i)[w]?) ∧ turnF tm body vs (F xs[i]) (rho i) = .ok (.nx, rho (i + 1))) → forL tm body vs ws (xs.map F) (rho 0) = .ok (.nx, rho xs.length)
  | [], rho, _ => rfl
  | x :: xs, rho, h => by
    have h0 := h 0 (by simp)
    have ih := for_idx F xs (fun i => rho (i + 1)) fun i hi => h (i + 1) (by simp; omega)
    exact for_cons h0.2 h0.1 ih
theorem for_rng {tm : GM} {body : SM} {vs ws : List Nat} {n : Nat} (F : Nat → D) (rho : Nat → Env) (h : ∀ i, i < n → (∀ w ∈ ws, (rho (i + 1))[w]? = (rho i)[w]?) ∧ turnF tm body vs (F i) (rho i) = .ok (.nx, rho (i + 1))) : forL tm body vs ws ((List.range n).map F) (rho 0) = .ok (.nx, rho n) := by
  have := for_idx (tm := tm) (body := body) (vs := vs) (ws := ws) F (List.range n) rho fun i hi => by
    rw [List.getElem_range]
    exact h i (by simpa using hi)
  rwa [List.length_range] at this
/-- a comprehension whose turns change what stands: something of each yield -/
theorem comp_ex {S β : Type} {tm : GM} {t : BM} {e : EM} {vs ws : List Nat} (F : α → D) (G : β → D) (rho : S → Env) (P : β → Prop) : ∀ (xs : List α) (s : S),
    (∀ s x, x ∈ xs → ∃ y s', turnC tm t e vs (F x) (rho s) = .ok (some (G y), rho s') ∧ P y ∧ (∀ w ∈ ws, (rho s')[w]? = (rho s)[w]?)) →
    ∃ (ys : List β) (s' : S), cCompL tm t e vs ws (xs.map F) (rho s) = .ok (ys.map G, rho s') ∧ ys.length = xs.length ∧ ∀ y ∈ ys, P y
  | [], s, _ => ⟨[], s, rfl, rfl, by simp⟩
  | x :: xs, s, h => by
    obtain ⟨y, s1, e1, p1, w1⟩ := h s x (by simp)
    obtain ⟨ys, s2, e2, l2, p2⟩ := comp_ex F G rho P xs s1 fun s y hy => h s y (by simp [hy])
    exact ⟨y :: ys, s2, comp_cons e1 w1 e2, by simp [l2], by simpa using ⟨p1, p2⟩⟩
theorem comp_exF {S : Type} {tm : GM} {t : BM} {e : EM} {vs ws : List Nat} (F G : α → D) (rho : S → Env) : ∀ (xs : List α) (s : S),
    (∀ s x, x ∈ xs → ∃ b s', turnC tm t e vs (F x) (rho s) = .ok (if b = true then some (G x) else none, rho s') ∧ (∀ w ∈ ws, (rho s')[w]? = (rho s)[w]?)) →
    ∃ (ys : List α) (s' : S), cCompL tm t e vs ws (xs.map F) (rho s) = .ok (ys.map G, rho s') ∧ ys.Sublist xs
  | [], s, _ => ⟨[], s, rfl, List.Sublist.slnil⟩
  | x :: xs, s, h => by
    obtain ⟨b, s1, e1, w1⟩ := h s x (by simp)
    obtain ⟨ys, s2, e2, l2⟩ := comp_exF F G rho xs s1 fun s y hy => h s y (by simp [hy])
    have := comp_cons e1 w1 e2
    cases b with
    | true => exact ⟨x :: ys, s2, this, l2.cons₂ x⟩
    | false => exact ⟨ys, s2, this, l2.cons x⟩
end
end Y

set_option Elab.async false
set_option linter.all false
set_option maxRecDepth 100000
namespace Y
open PySem PySem.Spec PyProof.Rows L2
section
variable {K : PySem.W.Frag} {X : Cx} {P0 : Pr} {O W U : List Nat} {E : EK} {a b e : Expr} {es : List Expr} {ma mb : EM} {ms : AM} {pos : Pos}
def sortI (ns : List Int) : List Int := ns.mergeSort (fun a b => decide (a ≤ b))
theorem sortI_perm (ns : List Int) : (sortI ns).Perm ns := List.mergeSort_perm _ _
theorem sortI_pw (ns : List Int) : (sortI ns).Pairwise (· ≤ ·) := by
  have := List.pairwise_mergeSort (le := fun a b : Int => decide (a ≤ b)) (fun a b c h1 h2 => by simp at *; omega) (fun a b => by simp; omega) ns
  exact this.imp fun h => by simpa using h
theorem Keep.ownW {i : Nat} {l : Addr} {o : HO} {σ : St} {H H1 : Hp} (k : Keep W σ H H1) (hi : i ∈ W) (ha : σ[i]? = Option.some (Option.some (V.ref l))) : Keep W σ H (upd H1 l o) where
  keep := fun b u e n => by
    rw [upd_ne fun (z : b = l) => n ⟨i, hi, by rw [z]; exact ha⟩]
    exact k.keep b u e n
  some := fun b e => by
    by_cases hb : b = l
    · rw [hb, upd_same]; intro z; cases z
    · rw [upd_ne hb]; exact k.some b e
theorem Reps.erase {H : Hp} {P : Pr} : ∀ {ds : List D} {vs : List V} (k : Nat), Reps K H ds P vs → Reps K H (ds.eraseIdx k) P (vs.eraseIdx k)
  | [], _, k, h => by rw [h.nil_iff]; simp; exact Reps.nil
  | d :: ds, _, 0, h => by
    obtain ⟨v, ws, rfl, h1, h2⟩ := h.cons_iff
    exact h2
  | d :: ds, _, k + 1, h => by
    obtain ⟨v, ws, rfl, h1, h2⟩ := h.cons_iff
    exact Reps.cons h1 (Reps.erase k h2)
end
end Y

set_option Elab.async false
set_option linter.all false
set_option maxRecDepth 100000
set_option maxHeartbeats 4000000
namespace Y
open PySem PySem.Spec PyProof.Rows L2
def TupV (h : Heap) (v : Value) (ns : List Int) : Prop := ∃ a o its n, v = .ref a ∧ h.get? a = some o ∧ o.cls = .type "tuple" ∧ o.data = .seq its n ∧ IntsAre its.toList ns
theorem TupV.at {h g : Heap} {v : Value} {ns : List Int} (p : TupV h v ns) (k : ∀ b o, h.get? b = some o → o.cls = .type "tuple" → g.get? b = some o) : TupV g v ns :=
  let ⟨a, o, its, n, e, ho, c, d, i⟩ := p
  ⟨a, o, its, n, e, k _ _ ho c, c, d, i⟩
section
variable {prog : Program} {w : World} {A : Around} {E : Value → Shared → Prop} {s : Shared}
end
section
variable {X : Cx}
end
end Y

set_option Elab.async false
set_option linter.all false
set_option maxRecDepth 100000
namespace Y
open PySem PySem.Spec PyProof.Rows L2
section
variable {K : PySem.W.Frag} {X : Cx}
end
end Y

set_option Elab.async false
set_option linter.all false
set_option maxRecDepth 100000
namespace Y
open PySem PySem.Spec PyProof.Rows L2
def whileN (t : BM) (body : SM) (vs : List Nat) : Nat → Y.Env → R (Fl × Y.Env)
  | 0, _ => .stk
  | n + 1, ρ => do
    let (k, ρ1) ← t ρ
    if k = true then do
      let (f, ρ2) ← body ρ1
      match f with
      | .bk => pure (.nx, ρ2)
      | .rt h => pure (.rt h, ρ2)
      | _ => whileN t body vs n (wipeE ρ2 vs)
    else pure (.nx, ρ1)
open Classical in
noncomputable def sWhile (t : BM) (body : SM) (vs : List Nat) : SM := fun ρ => if h : ∃ n, whileN t body vs n ρ ≠ .stk then whileN t body vs h.choose ρ else .stk
theorem whileN_up {t : BM} {body : SM} {vs : List Nat} : ∀ {n : Nat} {ρ : Y.Env}, whileN t body vs n ρ ≠ .stk → whileN t body vs (n + 1) ρ = whileN t body vs n ρ
  | 0, ρ, h => absurd rfl h
  | n + 1, ρ, h => by
    unfold whileN at h
    conv => lhs; unfold whileN
    conv => rhs; unfold whileN
    cases e : t ρ with
    | stk => rfl
    | er c ds => rfl
    | ok p =>
      obtain ⟨k, ρ1⟩ := p
      rw [e] at h
      simp only [R.bind_ok] at h ⊢
      cases k with
      | false => rfl
      | true =>
        simp only [if_true] at h ⊢
        cases e2 : body ρ1 with
        | stk => rfl
        | er c ds => rfl
        | ok q =>
          obtain ⟨f, ρ2⟩ := q
          rw [e2] at h
          simp only [R.bind_ok] at h ⊢
          cases f with
          | bk => rfl
          | rt _ => rfl
          | nx => exact whileN_up h
          | ct => exact whileN_up h
theorem whileN_le {t : BM} {body : SM} {vs : List Nat} {n : Nat} {ρ : Y.Env} (h : whileN t body vs n ρ ≠ .stk) : ∀ m, whileN t body vs (n + m) ρ = whileN t body vs n ρ
  | 0 => rfl
  | m + 1 => by
    have ih := whileN_le h m
    rw [← Nat.add_assoc, whileN_up (by rw [ih]; exact h), ih]
/-- a run of so many turns tells what the loop yields -/
theorem sWhile_of {t : BM} {body : SM} {vs : List Nat} {n : Nat} {ρ : Y.Env} {a : Fl × Y.Env} (h : whileN t body vs n ρ = .ok a) : sWhile t body vs ρ = .ok a := by
  have hx : ∃ n, whileN t body vs n ρ ≠ .stk := ⟨n, by rw [h]; intro z; cases z⟩
  unfold sWhile
  rw [dif_pos hx]
  have h2 := hx.choose_spec
  rcases Nat.le_total n hx.choose with l | l
  · obtain ⟨m, e⟩ := Nat.exists_eq_add_of_le l
    rw [e, whileN_le (by rw [h]; intro z; cases z), h]
  · obtain ⟨m, e⟩ := Nat.exists_eq_add_of_le l
    rw [← whileN_le h2 m, ← e, h]
section
variable {X : Cx} {P0 : Pr} {O W U : List Nat} {E : EK} {c : Expr} {pos : Pos} {m : SM}
theorem cs_while {t : BM} {vs : List Nat} {xs : List Stmt} (hp : PassesOwn (model X.prog X.w) X.A X.env X.xe) (hc : CT X P0 O W E c t) (hb : CSs X P0 O W U E xs m) : CS X P0 O W U E (.While c xs [] pos) (sWhile t m vs) := PS.imp (ps_while hp hc hb) fun D σ H ⟨ρ, S, h⟩ => by
  let Post : Fl × Y.Env → Prop := fun a => ∀ σ' H', Sim X.K P0 O W a.2 σ' H' → Tr O U σ H σ' H' → σ'.length = σ.length → Fin X.K P0 O H D σ' H' a.1
  have h : Res E O σ H (sWhile t m vs ρ) Post := h
  unfold sWhile at h
  by_cases hx : ∃ n, whileN t m vs n ρ ≠ .stk
  · rw [dif_pos hx] at h
    refine ⟨fun k σx Hx => ∃ ρx, Sim X.K P0 O W ρx σx Hx ∧ Tr O U σ H σx Hx ∧ σx.length = σ.length ∧ Res E O σx Hx (whileN t m vs k ρx) Post, ⟨_, ρ, S, .refl, rfl, h⟩, ?_⟩
    rintro k σx Hx ⟨ρx, Sx, tx, lx, qx⟩
    cases k with
    | zero => exact qx.elim
    | succ k =>
      unfold whileN at qx
      refine ⟨ρx, Sx, (qx.of_bind.down Sx.sub).mono fun ⟨b, ρ1⟩ q1 H1 S1 k1 => ?_⟩
      have t1 : Tr O U σx Hx σx H1 := Tr.of Sx.sub k1
      cases b with
      | false =>
        refine (if_neg Bool.false_ne_true).mpr ?_
        exact q1 σx H1 S1 (tx.trans t1) lx
      | true =>
        refine (if_pos rfl).mpr ⟨fun σ' H' => ∃ ρ', Sim X.K P0 O W ρ' σ' H' ∧ Tr O U σ H σ' H' ∧ σ'.length = σ.length ∧ Res E O σ' H' (whileN t m vs k ρ') Post, fun σ' H' n => ⟨k, Nat.lt_succ_self k, n⟩, ρ1, S1, ?_⟩
        have q1 : Res E O σx Hx (m ρ1 >>= fun p => match p.1 with | .bk => pure (.nx, p.2) | .rt h => pure (.rt h, p.2) | _ => whileN t m vs k (wipeE p.2 vs)) Post := q1
        refine (Res.keepT q1.of_bind t1).mono fun ⟨f, ρ2⟩ q2 σ3 H3 S3 t3 l3 => ?_
        have t4 : Tr O U σx Hx σ3 H3 := t1.trans t3
        have t5 : Tr O U σ H σ3 H3 := tx.trans t4
        have l5 : σ3.length = σ.length := l3.trans lx
        cases f with
        | nx => exact ⟨wipeE ρ2 vs, S3.wipe vs, t5, l5, Res.keepT q2 t4⟩
        | ct => exact ⟨wipeE ρ2 vs, S3.wipe vs, t5, l5, Res.keepT q2 t4⟩
        | bk => exact q2 σ3 H3 S3 t5 l5
        | rt hd =>
          intro v r
          exact q2 σ3 H3 S3 t5 l5 v (r.back fun b e => (tx.trans t1).some b e)
  · rw [dif_neg hx] at h
    exact h.elim
end
end Y

set_option Elab.async false
set_option linter.all false
set_option maxRecDepth 100000
namespace Y
open PySem PySem.Spec PyProof.Rows L2
section
variable {X : Cx} {P0 : Pr} {O W U : List Nat} {E : EK} {a e : Expr} {ma mb : EM} {pos : Pos}
def joinD : D → D → R D
  | .str a, .lst ds => match strsOf ds with
    | some ys => if (ys.map (·.length)).sum + ys.length * a.length ≤ 16777216 then .ok (.str (Txt.join a ys)) else .stk
    | none => .stk
  | .str a, .tup ds => match strsOf ds with
    | some ys => if (ys.map (·.length)).sum + ys.length * a.length ≤ 16777216 then .ok (.str (Txt.join a ys)) else .stk
    | none => .stk
  | _, _ => .stk
def cJoin (a b : EM) : EM := fun ρ => do
  let (h1, ρ1) ← a ρ
  let x ← h1.v.nox
  match x with
  | .str s => do
    let (h2, ρ2) ← b ρ1
    let y ← (h2.d ρ2).nox
    let z ← (joinD (.str s) y).nox
    pure (.fr z, ρ2)
  | _ => .stk
theorem ce_join {apos : Pos} (ha : CEx X P0 O W E a ma) (hb : CEx X P0 O W E e mb) (hs : starEach [e] X.env = [(false, eval e X.env)] := by rfl) (hbase : attributeBase a "join" X.env (eval a X.env) = eval a X.env := by rfl) (hline : (apos.endLine == pos.line) = true := by rfl) :
    CEx X P0 O W E (.Call (.Attribute a "join" apos) [e] [] pos) (cJoin ma mb) := PE.imp (pe_join ha hb hs hbase hline) fun σ H Q ⟨ρ, S, h⟩ => by
  refine ⟨ρ, S, h.of_bind.mono fun ⟨h1, ρ1⟩ q v H1 S1 k1 r1 => ?_⟩
  obtain ⟨d, e1, q⟩ := q.of_nox
  have rd := r1.v e1
  cases d <;> first | (exact q.elim) | skip
  rename_i s
  unfold Rep at rd
  subst rd
  have q : Res E W σ H (mb ρ1 >>= fun p => (p.1.d p.2).nox >>= fun y => (joinD (.str s) y).nox >>= fun z => R.ok (Hd.fr z, p.2)) _ := q
  refine ⟨⟨s, rfl⟩, ρ1, S1, (q.of_bind.keep k1).mono fun ⟨h2, ρ2⟩ q2 w H2 S2 k2 r2 => ?_⟩
  obtain ⟨y, e2, q2⟩ := q2.of_nox
  obtain ⟨z, e3, q2⟩ := q2.of_nox
  have rw2 := HdR.d S2 r2 e2
  have o := out_of (K := X.K) S2 (k1.trans k2) q2
  unfold joinD at e3
  cases y <;> first | (cases e3; done) | skip
  · rename_i ds
    have rt : Rep X.K H2 (.tup ds) _ w := rw2
    unfold Rep at rt
    obtain ⟨b, ws, rfl, t1, t2⟩ := rt
    simp only at e3
    cases es : strsOf ds with
    | none => rw [es] at e3; cases e3
    | some ys =>
      rw [es] at e3
      simp only at e3
      by_cases c : (ys.map (·.length)).sum + ys.length * s.length ≤ 16777216
      · rw [if_pos c] at e3
        cases e3
        rw [strs_rep es t2] at t1
        exact ⟨s, b, ys, rfl, rfl, .inr (SqT.of t1), c, o.flat (by unfold Rep; rfl) rfl⟩
      · rw [if_neg c] at e3; cases e3
  · rename_i ds
    obtain ⟨b, ws, rfl, t1, t2⟩ := rw2
    simp only at e3
    cases es : strsOf ds with
    | none => rw [es] at e3; cases e3
    | some ys =>
      rw [es] at e3
      simp only at e3
      by_cases c : (ys.map (·.length)).sum + ys.length * s.length ≤ 16777216
      · rw [if_pos c] at e3
        cases e3
        rw [strs_rep es t2] at t1
        exact ⟨s, b, ys, rfl, rfl, .inl (SqL.of t1), c, o.flat (by unfold Rep; rfl) rfl⟩
      · rw [if_neg c] at e3; cases e3
end
end Y

set_option Elab.async false
set_option linter.all false
set_option maxRecDepth 100000
namespace Y
open PySem PySem.Spec PyProof.Rows L2
section
variable {X : Cx} {P0 : Pr} {O W U : List Nat} {E : EK} {e : Expr} {ma : EM} {pos : Pos}
end
variable {ρ : Y.Env}
end Y

set_option Elab.async false
set_option linter.all false
set_option maxRecDepth 100000
namespace Y
open PySem PySem.Spec PyProof.Rows L2
def maxI : Int → List Int → Int
  | n, [] => n
  | n, m :: ms => maxI (max n m) ms
def minI : Int → List Int → Int
  | n, [] => n
  | n, m :: ms => minI (min n m) ms
theorem maxI_mem : ∀ {ms : List Int} {n : Int}, maxI n ms ∈ n :: ms
  | [], n => by simp [maxI]
  | m :: ms, n => by
    have := maxI_mem (ms := ms) (n := max n m)
    rcases List.mem_cons.mp this with e | h
    · rw [maxI, e]
      rcases Int.le_total n m with l | l
      · rw [Int.max_eq_right l]; simp
      · rw [Int.max_eq_left l]; simp
    · rw [maxI]; simp [h]
theorem maxI_le : ∀ {ms : List Int} {n y : Int}, y ∈ n :: ms → y ≤ maxI n ms
  | [], n, y, h => by simp at h; simp [maxI, h]
  | m :: ms, n, y, h => by
    rw [maxI]
    rcases List.mem_cons.mp h with e | h
    · exact Int.le_trans (by rw [e]; exact Int.le_max_left n m) (maxI_le (ms := ms) (n := max n m) (y := max n m) (by simp))
    · rcases List.mem_cons.mp h with e | h
      · exact Int.le_trans (by rw [e]; exact Int.le_max_right n m) (maxI_le (ms := ms) (n := max n m) (y := max n m) (by simp))
      · exact maxI_le (by simp [h])
theorem minI_mem : ∀ {ms : List Int} {n : Int}, minI n ms ∈ n :: ms
  | [], n => by simp [minI]
  | m :: ms, n => by
    have := minI_mem (ms := ms) (n := min n m)
    rcases List.mem_cons.mp this with e | h
    · rw [minI, e]
      rcases Int.le_total n m with l | l
      · rw [Int.min_eq_left l]; simp
      · rw [Int.min_eq_right l]; simp
    · rw [minI]; simp [h]
theorem minI_le : ∀ {ms : List Int} {n y : Int}, y ∈ n :: ms → minI n ms ≤ y
  | [], n, y, h => by simp at h; simp [minI, h]
  | m :: ms, n, y, h => by
    rw [minI]
    rcases List.mem_cons.mp h with e | h
    · exact Int.le_trans (minI_le (ms := ms) (n := min n m) (y := min n m) (by simp)) (by rw [e]; exact Int.min_le_left n m)
    · rcases List.mem_cons.mp h with e | h
      · exact Int.le_trans (minI_le (ms := ms) (n := min n m) (y := min n m) (by simp)) (by rw [e]; exact Int.min_le_right n m)
      · exact minI_le (by simp [h])
section
variable {X : Cx}
end
end Y

set_option Elab.async false
set_option linter.all false
set_option maxRecDepth 100000
namespace Y
open PySem PySem.Spec PyProof.Rows L2
theorem extT_meets (l b : Addr) (xs ys : Array Value) (n k : Nat) (dd : Option Addr) (sl : Array (Option Value)) (c0 : ¬ (!xs.isEmpty && Builtin.List.listTooLong (xs.size + ys.size)) = true) (c1 : xs.size ≤ sizeLine) (c2 : xs.size + ys.size ≤ sizeLine + 1) :
    Meets (Builtin.«list.extend» ⟨[.ref l, .ref b], []⟩) (fun _ R s => s.heap.get? l = some { cls := .type "list", dict := none, data := .seq xs n, slots := #[] } ∧ s.heap.get? b = some { cls := .type "tuple", dict := dd, data := .seq ys k, slots := sl } ∧
      R (.ok (.ret Value.none)) { s with heap := s.heap.update l (Obj.mapSeq fun x => x ++ ys), toks := s.toks }) :=
  .of_wp fun prog w A R s ⟨hl, hb, done⟩ => by
    obtain ⟨hp, g, d, tk, os⟩ := s
    have g1 := AutoSeq1.idx_int
    have g2 := AutoSeq1.sub_tuple_tuple
    have g3 := AutoSeq1.sub_list_list
    have g4 := AutoSeq1.sub_tuple_list
    have g5 := AutoSeq1.sub_list_tuple
    have z : (xs ++ ys).size ≤ sizeLine + 1 := by
      rw [Array.size_append]
      exact c2
    wp_walk using (wpAny_updateSeq hl rfl (hz := c1) (_hz' := z)), wpAny_loadPart' hl, wpAny_loadPart' hb
    exact ⟨_, rfl, done⟩
def rExtendT (K : PySem.W.Frag) : V → List V → Hp → VK → Prop := fun x vs H Q => ∃ l b xs zs, x = .ref l ∧ vs = [.ref b] ∧ H l = some (.lst xs) ∧ SqT K H b zs ∧ xs.length + zs.length ≤ sizeLine ∧ Q .non (upd H l (.lst (xs ++ zs)))
theorem mt_extendT {X : Cx} : MtR X "list.extend" (rExtendT X.K) := by
  intro pins s σ H x vs v us Q I rx rv ⟨l, b, xs, zs, ex, ev, hH, hB, hz, q⟩
  subst ex ev
  cases rx
  obtain ⟨u, rfl, ru⟩ := rv.one
  cases ru
  obtain ⟨z, its, n, r, hl, e⟩ := I.lstM hH
  obtain ⟨its2, r2, ⟨o, e2, ec, k, ed⟩, _⟩ := I.tuple hB
  obtain ⟨cls, dd, data, sl⟩ := o
  simp only at ec ed
  subst ec ed
  have l2 := r2.length
  have sz : its.toArray.size + its2.toArray.size ≤ sizeLine := by simp; omega
  refine call_meets F.slot_list_extend ⟨_, e, rfl⟩ F.entry_list_extend (F.args_list_extend_2 _ _) (extT_meets l b its.toArray its2.toArray n k dd sl (by rw [notLongL sz]; simp) (by simp; omega) (by omega)) ⟨e, e2, ?_⟩
  exact ⟨.non, _, I.lset (its' := its ++ its2) hH e (by simp) (r.append r2) (by rw [List.length_append]; omega), rfl, q⟩
def sExt (i : Nat) (m : EM) : SM := fun ρ => do
  let _ ← (lstAt i ρ).nox
  let (h, ρ1) ← m ρ
  let d ← (h.d ρ1).nox
  let ds ← (lstAt i ρ1).nox
  match d with
  | .lst es => if szOk (ds.length + es.length) = true then pure (.nx, ρ1.set i (some (.lst (ds ++ es)))) else .stk
  | .tup es => if szOk (ds.length + es.length) = true then pure (.nx, ρ1.set i (some (.lst (ds ++ es)))) else .stk
  | _ => .stk
section
variable {K : PySem.W.Frag} {X : Cx} {P0 : Pr} {O W U : List Nat} {E : EK} {e : Expr} {ma : EM} {pos : Pos}
def rExtA (K : PySem.W.Frag) : V → List V → Hp → VK → Prop := fun x vs H Q => rExtend x vs H Q ∨ rExtendT K x vs H Q
theorem mt_extA : MtR X "list.extend" (rExtA X.K) := fun pins s σ H x vs v us Q I rx rv h => h.elim (mt_extend pins s σ H x vs v us Q I rx rv) (mt_extendT pins s σ H x vs v us Q I rx rv)
theorem tM_ext {i : Nat} (hi : i ∈ O) (D : Ends) (σ : St) (H : Hp) (h : tSt K P0 O W U E (sExt i ma) D σ H) : tDrop (tBM K "list" (rExtA K) (tVar i) (tCons (tM K P0 O W E ma) tNil)) D σ H := by
  obtain ⟨ρ, S, h⟩ := h
  obtain ⟨ds0, e0, h⟩ := h.of_nox
  obtain ⟨l, vs0, h1, h2, _⟩ := S.lst hi (lstAt_ok e0)
  refine ⟨.ref l, h1, .inl ⟨rfl, _, SqL.of h2⟩, ρ, S, (h.of_bind.down S.sub).mono fun ⟨hd, ρ1⟩ q v H1 S1 k1 r1 => ?_⟩
  obtain ⟨d, e1, q⟩ := q.of_nox
  obtain ⟨ds, e2, q⟩ := q.of_nox
  obtain ⟨l', vs, h1', h3, h4⟩ := S1.lst hi (lstAt_ok e2)
  rw [h1] at h1'
  cases h1'
  have rd := HdR.d S1 r1 e1
  cases d <;> first | (exact q.elim) | skip
  · rename_i es _
    have rd : Rep K H1 (.tup es) (FA P0 O σ) v := rd
    unfold Rep at rd
    obtain ⟨b, ws, rfl, h5, h6⟩ := rd
    have q : Res E O σ H (if szOk (ds.length + es.length) = true then R.ok (Fl.nx, ρ1.set i (some (.lst (ds ++ es)))) else .stk) _ := q
    by_cases c : szOk (ds.length + es.length) = true
    · rw [if_pos c] at q
      have c := of_decide_eq_true c
      exact .inr ⟨l, b, vs, ws, rfl, rfl, h3, SqT.of h5, by rw [h4.length, h6.length]; omega, q σ _ (S1.lstW hi h1 h3 (h4.append h6)) (Tr.ownW S.sub k1 hi h1) rfl⟩
    · rw [if_neg c] at q
      exact q.elim
  · rename_i es _
    obtain ⟨b, ws, rfl, h5, h6⟩ := rd
    have q : Res E O σ H (if szOk (ds.length + es.length) = true then R.ok (Fl.nx, ρ1.set i (some (.lst (ds ++ es)))) else .stk) _ := q
    by_cases c : szOk (ds.length + es.length) = true
    · rw [if_pos c] at q
      have c := of_decide_eq_true c
      exact .inl ⟨l, b, vs, ws, rfl, rfl, h3, h5, by rw [h4.length, h6.length]; omega, q σ _ (S1.lstW hi h1 h3 (h4.append h6)) (Tr.ownW S.sub k1 hi h1) rfl⟩
    · rw [if_neg c] at q
      exact q.elim
theorem cs_ext {i : Nat} {x : Str} {p ap cp : Pos} (h : CEx X P0 O W E e ma) (hi : i ∈ O := by decide) (hx : X.N[i]? = some x := by rfl) (hv : Vis X.env.scope x := by first | exact Or.inl rfl | exact Or.inr (Or.inl rfl) | exact Or.inr (Or.inr rfl)) (hd : (x == ("__debug__" : Str)) = false := by decide) (hcd : (x == ("__classdict__" : Str)) = false := by decide)
    (he : starEach [e] X.env = (false, eval e X.env) :: starEach [] X.env := by rfl) (hpl : (backTo cp (starEach [] X.env)).any (·.1) = false := by rfl) (hbase : attributeBase (.Name x p) "extend" X.env (eval (.Name x p) X.env) = eval (.Name x p) X.env := by rfl) (hline : (ap.endLine == cp.line) = true := by rfl)
    (hfew : Few X cp [e] := by rfl) (hsw : swapsWith (.Call (.Attribute (.Name x p) "extend" ap) [e] [] cp) none pos.line X.env = pure false := by rfl) :
    CS X P0 O W U E (.Expr (.Call (.Attribute (.Name x p) "extend" ap) [e] [] cp) pos) (sExt i ma) :=
  PS.imp (ps_expr (pe_bm PySem.F.plainAttrs_list PySem.F.slot_list_extend PySem.F.type_list_extend mt_extA (pe_var (i := i) hx hv hd hcd) (pa_cons h pa_nil he) hbase hfew hline he hpl) hsw) (tM_ext hi)
end
variable {ρ : Y.Env}
@[simp] theorem e_ext {i : Nat} {m : EM} : sExt i m ρ = ((lstAt i ρ).nox >>= fun _ => m ρ >>= fun p => (p.1.d p.2).nox >>= fun d => (lstAt i p.2).nox >>= fun ds => match d with | .lst es => (if szOk (ds.length + es.length) = true then R.ok (.nx, p.2.set i (some (.lst (ds ++ es)))) else .stk) | .tup es => (if szOk (ds.length + es.length) = true then R.ok (.nx, p.2.set i (some (.lst (ds ++ es)))) else .stk) | _ => .stk) := by
  unfold sExt; congr
end Y

set_option Elab.async false
set_option linter.all false
set_option maxRecDepth 100000
namespace Y
open PySem PySem.Spec PyProof.Rows L2
variable {ρ : Y.Env}
@[simp] theorem e_join {a b : EM} : cJoin a b ρ = (a ρ >>= fun p => p.1.v.nox >>= fun x => match x with | .str s => (b p.2 >>= fun q => (q.1.d q.2).nox >>= fun y => (joinD (.str s) y).nox >>= fun z => R.ok (.fr z, q.2)) | _ => .stk) := by
  unfold cJoin; congr
end Y

set_option Elab.async false
set_option linter.all false
set_option maxRecDepth 100000
namespace Y
open PySem PySem.Spec PyProof.Rows L2
inductive Kd where
  | l (a : Addr) | t (a : Addr) | s (z : Str)
def strV (z : Str) : List V := z.cps.toList.map fun c => V.str ⟨#[c]⟩
def Kd.has (K : PySem.W.Frag) (H : Hp) : Kd → List V → Prop
  | .l a, xs => SqL K H a xs
  | .t a, xs => SqT K H a xs
  | .s z, xs => xs = strV z
def Kd.val : Kd → V
  | .l a => .ref a
  | .t a => .ref a
  | .s z => .str z
def Kd.lo : Kd → Nat → Prop
  | .l a, n => a < n
  | .t a, n => a < n
  | .s _, _ => True
/-- the iterator it over it, i items told -/
def Kd.at (it : Addr) (tk : Tok) : Kd → Nat → Heap → Prop
  | .l a, i, h => h.IsListIter it a i
  | .t a, i, h => h.IsTupleIter it a i
  | .s z, i, h => h.IsStrIter it (strIterType z) z tk i
theorem Kd.at_ob {k : Kd} {it : Addr} {tk : Tok} {i : Nat} {h : Heap} (x : k.at it tk i h) : ∃ o, h.get? it = some o ∧ ∀ v, o.data ≠ .cell v := by
  cases k with
  | l a => obtain ⟨o, e, _, d⟩ := x; exact ⟨o, e, fun v q => by rw [d] at q; cases q⟩
  | t a => obtain ⟨o, e, _, d⟩ := x; exact ⟨o, e, fun v q => by rw [d] at q; cases q⟩
  | s z => obtain ⟨o, e, _, d⟩ := x; exact ⟨o, e, fun v q => by rw [d] at q; cases q⟩
theorem Kd.at_k {k : Kd} {it : Addr} {tk : Tok} {i : Nat} {h h' : Heap} (x : k.at it tk i h) (q : ∀ o, h.get? it = some o → h'.get? it = some o) : k.at it tk i h' := by
  cases k with
  | l a => obtain ⟨o, e, r⟩ := x; exact ⟨o, q o e, r⟩
  | t a => obtain ⟨o, e, r⟩ := x; exact ⟨o, q o e, r⟩
  | s z => obtain ⟨o, e, r⟩ := x; exact ⟨o, q o e, r⟩
theorem vals_at : ∀ {xs : List V} {us : List Value} {j : Nat} {u : Value}, Vals xs us → us[j]? = some u → ∃ x, xs[j]? = some x ∧ RelV x u
  | _, _, _, _, .nil, e => by simp at e
  | x :: xs, _, 0, _, .cons r _, e => by simp at e; subst e; exact ⟨x, rfl, r⟩
  | x :: xs, _, j + 1, _, .cons _ t, e => by simpa using vals_at (j := j) t (by simpa using e)
section
variable {X : Cx} {pins : List (Addr × Obj)} {σ : St} {H : Hp} {s : Shared}
theorem Kd.inj {k : Kd} {xs ys : List V} (I : Inv X pins σ H s) (h : k.has X.K H xs) (h2 : k.has X.K H ys) : xs = ys := by
  cases k with
  | l a => exact I.list_inj h h2
  | t a => exact I.tuple_inj h h2
  | s z => exact Eq.trans h (Eq.symm h2)
/-- what an iterator over it draws -/
structure Kd.Drw (X : Cx) (A : Around) (k : Kd) (it : Addr) (tk : Tok) (xs : List V) (fp : List Addr) (P : Nat → Value → Prop) (S : Nat → Heap → Prop) : Prop where
  dr : Draws X.prog X.w A it fp xs.length P S
  mem : it ∈ fp
  lo : ∀ b ∈ fp, b = it ∨ ∃ a, b = a ∧ (k = .l a ∨ k = .t a)
  back : ∀ j h, S j h → k.at it tk j h
  item : ∀ j v, P j v → ∃ x, xs[j]? = some x ∧ RelV x v
theorem Kd.draw {A : Around} {k : Kd} {it : Addr} {tk : Tok} {i : Nat} {xs : List V} (hh : A.handled = none) (I : Inv X pins σ H s) (h : k.has X.K H xs) (lo : ∀ a, k = .l a ∨ k = .t a → a ≠ it) (st : k.at it tk i s.heap) : ∃ fp P S, Kd.Drw X A k it tk xs fp P S ∧ S i s.heap := by
  cases k with
  | l a =>
    obtain ⟨its, rv, p, _⟩ := I.list h
    have hl : its.toArray.size = xs.length := by simp [rv.length]
    have D := Draws.list (prog := X.prog) (w := X.w) hh it a (lo a (.inl rfl)) its.toArray
    rw [hl] at D
    exact ⟨_, _, _, ⟨D, by simp, fun b hb => by simpa [eq_comm] using hb, fun j h z => z.1, fun j v z => by
      rw [List.getElem?_toArray] at z
      exact vals_at rv z⟩, st, p.isList⟩
  | t a =>
    obtain ⟨its, rv, p, _⟩ := I.tuple h
    have hl : its.toArray.size = xs.length := by simp [rv.length]
    have D := Draws.tuple (prog := X.prog) (w := X.w) hh it a (lo a (.inr rfl)) its.toArray
    rw [hl] at D
    exact ⟨_, _, _, ⟨D, by simp, fun b hb => by simpa [eq_comm] using hb, fun j h z => z.1, fun j v z => by
      rw [List.getElem?_toArray] at z
      exact vals_at rv z⟩, st, p⟩
  | s z =>
    have h : xs = strV z := h
    have hl : z.cps.size = xs.length := by rw [h]; simp [strV]
    have D := Draws.text (prog := X.prog) (w := X.w) hh it z tk
    rw [hl] at D
    exact ⟨_, _, _, ⟨D, by simp, fun b hb => .inl (by simpa using hb), fun j h z => z, fun j v ⟨c, u, e1, e2⟩ => by
      refine ⟨.str ⟨#[c]⟩, ?_, u, e2⟩
      rw [h, strV, List.getElem?_map, Array.getElem?_toList, e1]
      rfl⟩, st⟩
end
theorem ad {a b : Nat} (h : ¬ a = b) : @Ne Addr a b := h
def ItzG (K : PySem.W.Frag) (k1 k2 : Kd) : It :=
  ⟨fun i H => ∃ xs ys x y, k1.has K H xs ∧ k2.has K H ys ∧ xs[i]? = some x ∧ ys[i]? = some y,
    fun i H v H' => ∃ T x y, v = .ref T ∧ H T = none ∧ H' = upd H T (.tup [x, y]) ∧ (∀ xs, k1.has K H xs → xs[i]? = some x) ∧ ∀ ys, k2.has K H ys → ys[i]? = some y,
    fun i H => ∃ xs ys, k1.has K H xs ∧ k2.has K H ys ∧ i = min xs.length ys.length⟩
/-- five cells that lie apart, from n on -/
structure Cells5 (n : Nat) (k1 k2 : Kd) : Prop where
  lo1 : k1.lo n
  lo2 : k2.lo n
theorem Kd.lo_ne {k : Kd} {n : Nat} (h : k.lo n) (a : Nat) (e : k = .l a ∨ k = .t a) : a < n := by
  rcases e with rfl | rfl <;> exact h
abbrev fp5 (n : Nat) : List Addr := [n + 4, n + 2, n + 3, n, n + 1]
theorem fp5_cases {n b : Nat} (h : b ∈ fp5 n) : b = n + 4 ∨ b = n + 2 ∨ b = n + 3 ∨ b = n ∨ b = n + 1 := by simpa using h
def tnZ (n : Nat) (t1 t2 : Tok) (k1 k2 : Kd) (i : Nat) (h : Heap) : Prop :=
  IsZip h (n + 4) (n + 2) (n + 3) .none ∧ IsTupOf2 h (n + 2) (.ref n) (.ref (n + 1)) ∧ (∃ x y, IsTupOf2 h (n + 3) x y) ∧ k1.at n t1 i h ∧ k2.at (n + 1) t2 i h
theorem sep5 {X : Cx} {A : Around} {k1 k2 : Kd} {n : Nat} {t1 t2 : Tok} {xs ys : List V} {fp1 fp2 : List Addr} {P1 P2 : Nat → Value → Prop} {S1 S2 : Nat → Heap → Prop} (c : Cells5 n k1 k2)
    (d1 : Kd.Drw X A k1 n t1 xs fp1 P1 S1) (d2 : Kd.Drw X A k2 (n + 1) t2 ys fp2 P2 S2) : ZipSep2 (n + 4) (n + 2) (n + 3) n (n + 1) fp1 fp2 := by
  have o1 : ∀ b : Nat, b ∈ fp1 → b ≤ n := fun b hb => by
    rcases d1.lo b hb with rfl | ⟨a, rfl, e⟩
    · exact Nat.le_refl _
    · exact Nat.le_of_lt (Kd.lo_ne c.lo1 _ e)
  have o2 : ∀ b : Nat, b ∈ fp2 → b = n + 1 ∨ b < n := fun b hb => by
    rcases d2.lo b hb with rfl | ⟨a, rfl, e⟩
    · exact .inl rfl
    · exact .inr (Kd.lo_ne c.lo2 _ e)
  exact ⟨ad (by omega), ad (by omega), ad (by omega), ad (by omega), d1.mem, fun z => by have := o1 (n + 4) z; omega, fun z => by have := o1 (n + 3) z; omega, ad (by omega), d2.mem,
    fun z => by have := o2 (n + 4) z; omega, fun z => by have := o2 (n + 3) z; omega, fun z => by have := o2 n z; omega, fun z => by have := o1 (n + 1) z; omega⟩
theorem turn_zipG {P : Program} {w : World} {K : PySem.W.Frag} {elts : List Expr} {kk : Nat} {tpos : Pos} {k1 k2 : Kd} {n : Nat} {t1 t2 : Tok} (c : Cells5 n k1 k2) :
    Turn P w K (.Tuple elts kk tpos) (ItzG K k1 k2) (fp5 n) (n + 4) (tnZ n t1 t2 k1 k2) where
  mem := by simp
  obj := fun i h ⟨hz, hI, ⟨x, y, hO⟩, q1, q2⟩ b hb => by
    rcases fp5_cases hb with rfl | rfl | rfl | rfl | rfl
    · exact ⟨_, hz, fun v q => nomatch q⟩
    · exact ⟨_, hI, fun v q => nomatch q⟩
    · exact ⟨_, hO, fun v q => nomatch q⟩
    · exact Kd.at_ob q1
    · exact Kd.at_ob q2
  keep := fun i h h' ⟨hz, hI, ⟨x, y, hO⟩, q1, q2⟩ k => ⟨k _ (by simp) _ hz, k _ (by simp) _ hI, ⟨x, y, k _ (by simp) _ hO⟩, Kd.at_k q1 (k _ (by simp)), Kd.at_k q2 (k _ (by simp))⟩
  item := by
    intro X hP hw hK hc i pins s σ H E I hf ⟨hz, hI, ⟨x0, y0, hO⟩, q1, q2⟩ ⟨xs, ys, x, y, g1, g2, ex, ey⟩
    subst hP hw hK
    have hh : X.A.in1.handled = none := by simp [I.ok.hd hc]
    obtain ⟨fp1, P1, S1, d1, s1⟩ := Kd.draw (A := X.A.in1) hh I g1 (fun a e => ad (by have := Kd.lo_ne c.lo1 a e; omega)) q1
    obtain ⟨fp2, P2, S2, d2, s2⟩ := Kd.draw (A := X.A.in1) hh I g2 (fun a e => ad (by have := Kd.lo_ne c.lo2 a e; omega)) q2
    have hzl : n + 4 < s.heap.objs.size := Heap.lt_size hz
    refine wpAny_pyNext_zipD2_item (sep5 c d1 d2) d1.dr d2.dr hz hI hO s1 s2 (List.getElem?_eq_some_iff.mp ex).1 (List.getElem?_eq_some_iff.mp ey).1 fun u1 u2 h' tk p1 p2 z' O' s1' s2' hT hsz hk => ?_
    obtain ⟨x', ex', r1⟩ := d1.item _ _ p1
    obtain ⟨y', ey', r2⟩ := d2.item _ _ p2
    rw [ex] at ex'; cases ex'
    rw [ey] at ey'; cases ey'
    refine ⟨_, rfl, wpAny_letOwnedTupleGo_zip (s := { s with heap := h', toks := tk }) z' fun h2 z2 sb => ?_⟩
    have hT2 : h2.get? s.heap.objs.size = some { cls := .type "tuple", data := .seq #[u1, u2] } := (sb.2 _ (ad (by omega))).trans hT
    have new : ObjOk X.prog X.w (upd H s.heap.objs.size (.tup [x, y])) h2 s.heap.objs.size (.tup [x, y]) := ⟨by show 2 ≤ sizeLine; decide, [u1, u2], .cons r1 (.cons r2 .nil), ⟨_, hT2, rfl, _, rfl⟩⟩
    have I1 : Inv X pins σ (upd H s.heap.objs.size (.tup [x, y])) { s with heap := h2, toks := tk } :=
      I.turnedNew (t' := tk) (ch := fp5 n) (fun b o hb q => (sb.2 b fun e => hb (by simp [e])).trans (hk b o (fun e => hb (by simp [e])) (fun e => hb (by simp [e])) (fun e => hb (by simp [e])) (fun e => hb (by simp [e])) q)) hf (Nat.le_refl _) new
    refine ⟨.ref s.heap.objs.size, _, I1, rfl, ⟨_, x, y, rfl, I.hok.fresh (Nat.le_refl _), rfl, fun l hl => by rw [Kd.inj I hl g1]; exact ex, fun l hl => by rw [Kd.inj I hl g2]; exact ey⟩, ⟨z2, ?_, ⟨u1, u2, ?_⟩, ?_, ?_⟩, fun b hb => ?_⟩
    · exact (sb.2 _ (ad (by omega))).trans (hk _ _ (ad (by omega)) (ad (by omega)) (ad (by omega)) (ad (by omega)) hI)
    · exact (sb.2 _ (ad (by omega))).trans O'
    · exact Kd.at_k (d1.back _ _ s1') fun o q => (sb.2 _ (ad (by omega))).trans q
    · exact Kd.at_k (d2.back _ _ s2') fun o q => (sb.2 _ (ad (by omega))).trans q
    · rw [upd_ne (by rcases fp5_cases hb with e | e | e | e | e <;> (rw [e]; exact ad (by omega)))]
      exact (hf b hb).1
  done := by
    intro X hP hw hK hc i pins s σ H E I hf ⟨hz, hI, ⟨x0, y0, hO⟩, q1, q2⟩ ⟨xs, ys, g1, g2, ei⟩
    subst hP hw hK
    have hh : X.A.in1.handled = none := by simp [I.ok.hd hc]
    obtain ⟨fp1, P1, S1, d1, s1⟩ := Kd.draw (A := X.A.in1) hh I g1 (fun a e => ad (by have := Kd.lo_ne c.lo1 a e; omega)) q1
    obtain ⟨fp2, P2, S2, d2, s2⟩ := Kd.draw (A := X.A.in1) hh I g2 (fun a e => ad (by have := Kd.lo_ne c.lo2 a e; omega)) q2
    exact wpAny_pyNext_zipD2_end (sep5 c d1 d2) d1.dr d2.dr hz hI hO s1 s2 (by omega) (by omega) (by omega) fun h' tk hk => ⟨rfl, I.turnedL (t' := tk) (ch := fp5 n) (fun b o hb q =>
      hk b o (fun e => hb (by simp [e])) (fun e => hb (by simp [e])) (fun e => hb (by simp [e])) (fun e => hb (by simp [e])) q) hf⟩
  self := fun A i s Q E st h => wpAny_pyIter_zip st.1 h
section
variable {X : Cx} {pins : List (Addr × Obj)} {σ : St} {H : Hp} {s : Shared}
theorem Kd.begins {k : Kd} {xs : List V} {u : Value} (I : Inv X pins σ H s) (h : k.has X.K H xs) (r : RelV k.val u) : ∃ (o : Obj) (G : Heap → Prop) (tk : Tok), Begins u o G ∧ G s.heap ∧ k.lo s.heap.objs.size ∧ ∀ n h', h'.get? n = some o → k.at n tk 0 h' := by
  cases k with
  | l a =>
    obtain ⟨its, rv, p, _⟩ := I.list h
    cases r
    exact ⟨_, _, 0, begins_list a its.toArray, p.isList, p.lt, fun n h' e => ⟨_, e, rfl, rfl⟩⟩
  | t a =>
    obtain ⟨its, rv, p, _⟩ := I.tuple h
    cases r
    have p : s.heap.IsTuple a its.toArray := p
    obtain ⟨o, e, _⟩ := id p
    exact ⟨_, _, 0, begins_tuple a its.toArray, p, Heap.lt_size e, fun n h' e => ⟨_, e, rfl, rfl⟩⟩
  | s z =>
    obtain ⟨tk, rfl⟩ := r
    exact ⟨_, _, tk, begins_text z tk, trivial, trivial, fun n h' e => ⟨_, e, rfl, rfl⟩⟩
def iZipG (K : PySem.W.Frag) (ta : TA) : TI := fun σ H R => ta σ H fun vs H1 => ∃ k1 k2 xs ys, vs = [Kd.val k1, Kd.val k2] ∧ k1.has K H1 xs ∧ k2.has K H1 ys ∧ R (ItzG K k1 k2) H1
theorem pi_zipG {e e2 : Expr} {ta : TA} {p pos tpos : Pos} {elts : List Expr} {kk : Nat} (hg : Gl X "zip") (hm : X.mg "zip" = none) (ha : PA X [e, e2] ta)
    (hs : starEach [e, e2] X.env = (false, eval e X.env) :: starEach [e2] X.env := by rfl) (hpl : (backTo pos (starEach [e2] X.env)).any (·.1) = false := by rfl) :
    PI X (.Tuple elts kk tpos) (.Call (.Name "zip" p) [e, e2] [] pos) (iZipG X.K ta) := ⟨fun pins s σ H R I h =>
  Call_ (ld_blt I hg hm PyProof.Rows.boot_zip (PyProof.Rows.callWith_type1 (thn (ha.run pos pins s σ H _ I h) fun us s1 ⟨vs, H1, I1, r1, q1⟩ => by
    obtain ⟨k1, k2, xs, ys, ex, h1, h2, q⟩ := q1
    subst ex
    obtain ⟨u1, us1, rfl, r2, r3⟩ : ∃ u us', us = u :: us' ∧ RelV k1.val u ∧ Vals [k2.val] us' := by cases r1 with | cons a b => exact ⟨_, _, rfl, a, b⟩
    obtain ⟨u2, rfl, r4⟩ := vals1 r3
    obtain ⟨o1, G1, tk1, b1, g1, l1, m1⟩ := Kd.begins I1 h1 r2
    obtain ⟨o2, G2, tk2, b2, g2, l2, m2⟩ := Kd.begins I1 h2 r4
    refine zip_begins2 b1 b2 g1 g2 fun h' hz hI hO e1 e2 hsz hk => wpAny_pyIter_zip hz ?_
    have I2 : Inv X pins σ H1 { s1 with heap := h' } := I1.kept (t' := s1.toks) hk
    refine ⟨s1.heap.objs.size + 4, fp5 s1.heap.objs.size, tnZ s1.heap.objs.size tk1 tk2 k1 k2, _, H1, rfl, I2, turn_zipG ⟨l1, l2⟩, ⟨hz, hI, ⟨_, _, hO⟩, m1 _ _ e1, m2 _ _ e2⟩, fun b hb => ?_, q⟩
    have le : s1.heap.objs.size ≤ b := by rcases fp5_cases hb with e | e | e | e | e <;> (rw [e]; first | exact Nat.le_refl _ | exact Nat.le_add_right _ _)
    exact I1.fpOk le (I1.hok.fresh le)) hs hpl))⟩
end
def kdOf : D → V → Option Kd
  | .lst _, .ref a => some (.l a)
  | .arg _, .ref a => some (.l a)
  | .tup _, .ref a => some (.t a)
  | .str z, _ => some (.s z)
  | .ftu _, .ref a => some (.t a)
  | _, _ => none
section
variable {K : PySem.W.Frag} {P0 : Pr} {O W : List Nat} {ρ ρ' : Env} {σ σ' : St} {H H' Hs : Hp} {h h2 : Hd} {d d2 : D} {v : V}
/-- a datum that is walked: its kind and the items' values -/
theorem RepW.kd {ds : List D} {P : Pr} (r : RepW K H d P v) (e : itD d = .ok ds) : ∃ k vs, v = Kd.val k ∧ k.has K H vs ∧ Reps K H ds P vs ∧ kdOf d v = some k := by
  cases d <;> simp only [itD, R.ok.injEq, reduceCtorEq] at e
  · subst e
    rename_i z
    obtain rfl := r.str
    refine ⟨.s z, strV z, rfl, rfl, ?_, rfl⟩
    unfold strV
    generalize z.cps.toList = l
    induction l with
    | nil => exact Reps.nil
    | cons c l ih => exact Reps.cons (by unfold Rep; rfl) ih
  · subst e
    obtain ⟨a, vs, rfl, t1, t2⟩ := r.tup
    exact ⟨.t a, vs, rfl, SqT.of t1, t2, rfl⟩
  · subst e
    obtain ⟨a, vs, rfl, t1, t2⟩ := r.lst
    exact ⟨.l a, vs, rfl, SqL.of t1, t2, rfl⟩
  · subst e
    obtain ⟨a, rfl, t1⟩ := r.arg
    exact ⟨.l a, _, rfl, t1, reps_ints _, rfl⟩
  · subst e
    obtain ⟨a, vs, o, rfl, t1, _, t2⟩ := r.ftu
    exact ⟨.t a, vs, rfl, SqT.fz t1, t2, rfl⟩
/-- .. from what holds of it -/
theorem Hold.kd {ds : List D} {k : Kd} (S : Sim K P0 O W ρ σ H) (o : Hold K O h d v P0 ρ σ H) (e : itD d = .ok ds) (ek : kdOf d v = some k) : ∃ vs, k.has K H vs ∧ Reps K H ds (FA P0 O σ) vs := by
  obtain ⟨k', vs, _, h1, h2, h3⟩ := (o.rep S).kd e
  rw [ek] at h3; cases h3
  exact ⟨vs, h1, h2⟩
theorem src_zipG {k1 k2 : Kd} {ds es : List D} {w : V} (hd : itD d = .ok ds) (he : itD d2 = .ok es) (e1 : kdOf d v = some k1) (e2 : kdOf d2 w = some k2) :
    Src K O W (pairsD ds es) (h.ws ++ h2.ws) (ItzG K k1 k2) (fun P0 ρ σ H => Hold K O h d v P0 ρ σ H ∧ Hold K O h2 d2 w P0 ρ σ H) where
  go := fun P0 i ρ σ H S ok hi => by
    obtain ⟨vs, a1, a2⟩ := ok.1.kd S hd e1
    obtain ⟨vs2, b1, b2⟩ := ok.2.kd S he e2
    rw [pairsD_len, ← a2.length, ← b2.length] at hi
    exact ⟨vs, vs2, vs[i]'(by omega), vs2[i]'(by omega), a1, b1, List.getElem?_eq_getElem _, List.getElem?_eq_getElem _⟩
  stop := fun P0 ρ σ H S ok => by
    obtain ⟨vs, a1, a2⟩ := ok.1.kd S hd e1
    obtain ⟨vs2, b1, b2⟩ := ok.2.kd S he e2
    exact ⟨vs, vs2, a1, b1, by rw [pairsD_len, ← a2.length, ← b2.length]⟩
  yld := fun P0 i ρ σ H x H' d S ok hq y => by
    obtain ⟨vs, a1, a2⟩ := ok.1.kd S hd e1
    obtain ⟨vs2, b1, b2⟩ := ok.2.kd S he e2
    obtain ⟨x1, y1, q1, q2, rfl⟩ := pairsD_get hq
    obtain ⟨v1, q3, r1⟩ := a2.get q1
    obtain ⟨v2, q4, r2⟩ := b2.get q2
    obtain ⟨T, u1, u2, rfl, hT, rfl, e3, e4⟩ := y
    have e3 := e3 _ a1
    have e4 := e4 _ b1
    rw [q3] at e3; cases e3
    rw [q4] at e4; cases e4
    exact pair_rep S.dom hT r1 r2
  keep := fun P0 ρ σ H ρ' σ' H' S k w hw ok => ⟨ok.1.keep S k w fun i hi => hw i (List.mem_append_left _ hi), ok.2.keep S k w fun i hi => hw i (List.mem_append_right _ hi)⟩
  mem := fun P0 ρ σ H ok w z => (List.mem_append.mp z).elim (ok.1.mem w) (ok.2.mem w)
  grow := fun P0 P1 ρ σ H H' S w k ok => ⟨ok.1.grow S w k, ok.2.grow S w k⟩
end
def zipGD (x y : D) : R (List D) := do
  let xs ← itD x
  let ys ← itD y
  pure (pairsD xs ys)
def cZipG (m : AM) : IM := fun ρ => do
  let (hs, ρ1) ← m ρ
  match hs with
  | [h, h2] => do
    let x ← (h.d ρ1).nox
    let y ← (h2.d ρ1).nox
    let ps ← (zipGD x y).nox
    if szOk ps.length = true then pure ((ps, h.ws ++ h2.ws), ρ1) else .stk
  | _ => .stk
theorem zipGD_ok {x y : D} {ps : List D} (h : zipGD x y = .ok ps) : ∃ xs ys, itD x = .ok xs ∧ itD y = .ok ys ∧ ps = pairsD xs ys := by
  obtain ⟨xs, e1, h⟩ := R.ok_of h
  obtain ⟨ys, e2, h⟩ := R.ok_of h
  cases h
  exact ⟨xs, ys, e1, e2, rfl⟩
section
variable {X : Cx} {P0 : Pr} {O W : List Nat} {E : EK} {a b c e tg : Expr} {es : List Expr} {ma mb mc : EM} {ms : AM} {pos : Pos}
theorem ci_zipG {p tpos : Pos} {elts : List Expr} {kk : Nat} (hm : X.mg "zip" = none) (ha : CA X P0 O W E [a, b] ms) (hg : Gl X "zip" := by rfl) (hs : starEach [a, b] X.env = (false, eval a X.env) :: starEach [b] X.env := by rfl) (hpl : (backTo pos (starEach [b] X.env)).any (·.1) = false := by rfl) :
    CI X P0 O W E (.Tuple elts kk tpos) (.Call (.Name "zip" p) [a, b] [] pos) (cZipG ms) := PI.imp (pi_zipG hg hm ha hs hpl) fun σ H _ ⟨ρ, S, h⟩ => by
  refine ⟨ρ, S, h.of_bind.mono fun ⟨hs, ρ1⟩ q vs H1 S1 k1 r1 => ?_⟩
  match hs, r1, q with
  | [h, h2], r1, q =>
    obtain ⟨v, ws, rfl, t1, t2⟩ := r1
    obtain ⟨w, us, rfl, t3, t4⟩ := t2
    have t4 : us = [] := t4
    subst t4
    obtain ⟨x, ex, q1⟩ := Res.of_nox (show Res E W σ H ((h.d ρ1).nox >>= _) _ from q)
    obtain ⟨y, ey, q2⟩ := q1.of_nox
    obtain ⟨ps, ep, q3⟩ := q2.of_nox
    clear q q1 q2
    obtain ⟨xs, ys, e1, e2, rfl⟩ := zipGD_ok ep
    by_cases c : szOk (pairsD xs ys).length = true
    · rw [if_pos c] at q3
      obtain ⟨c1, vs1, rfl, f1, _, g1⟩ := (t1.d S1 ex).kd e1
      obtain ⟨c2, vs2, rfl, f2, _, g2⟩ := (t3.d S1 ey).kd e2
      exact ⟨c1, c2, vs1, vs2, rfl, f1, f2, q3 _ H1 _ S1 k1 (src_zipG e1 e2 g1 g2) ⟨t1.hold ex, t3.hold ey⟩ (of_decide_eq_true c)⟩
    · rw [if_neg c] at q3
      exact q3.elim
  | [], _, q => exact q.elim
  | [_], _, q => exact q.elim
  | _ :: _ :: _ :: _, _, q => exact q.elim
end
section
variable {ρ : Y.Env}
@[simp] theorem e_zipG {m : AM} : cZipG m ρ = (m ρ >>= fun p => match p.1 with | [h, h2] => ((h.d p.2).nox >>= fun x => (h2.d p.2).nox >>= fun y => (zipGD x y).nox >>= fun ps => if szOk ps.length = true then R.ok ((ps, h.ws ++ h2.ws), p.2) else .stk) | _ => .stk) := by
  unfold cZipG; congr
@[simp] theorem d_zipG {x y : D} : zipGD x y = (itD x >>= fun xs => itD y >>= fun ys => R.ok (pairsD xs ys)) := id rfl
end
def IteG (K : PySem.W.Frag) (k : Kd) : It :=
  ⟨fun i H => ∃ xs x, k.has K H xs ∧ xs[i]? = some x, fun i H v H' => ∃ T x, v = .ref T ∧ H T = none ∧ H' = upd H T (.tup [.int (i : Nat), x]) ∧ ∀ xs, k.has K H xs → xs[i]? = some x, fun i H => ∃ xs, k.has K H xs ∧ i = xs.length⟩
abbrev fp2 (n : Nat) : List Addr := [n + 1, n]
def tnE (n : Nat) (t : Tok) (k : Kd) (i : Nat) (h : Heap) : Prop := (∃ old, IsEnum h (n + 1) n ((i : Nat) : Int) old) ∧ k.at n t i h
theorem turn_enumG {P : Program} {w : World} {K : PySem.W.Frag} {elts : List Expr} {kk : Nat} {tpos : Pos} {k : Kd} {n : Nat} {t : Tok} (c : k.lo n) :
    Turn P w K (.Tuple elts kk tpos) (IteG K k) (fp2 n) (n + 1) (tnE n t k) where
  mem := by simp
  obj := fun i h ⟨⟨old, he⟩, q1⟩ b hb => by
    have hb : b = n + 1 ∨ b = n := by simpa using hb
    rcases hb with rfl | rfl
    · exact ⟨_, he, fun v q => nomatch q⟩
    · exact Kd.at_ob q1
  keep := fun i h h' ⟨⟨old, he⟩, q1⟩ k => ⟨⟨old, k _ (by simp) _ he⟩, Kd.at_k q1 (k _ (by simp))⟩
  item := by
    intro X hP hw hK hc i pins s σ H E I hf ⟨⟨old, he⟩, q1⟩ ⟨xs, x, g1, ex⟩
    subst hP hw hK
    have hh : X.A.in1.handled = none := by simp [I.ok.hd hc]
    obtain ⟨fp1, P1, S1, d1, s1⟩ := Kd.draw (A := X.A.in1) hh I g1 (fun a e => ad (by have := Kd.lo_ne c a e; omega)) q1
    have hel : n + 1 < s.heap.objs.size := Heap.lt_size he
    have hef : n + 1 ∉ fp1 := fun z => by
      rcases d1.lo _ z with e | ⟨a, e, e2⟩
      · have e : n + 1 = n := e
        omega
      · have := Kd.lo_ne c a e2
        have e : n + 1 = a := e
        omega
    refine wpAny_pyNext_enum_itemD d1.dr he s1 (List.getElem?_eq_some_iff.mp ex).1 (ad (by omega)) hef fun u h' tk p1 ho s1' hT hsz hk => ?_
    obtain ⟨x', ex', r1⟩ := d1.item _ _ p1
    rw [ex] at ex'; cases ex'
    refine ⟨_, rfl, wpAny_letOwnedTupleGo_enum (s := { s with heap := h', toks := tk + 1 }) ho fun h2 he2 sb => ?_⟩
    have hT2 : h2.get? s.heap.objs.size = some { cls := .type "tuple", data := .seq #[.int i tk, u] } := (sb.2 _ (ad (by omega))).trans hT
    have new : ObjOk X.prog X.w (upd H s.heap.objs.size (.tup [.int (i : Nat), x])) h2 s.heap.objs.size (.tup [.int (i : Nat), x]) := ⟨by show 2 ≤ sizeLine; decide, [.int i tk, u], .cons ⟨_, rfl⟩ (.cons r1 .nil), ⟨_, hT2, rfl, _, rfl⟩⟩
    have I1 : Inv X pins σ (upd H s.heap.objs.size (.tup [.int (i : Nat), x])) { s with heap := h2, toks := tk + 1 } :=
      I.turnedNew (t' := tk + 1) (ch := fp2 n) (fun b o hb q => (sb.2 b fun e => hb (by simp [e])).trans (hk b o (fun e => hb (by simp [e])) (fun e => hb (by simp [e])) q)) hf (Nat.le_refl _) new
    refine ⟨.ref s.heap.objs.size, _, I1, rfl, ⟨_, x, rfl, I.hok.fresh (Nat.le_refl _), rfl, fun l hl => by rw [Kd.inj I hl g1]; exact ex⟩, ⟨⟨u, ?_⟩, ?_⟩, fun b hb => ?_⟩
    · have e1 : ((i + 1 : Nat) : Int) = (i : Int) + 1 := by omega
      rw [e1]; exact he2
    · exact Kd.at_k (d1.back _ _ s1') fun o q => (sb.2 _ (ad (by omega))).trans q
    · have hb' : b = n + 1 ∨ b = n := by simpa using hb
      rw [upd_ne (by rcases hb' with e | e <;> (rw [e]; exact ad (by omega)))]
      exact (hf b hb).1
  done := by
    intro X hP hw hK hc i pins s σ H E I hf ⟨⟨old, he⟩, q1⟩ ⟨xs, g1, ei⟩
    subst hP hw hK
    have hh : X.A.in1.handled = none := by simp [I.ok.hd hc]
    obtain ⟨fp1, P1, S1, d1, s1⟩ := Kd.draw (A := X.A.in1) hh I g1 (fun a e => ad (by have := Kd.lo_ne c a e; omega)) q1
    subst ei
    exact wpAny_pyNext_enum_endD d1.dr he s1 fun h' eb => ⟨rfl, I.turnedL (t' := s.toks) (ch := fp2 n) (fun b o hb q => eb b o (fun e => hb (by simp [e])) q) hf⟩
  self := fun A i s Q E ⟨⟨_, he⟩, _⟩ h => wpAny_pyIter_enum he h
open AutoSeq1 (wpAny_loadPart') in
set_option maxHeartbeats 1000000 in
theorem enum_newT (b : Addr) (ys : Array Value) (m : Nat) (dd : Option Addr) (sl : Array (Option Value)) : Meets (Builtin.«enumerate.__new__» ⟨[.type "enumerate", .ref b], []⟩) (fun _ R s => s.heap.get? b = some { cls := .type "tuple", dict := dd, data := .seq ys m, slots := sl } ∧
    R (.ok (.ret (.ref (s.heap.push { cls := .type "tuple_iterator", data := .fields #[.ref b, .int 0 0] }).objs.size))) { s with heap := (s.heap.push { cls := .type "tuple_iterator", data := .fields #[.ref b, .int 0 0] }).push { cls := .type "enumerate", data := .fields #[.none, .bool false, .ref s.heap.objs.size, rawInt 0, .none, .none] } }) :=
  .of_wp fun prog w A R s ⟨hb, q⟩ => by
    obtain ⟨hp, g, d, tk, os⟩ := s
    have z1 := sub_enumerate
    have hT : Heap.IsTuple (Shared.heap ⟨hp, g, d, tk, os⟩) b ys := ⟨_, hb, rfl, m, rfl⟩
    wp_walk using wpAny_loadPart' hb
    refine wpAny_stack_any fun st => wpAny_pure ?_
    split
    · rename_i c _ _ _ _ _
      cases (c == Value.type "enumerate") <;> (wp_walk using wpAny_loadPart' hb, wpAny_pyIter_tuple hT; exact ⟨_, rfl, q⟩)
    · wp_walk using wpAny_loadPart' hb, wpAny_pyIter_tuple hT
      exact ⟨_, rfl, q⟩
theorem call_enumT {prog : Program} {w : World} {A : Around} {E : Value → Shared → Prop} {s : Shared} {b : Addr} {ys : Array Value} {Q : Value → Shared → Prop} (hT : s.heap.IsTuple b ys)
    (q : ∀ h', IsEnum h' (s.heap.objs.size + 1) s.heap.objs.size 0 .none → h'.IsTupleIter s.heap.objs.size b 0 → (∀ c o, s.heap.get? c = some o → h'.get? c = some o) → Q (.ref (s.heap.objs.size + 1)) { s with heap := h' }) :
    wpAny (model prog w) A (call (.type "enumerate") [.ref b]) Q E s := by
  obtain ⟨⟨cls, dd, data, sl⟩, hb, ec, m, ed⟩ := hT
  simp only at ec ed
  subst ec ed
  refine callType_new F.called_enumerate (by decide) (F.typeCall_enumerate_1 _) (F.newCall_enumerate_1 _) (fun obj => F.args_object_init_2 obj _) F.entry_enumerate_new (enum_newT b ys m dd sl) ⟨hb, ?_⟩
  have hz : (s.heap.push { cls := .type "tuple_iterator", data := .fields #[.ref b, .int 0 0] }).objs.size = s.heap.objs.size + 1 := Heap.size_push ..
  have he : IsEnum ((s.heap.push { cls := .type "tuple_iterator", data := .fields #[.ref b, .int 0 0] }).push { cls := .type "enumerate", data := .fields #[.none, .bool false, .ref s.heap.objs.size, rawInt 0, .none, .none] }) (s.heap.objs.size + 1) s.heap.objs.size 0 .none := by
    rw [← hz]
    exact Heap.get?_push_size _ rfl
  show _ ∧ _
  rw [hz]
  exact ⟨⟨_, he, rfl⟩, q _ he ⟨_, Heap.get?_push_of_some _ (Heap.get?_push_size _ rfl), rfl, rfl⟩ fun c o x => Heap.get?_push_of_some _ (Heap.get?_push_of_some _ x)⟩
section
variable {X : Cx} {P0 : Pr} {O W : List Nat} {E : EK} {a b c e tg : Expr} {es : List Expr} {ma mb mc : EM} {ms : AM} {pos : Pos}
def iEnumG (K : PySem.W.Frag) (ta : TA) : TI := fun σ H R => ta σ H fun vs H1 => ∃ k xs, vs = [Kd.val k] ∧ k.has K H1 xs ∧ R (IteG K k) H1
theorem pi_enumG {ta : TA} {p tpos : Pos} {elts : List Expr} {kk : Nat} (hg : Gl X "enumerate") (hm : X.mg "enumerate" = none) (ha : PA X [e] ta) (hs : starEach [e] X.env = [(false, eval e X.env)] := by rfl) :
    PI X (.Tuple elts kk tpos) (.Call (.Name "enumerate" p) [e] [] pos) (iEnumG X.K ta) := ⟨fun pins s σ H R I h =>
  Call_ (ld_blt I hg hm boot_enumerate (PyProof.Rows.callWith_type1 (thn (ha.run pos pins s σ H _ I h) fun us s1 ⟨vs, H1, I1, r1, q1⟩ => by
    obtain ⟨k, xs, ex, h1, q⟩ := q1
    subst ex
    obtain ⟨u, rfl, r2⟩ := vals1 r1
    have fin : ∀ (tk : Tok) (h' : Heap), k.lo s1.heap.objs.size → IsEnum h' (s1.heap.objs.size + 1) s1.heap.objs.size 0 .none → k.at s1.heap.objs.size tk 0 h' → (∀ c o, s1.heap.get? c = some o → h'.get? c = some o) → PIE X pins σ (.Tuple elts kk tpos) R (.ref (s1.heap.objs.size + 1)) { s1 with heap := h' } := fun tk h' lo he hit hk =>
      ⟨s1.heap.objs.size + 1, fp2 s1.heap.objs.size, tnE s1.heap.objs.size tk k, _, H1, rfl, I1.kept (t' := s1.toks) hk, turn_enumG lo, ⟨⟨.none, he⟩, hit⟩, fun b hb => by
        have hb' : b = s1.heap.objs.size + 1 ∨ b = s1.heap.objs.size := by simpa using hb
        have le : s1.heap.objs.size ≤ b := by rcases hb' with e | e <;> (rw [e]; first | exact Nat.le_refl _ | exact Nat.le_add_right _ _)
        exact I1.fpOk le (I1.hok.fresh le), q⟩
    cases k with
    | l a =>
      obtain ⟨its, rv, p, _⟩ := I1.list h1
      cases r2
      exact call_enumerate_list p.isList fun h' he hit hsz hk => wpAny_pyIter_enum he (fin 0 h' p.lt he hit hk)
    | t a =>
      obtain ⟨its, rv, p, _⟩ := I1.tuple h1
      cases r2
      have p : s1.heap.IsTuple a its.toArray := p
      obtain ⟨o, e, _⟩ := id p
      exact call_enumT p fun h' he hit hk => wpAny_pyIter_enum he (fin 0 h' (Heap.lt_size e) he hit hk)
    | s z =>
      obtain ⟨tk, rfl⟩ := r2
      exact call_enumerate_str fun h' he hit hsz hk => wpAny_pyIter_enum he (fin tk h' trivial he hit hk)) hs rfl))⟩
def numD (ds : List D) : List D := pairsD ((List.range ds.length).map fun i => D.int (i : Nat)) ds
section
variable {K : PySem.W.Frag} {ρ ρ' : Env} {σ σ' : St} {H H' Hs : Hp} {h h2 : Hd} {d d2 : D} {v : V}
theorem src_enumG {k : Kd} {ds : List D} (hd : itD d = .ok ds) (e1 : kdOf d v = some k) : Src K O W (numD ds) h.ws (IteG K k) (Hold K O h d v) where
  go := fun P0 i ρ σ H S ok hi => by
    obtain ⟨vs, a1, a2⟩ := ok.kd S hd e1
    unfold numD at hi
    rw [pairsD_len, ← a2.length] at hi
    have hi : i < vs.length := by simpa using hi
    exact ⟨vs, vs[i], a1, List.getElem?_eq_getElem hi⟩
  stop := fun P0 ρ σ H S ok => by
    obtain ⟨vs, a1, a2⟩ := ok.kd S hd e1
    exact ⟨vs, a1, by unfold numD; rw [pairsD_len, ← a2.length]; simp⟩
  yld := fun P0 i ρ σ H x H' d S ok hq y => by
    obtain ⟨vs, a1, a2⟩ := ok.kd S hd e1
    have hi := (List.getElem?_eq_some_iff.mp hq).1
    unfold numD at hi hq
    rw [pairsD_len] at hi
    have hi : i < ds.length := by simpa using hi
    obtain ⟨x1, y1, q1, q2, rfl⟩ := pairsD_get hq
    obtain ⟨v2, q4, r2⟩ := a2.get q2
    obtain ⟨T, u, rfl, hT, rfl, e3⟩ := y
    have e3 := e3 _ a1
    rw [q4] at e3; cases e3
    rw [List.getElem?_map, List.getElem?_range hi] at q1
    cases q1
    exact pair_rep S.dom hT (by unfold Rep; rfl) r2
  keep := fun P0 ρ σ H ρ' σ' H' S k w hw ok => ok.keep S k w hw
  mem := fun P0 ρ σ H ok => ok.mem
  grow := fun P0 P1 ρ σ H H' S w k ok => ok.grow S w k
end
def cEnumG (m : AM) : IM := fun ρ => do
  let (hs, ρ1) ← m ρ
  match hs with
  | [h] => do
    let x ← (h.d ρ1).nox
    let ds ← (itD x).nox
    if szOk (numD ds).length = true then pure ((numD ds, h.ws), ρ1) else .stk
  | _ => .stk
theorem ci_enumG {p tpos : Pos} {elts : List Expr} {kk : Nat} (hm : X.mg "enumerate" = none) (ha : CA X P0 O W E [a] ms) (hg : Gl X "enumerate" := by rfl) (hs : starEach [a] X.env = [(false, eval a X.env)] := by rfl) :
    CI X P0 O W E (.Tuple elts kk tpos) (.Call (.Name "enumerate" p) [a] [] pos) (cEnumG ms) := PI.imp (pi_enumG hg hm ha hs) fun σ H _ ⟨ρ, S, h⟩ => by
  refine ⟨ρ, S, h.of_bind.mono fun ⟨hs, ρ1⟩ q vs H1 S1 k1 r1 => ?_⟩
  match hs, r1, q with
  | [h], r1, q =>
    obtain ⟨v, ws, rfl, t1, t2⟩ := r1
    have t2 : ws = [] := t2
    subst t2
    obtain ⟨x, ex, q1⟩ := Res.of_nox (show Res E W σ H ((h.d ρ1).nox >>= _) _ from q)
    obtain ⟨ds, e1, q3⟩ := q1.of_nox
    clear q q1
    by_cases c : szOk (numD ds).length = true
    · rw [if_pos c] at q3
      obtain ⟨c1, vs1, rfl, f1, _, g1⟩ := (t1.d S1 ex).kd e1
      exact ⟨c1, vs1, rfl, f1, q3 _ H1 _ S1 k1 (src_enumG e1 g1) (t1.hold ex) (of_decide_eq_true c)⟩
    · rw [if_neg c] at q3
      exact q3.elim
  | [], _, q => exact q.elim
  | _ :: _ :: _, _, q => exact q.elim
end
section
variable {ρ : Y.Env}
@[simp] theorem e_enumG {m : AM} : cEnumG m ρ = (m ρ >>= fun p => match p.1 with | [h] => ((h.d p.2).nox >>= fun x => (itD x).nox >>= fun ds => if szOk (numD ds).length = true then R.ok ((numD ds, h.ws), p.2) else .stk) | _ => .stk) := by
  unfold cEnumG; congr
@[simp] theorem numD_len {ds : List D} : (numD ds).length = ds.length := by unfold numD; rw [pairsD_len]; simp
end
end Y

set_option Elab.async false
set_option linter.all false
set_option maxRecDepth 100000
namespace Y
open PySem PySem.Spec PyProof.Rows L2
abbrev veB : List Value := [.type "ValueError", .type "Exception", .type "BaseException", .type "object"]
structure ErrT (K : PySem.W.Frag) (mg : Str → Option Value) (x : Str) : Prop where
  ex : ∃ C, mg x = some (.ref C) ∧ PySem.W.excIn K C veB "ValueError.__new__" = true ∧ PySem.W.keepIn K (.ref C) = true ∧ PySem.W.subIn K (.ref C) (.type "BaseException") = some true ∧ PySem.W.typeIn K (.ref C) = some (.type "type")
def sRaise (c : Str) : SM := fun _ => .er c []
section
variable {K : PySem.W.Frag} {X : Cx} {P0 : Pr} {O W U : List Nat} {E : EK} {XE : XK} {e : Expr} {ma : EM} {pos : Pos}
theorem cs_raise {x m : Str} {j : Nat} {p p2 q pos : Pos} (T : ErrT X.K X.mg x) (hc : X.calm = true) (tk : L2N.Takes X fun cls d _ H => XE cls d H) (hg : Gl X x := by rfl) (hdb : (x == ("__debug__" : Str)) = false := by decide) :
    CS X P0 O W U (exE X.mg XE) (.Raise (some (.Call (.Name x p) [.Constant (.str m) j p2] [] q)) none pos) (sRaise x) := by
  obtain ⟨C, gC, q, kC, b, t⟩ := T.ex
  refine PS.imp (L2N.ps_raise hc tk (L2N.pmk_own PySem.F.excBase_ValueError q gC kC (raises_own b t) hg hdb)) fun D σ H ⟨ρ, S, h⟩ => ?_
  obtain ⟨_, C', e1, e2⟩ := h H (Keep.refl)
  rw [gC] at e1; cases e1
  exact e2
end
@[simp] theorem e_raise {c : Str} {ρ : Y.Env} : sRaise c ρ = .er c [] := id rfl
end Y

set_option Elab.async false
set_option linter.all false
set_option maxRecDepth 100000
namespace Y
open PySem PySem.Spec PyProof.Rows L2
abbrev setO0 (w : World) : Obj := { cls := .type "set", dict := none, data := .set #[] 0 (.fresh 0 0 (!w.params.followText "set-order")) }
section
variable {P : Program} {w : World} {A : Around} {E : Value → Shared → Prop} {s : Shared}
set_option maxHeartbeats 3200000 in
theorem set_ofL {l : Addr} {ys : Array Value} (ns : List Int) {Q : Value → Shared → Prop} (hh : A.handled = none) (hl : s.heap.IsList l ys) (hi : IntsAre ys.toList ns) (hb : ns.length + 1 < scanBound)
    (q : ∀ (h' : Heap) (tk c : Nat), SetR w h' s.heap.objs.size (fun j => decide (j ∈ ns)) c → c ≤ ns.length → (∀ b o, s.heap.get? b = some o → h'.get? b = some o) → Q (.ref s.heap.objs.size) { s with heap := h', toks := tk }) :
    wpAny (model P w) A (call (.type "set") [.ref l]) Q E s := by
  have zy : ys.size = ns.length := by
    have z := IntsAre.length hi
    rwa [Array.length_toList] at z
  obtain ⟨_, _, z0⟩ := F.called_set.mro
  have z1 := F.called_set.made
  have z2 := F.called_set.sub
  refine wpAny_call (codeAny_of_tree (show wpAny _ _ (callAny (.type "set") _) _ _ _ from ?_))
  refine wpAny_pure ⟨Code.quiet_builtin _ (by decide +kernel), codeAny_builtin (F.entry_type_call) (?_)⟩
  rw [Around.under_plain (weight_type_call_type "set" [.ref l] []) (rfl)]
  have z3 := F.called_set.notType
  have z4 := F.called_set.canCreate
  have z5 := F.typeCall_set_1 (.ref l)
  repeat (any_goals (first | wp_step | assumption))
  refine codeAny_mono (code_set_led1 (.ref l) (E := E) (Q₁ := fun obj t => obj = .ref s.heap.objs.size ∧ t = { s with heap := s.heap.push (setO0 w) }) ⟨rfl, rfl⟩) fun r t hr => ?_
  cases r with
  | error e => exact hr
  | ok fl =>
    cases fl with
    | ret obj =>
      obtain ⟨e1, e2⟩ := hr
      subst e1 e2
      have gS : (s.heap.push (setO0 w)).get? s.heap.objs.size = some (setO0 w) := Heap.get?_push_size _ rfl
      have tS : Shared.TypeIs { s with heap := s.heap.push (setO0 w) } (.ref s.heap.objs.size) "set" := ⟨_, gS, rfl⟩
      have z6 := F.called_set.init.lookup
      have z7 := F.called_set.init.bind (.ref s.heap.objs.size)
      repeat (any_goals (first | wp_step | assumption))
      refine codeAny_mono (codeAny_call_builtin (R := wants (fun r t => r = .none ∧ ∃ h' tk c, t = { s with heap := h', toks := tk } ∧ SetR w h' s.heap.objs.size (fun j => decide (j ∈ ns)) c ∧ c ≤ ns.length ∧ ∀ b o, s.heap.get? b = some o → h'.get? b = some o) E) F.called_set.init.plain F.entry_set_init (check_set_init_1 tS ?_)) fun r2 t2 hr2 => ?_
      · obtain ⟨⟨cls, od, data, os⟩, ho, ec, m, ed⟩ := hl
        simp only at ec ed
        subst ec ed
        have ho1 : (s.heap.push (setO0 w)).get? l = some { cls := .type "list", dict := od, data := .seq ys m, slots := os } := Heap.get?_push_of_some _ ho
        have z8 := F.sub_list_set
        have z9 := F.sub_list_frozenset
        have za : (Value.type "list" == Value.type "dict") = false := by decide
        have hl1 : (s.heap.push (setO0 w)).IsList l ys := ⟨_, ho1, rfl, m, rfl⟩
        unfold Builtin.«set.__init__» noKeywords Builtin.Frozenset.updateFrom
        generalize hp : pyIter = p
        wp_walk
        subst hp
        refine wpAny_pyIter_list hl1 (wpAny_bind (wpAny_runValue ?_))
        have ls : l < s.heap.objs.size := Heap.lt_size ho
        have h3 : A.in1.in1.in1.handled = none := by simp [hh]
        have zp : (s.heap.push (setO0 w)).objs.size = s.heap.objs.size + 1 := Heap.size_push ..
        have ne : l ≠ (s.heap.push (setO0 w)).objs.size := by rw [zp]; exact Nat.ne_of_lt (Nat.lt_succ_of_lt ls)
        have nf : s.heap.objs.size ∉ [(s.heap.push (setO0 w)).objs.size, l] := by
          rw [zp]
          intro z
          rcases List.mem_cons.mp z with z | z
          · exact Nat.ne_of_lt (Nat.lt_succ_self _) z
          · exact Nat.ne_of_gt ls (by simpa using z)
        have hv : ∀ (i : Nat) (v : Value), ys[i]? = some v → ∃ k t, ns[i]? = some k ∧ v = .int k t := fun i v e => by
          have lt : i < ns.length := by rw [← zy]; exact (Array.getElem?_eq_some_iff.mp e).1
          obtain ⟨t, e2⟩ := IntsAre.int_at hi i v (by rw [Array.getElem?_toList]; exact e)
          exact ⟨ns[i], t, List.getElem?_eq_getElem lt, by rw [e2, List.getD_eq_getElem?_getD, List.getElem?_eq_getElem lt]; rfl⟩
        refine set_update_ints ((Walks.list h3 _ l ne ys).toS) s.heap.objs.size nf ns zy hb hv (ys.size - 0) 0 _ (by omega) (Nat.zero_le _) ⟨⟨_, Heap.get?_push_size _ rfl, rfl, rfl⟩, (hl1.push _)⟩ ?ha ?hb
        case ha =>
          have g2 : ((s.heap.push (setO0 w)).push { cls := .type "list_iterator", data := .fields #[.ref l, .int 0 0] }).get? s.heap.objs.size = some (setO0 w) := Heap.get?_push_of_some _ gS
          exact ⟨0, Nat.le_refl 0, setR_new_at g2⟩
        case hb =>
          intro t c mv lc hS
          obtain ⟨h', g2, d2, tk2, o2⟩ := t
          have e1 : g2 = s.gens := mv.gens
          have e2 : d2 = s.drawn := mv.drawn
          have e3 : o2 = s.os := mv.os
          subst e1 e2 e3
          refine wpAny_pure (show wpAny _ _ (ret Value.none) _ _ _ from ?_)
          rw [zy] at lc
          refine wpAny_pure ⟨rfl, h', tk2, c, rfl, hS, lc, fun b o e => ?_⟩
          have b0 : b < s.heap.objs.size := Heap.lt_size e
          refine mv.heap b o (fun z => ?_) (Heap.get?_push_of_some _ (Heap.get?_push_of_some _ (e)))
          rcases List.mem_cons.mp z with z | z
          · exact Nat.ne_of_lt b0 z
          · have z : b = (s.heap.push (setO0 w)).objs.size := by simpa using z
            rw [zp] at z
            exact Nat.ne_of_lt (Nat.lt_succ_of_lt b0) z
      · cases r2 with
        | error e => exact hr2
        | ok fl2 =>
          cases fl2 with
          | ret r =>
            obtain ⟨e1, h', tk, c, e2, hS, lc, hk⟩ := hr2
            subst e1 e2
            repeat (any_goals (first | wp_step | assumption))
            exact q _ _ _ hS lc hk
          | _ => exact hr2.elim
    | _ => exact hr.elim
end
end Y

set_option Elab.async false
set_option linter.all false
set_option maxRecDepth 100000
namespace Y
open PySem PySem.Spec PyProof.Rows L2
def dedupI : List Int → List Int
  | [] => []
  | x :: xs => if x ∈ xs then dedupI xs else x :: dedupI xs
@[simp] theorem mem_dedupI : ∀ {xs : List Int} {k : Int}, k ∈ dedupI xs ↔ k ∈ xs
  | [], k => by simp [dedupI]
  | x :: xs, k => by
    unfold dedupI
    split
    · rename_i h
      rw [mem_dedupI, List.mem_cons]
      exact ⟨.inr, fun z => z.elim (fun z => z ▸ h) id⟩
    · rw [List.mem_cons, mem_dedupI, List.mem_cons]
theorem nodup_dedupI : ∀ {xs : List Int}, (dedupI xs).Nodup
  | [] => by simp [dedupI]
  | x :: xs => by
    unfold dedupI
    split
    · exact nodup_dedupI
    · rename_i h
      exact List.nodup_cons.mpr ⟨fun z => h (mem_dedupI.mp z), nodup_dedupI⟩
theorem card_eq {xs ys : List Int} (h1 : xs.Nodup) (h2 : ys.Nodup) (h : ∀ k, k ∈ xs ↔ k ∈ ys) : xs.Perm ys := (List.perm_ext_iff_of_nodup h1 h2).mpr h
def setI (xs : List Int) : List Int := sortI (dedupI xs)
theorem setI_mem {xs : List Int} {k : Int} : k ∈ setI xs ↔ k ∈ xs := by rw [setI, (sortI_perm _).mem_iff, mem_dedupI]
theorem setI_nodup {xs : List Int} : (setI xs).Nodup := (sortI_perm _).nodup_iff.mpr nodup_dedupI
theorem setI_lt {xs : List Int} : (setI xs).Pairwise (· < ·) := by
  have h1 : (setI xs).Pairwise (· ≤ ·) := sortI_pw _
  have h2 : (setI xs).Pairwise (· ≠ ·) := setI_nodup
  exact h1.imp₂ (fun a b h1 h2 => by omega) h2
theorem setI_of {xs ys : List Int} (h : ys.Pairwise (· < ·)) (m : ∀ k, k ∈ ys ↔ k ∈ xs) : ys = setI xs :=
  List.Perm.eq_of_pairwise (le := fun a b : Int => a < b) (fun a b _ _ h1 h2 => by omega) h setI_lt (card_eq (h.imp fun h => by omega) setI_nodup fun k => by rw [m, setI_mem])
theorem setI_len {xs : List Int} : (setI xs).length = (dedupI xs).length := (sortI_perm _).length_eq
def rSetOf (K : PySem.W.Frag) (w : World) : List V → Hp → VK → Prop := fun vs H Q => ∃ (l : Addr) (ns : List Int), vs = [V.ref l] ∧ (SqL K H l (ns.map V.int) ∨ SqT K H l (ns.map V.int)) ∧ ns.length ≤ 4000 ∧
  ∀ p, H p = none → Q (.ref p) (upd H p (SetO w p (fun j => decide (j ∈ ns)) (dedupI ns).length))
section
variable {X : Cx}
theorem setR_card {w : World} {h : Heap} {a : Addr} {ns : List Int} {c : Nat} (R : SetR w h a (fun j => decide (j ∈ ns)) c) : c = (dedupI ns).length := by
  obtain ⟨o, es, ep, t, ho, hx, hd, g, nd, hm, hb, hf, hn, _⟩ := R
  have := (card_eq nd (nodup_dedupI (xs := ns)) fun k => by rw [mem_dedupI, ← hm k]; simp).length_eq
  rw [← hn, ← this]
  simp
theorem cr_setOf (hc : X.calm = true) : CallR X (.type "set") (rSetOf X.K X.w) := by
  intro pins s σ H vs us Q I r ⟨l, ns, e0, hq, hz, q⟩
  subst e0
  rw [Vals.ref1 r]
  have fin : ∀ (h' : Heap) (tk c : Nat), SetR X.w h' s.heap.objs.size (fun j => decide (j ∈ ns)) c → (∀ b o, s.heap.get? b = some o → h'.get? b = some o) → EP X pins σ Q (.ref s.heap.objs.size) { s with heap := h', toks := tk } := fun h' tk c R k => by
    rw [setR_card R] at R
    exact ⟨.ref _, upd H s.heap.objs.size (SetO X.w s.heap.objs.size (fun j => decide (j ∈ ns)) (dedupI ns).length), I.laid (t' := tk) k (Nat.le_refl _) (setO_new R), rfl, q _ (I.hok.fresh (Nat.le_refl _))⟩
  have hb : ns.length + 1 < scanBound := by unfold scanBound; omega
  rcases hq with hq | hq
  · obtain ⟨its, rv, p, _⟩ := I.list hq
    exact set_ofL ns (I.ok.hd hc) p.isList (by simpa using rv.ints) hb fun h' tk c R _ k => fin h' tk c R k
  · obtain ⟨its, rv, p, _⟩ := I.tuple hq
    exact call_set_tupI ns (I.ok.hd hc) p (by simpa using rv.ints) hb fun h' tk c R _ k => fin h' tk c R k
end
def seqI : D → Option (List Int)
  | .lst ds => intsOf ds
  | .tup ds => intsOf ds
  | .arg ns => some ns
  | _ => none
def cSetSort (m : EM) : EM := fun ρ => do
  let (h, ρ1) ← m ρ
  let d ← (h.d ρ1).nox
  match seqI d with
  | some ns => if ns.length ≤ 4000 ∧ (dedupI ns).length < 64 then pure (.fr (.lst ((setI ns).map D.int)), ρ1) else .stk
  | none => .stk
section
variable {K : PySem.W.Frag} {X : Cx} {P0 : Pr} {O W : List Nat} {E : EK} {a e : Expr} {ma : EM} {pos : Pos}
theorem RepW.seqI {H : Hp} {d : D} {P : Pr} {v : V} {ns : List Int} (r : RepW K H d P v) (e : seqI d = some ns) : ∃ l, v = .ref l ∧ (SqL K H l (ns.map V.int) ∨ SqT K H l (ns.map V.int)) := by
  cases d <;> simp only [Y.seqI, reduceCtorEq, Option.some.injEq] at e
  · obtain ⟨l, vs, rfl, t1, t2⟩ := r.tup
    rw [ints_rep e t2] at t1
    exact ⟨l, rfl, .inr (SqT.of t1)⟩
  · obtain ⟨l, vs, rfl, t1, t2⟩ := r.lst
    rw [ints_rep e t2] at t1
    exact ⟨l, rfl, .inl (SqL.of t1)⟩
  · subst e
    obtain ⟨l, rfl, t1⟩ := r.arg
    exact ⟨l, rfl, .inl t1⟩
theorem ce_setSort {p p2 q : Pos} (hc : X.calm = true) (hm : X.mg "sorted" = none) (hm2 : X.mg "set" = none) (ha : CEx X P0 O W E a ma) (hg : Gl X "sorted" := by rfl) (hg2 : Gl X "set" := by rfl)
    (na : starEach [a] X.env = (false, eval a X.env) :: starEach [] X.env := by rfl) (n2 : starEach [.Call (.Name "set" p2) [a] [] q] X.env = (false, eval (.Call (.Name "set" p2) [a] [] q) X.env) :: starEach [] X.env := by rfl) :
    CEx X P0 O W E (.Call (.Name "sorted" p) [.Call (.Name "set" p2) [a] [] q] [] pos) (cSetSort ma) :=
  PE.imp (pe_callB (cr_sortedSet hc) hg hm bo_sorted (pa_cons (pe_callTy (cr_setOf hc) hg2 hm2 bo_set (pa_cons ha pa_nil na) (by decide) (by decide) na rfl) pa_nil n2) (by decide) (by decide) n2 rfl) fun σ H Q ⟨ρ, S, h⟩ => by
    refine ⟨ρ, S, h.of_bind.mono fun ⟨h1, ρ1⟩ q v H1 S1 k1 r1 => ?_⟩
    obtain ⟨d, e1, q⟩ := q.of_nox
    have rw1 := r1.d S1 e1
    have q : Res E W σ H (match seqI d with | some ns => if ns.length ≤ 4000 ∧ (dedupI ns).length < 64 then R.ok (Hd.fr (.lst ((setI ns).map D.int)), ρ1) else .stk | none => .stk) _ := q
    cases es : seqI d with
    | none => rw [es] at q; exact q.elim
    | some ns =>
      rw [es] at q
      simp only at q
      by_cases c : ns.length ≤ 4000 ∧ (dedupI ns).length < 64
      · rw [if_pos c] at q
        obtain ⟨l, rfl, hl⟩ := rw1.seqI es
        refine ⟨l, ns, rfl, hl, c.1, fun p hp => ?_⟩
        refine ⟨p, _, _, rfl, upd_same, c.2, fun ms p' pw mm lm hp' => ?_⟩
        have em : ms = setI ns := setI_of pw fun k => by rw [mm]; simp
        subst em
        have hpn : H1 p' = none := by
          by_cases z : p' = p
          · rw [z, upd_same] at hp'; cases hp'
          · rwa [upd_ne z] at hp'
        have sm : Same H1 (upd (upd H1 p (SetO X.w p (fun j => decide (j ∈ ns)) (dedupI ns).length)) p' (.lst ((setI ns).map V.int))) := fun b o e => by
          rw [upd_ne (ne_of_none e hpn), upd_ne (ne_of_none e hp)]; exact e
        refine out_of (K := X.K) S1 k1 q _ _ sm ?_ fun _ a e => by cases e; exact hpn
        unfold Rep
        exact ⟨p', _, rfl, fun z => (S1.dom p' z).some hpn, upd_same, reps_ints _⟩
      · rw [if_neg c] at q
        exact q.elim
end
variable {ρ : Y.Env}
@[simp] theorem e_setSort {m : EM} : cSetSort m ρ = (m ρ >>= fun p => (p.1.d p.2).nox >>= fun d => match seqI d with | some ns => if ns.length ≤ 4000 ∧ (dedupI ns).length < 64 then R.ok (.fr (.lst ((setI ns).map D.int)), p.2) else .stk | none => .stk) := id rfl
@[simp] theorem seqI_l {ns : List Int} : seqI (.lst (ns.map D.int)) = some ns := ints_map ns
@[simp] theorem seqI_t {ns : List Int} : seqI (.tup (ns.map D.int)) = some ns := ints_map ns
end Y

set_option Elab.async false
set_option linter.all false
set_option maxRecDepth 100000
namespace Y
open PySem PySem.Spec PyProof.Rows L2
section
variable {K : PySem.W.Frag} {X : Cx} {P0 : Pr} {O W U : List Nat} {E : EK} {a b e : Expr} {sts : List Stmt} {ma mb : EM} {pos : Pos}
def indexD : D → D → R D
  | .lst ds, y => if (dOk (.lst ds) && dOk y) = true then (match ds.findIdx? fun z => eqP z y with | some j => .ok (.int j) | none => .stk) else .stk
  | .str x, .str y => (match Builtin.Str.occurrences x y 0 x.length 1 with | i :: _ => .ok (.int (i : Nat)) | [] => .stk)
  | _, _ => .stk
def cIndex (a b : EM) : EM := fun ρ => do
  let (h1, ρ1) ← a ρ
  let x0 ← (h1.d ρ1).nox
  match x0 with
  | .str x => do
    let (h2, ρ2) ← b ρ1
    let y ← (h2.d ρ2).nox
    let z ← (indexD (.str x) y).nox
    pure (.fr z, ρ2)
  | .lst _ => do
    let (h2, ρ2) ← b ρ1
    let x ← (h1.d ρ2).nox
    let y ← (h2.d ρ2).nox
    let z ← (indexD x y).nox
    pure (.fr z, ρ2)
  | _ => .stk
theorem dps_find {y : D} : ∀ {ds : List D} {j : Nat}, (ds.findIdx? fun z => eqP z y) = some j → (∃ z, (toPys ds)[j]? = some z ∧ PyData.eqv z (toPy y) = true) ∧ ∀ (m : Nat) (z : PyData), m < j → (toPys ds)[m]? = some z → PyData.eqv z (toPy y) = false
  | [], j, h => by simp at h
  | d :: ds, j, h => by
    rw [List.findIdx?_cons] at h
    by_cases c : eqP d y = true
    · rw [if_pos c] at h
      cases h
      exact ⟨⟨toPy d, by unfold toPys; rfl, c⟩, fun m z hm => by omega⟩
    · rw [if_neg c] at h
      cases e : ds.findIdx? fun z => eqP z y with
      | none => rw [e] at h; cases h
      | some i =>
        rw [e] at h
        cases h
        obtain ⟨⟨z, e1, e2⟩, e3⟩ := dps_find e
        refine ⟨⟨z, by unfold toPys; simpa using e1, e2⟩, fun m z hm hz => ?_⟩
        unfold toPys at hz
        cases m with
        | zero => simp at hz; subst hz; exact Bool.not_eq_true _ ▸ c
        | succ m => exact e3 m z (by have hm : m + 1 < i + 1 := hm; omega) (by simpa using hz)
theorem ce_index {apos : Pos} (hu : X.A.units + 65 < cLine) (ha : CEx X P0 O W E a ma) (hb : CEx X P0 O W E b mb) (hs : starEach [b] X.env = (false, eval b X.env) :: starEach [] X.env := by rfl) (hs2 : starEach [b] X.env = [(false, eval b X.env)] := by rfl) (hpl : (backTo pos (starEach [] X.env)).any (·.1) = false := by rfl)
    (hbase : attributeBase a "index" X.env (eval a X.env) = eval a X.env := by rfl) (hline : (apos.endLine == pos.line) = true := by rfl) (hfew : Few X pos [b] := by rfl) : CEx X P0 O W E (.Call (.Attribute a "index" apos) [b] [] pos) (cIndex ma mb) :=
  PE.imp (PE.or (pe_bm PySem.F.plainAttrs_list PySem.F.slot_list_index PySem.F.type_list_index (mt_indexD hu) ha (pa_cons hb pa_nil hs) hbase hfew hline hs hpl)
    (pe_m1 PySem.F.slot_str_index PySem.F.type_str_index mt_sindex ha hb hs2 hbase hline)) fun σ H Q ⟨ρ, S, h⟩ => by
    unfold cIndex at h
    cases em : ma ρ with
    | stk => rw [em] at h; exact h.elim
    | er c ds =>
      rw [em] at h
      exact .inl ⟨ρ, S, by rw [em]; exact h⟩
    | ok p =>
      obtain ⟨h1, ρ1⟩ := p
      rw [em] at h
      obtain ⟨x0, e0, h⟩ := Res.of_nox (show Res E W σ H ((h1.d ρ1).nox >>= _) _ from h)
      cases x0 <;> first | (exact h.elim) | skip
      · rename_i x
        refine .inr ⟨ρ, S, ?_⟩
        rw [em]
        intro v H1 S1 k1 r1
        obtain rfl := (r1.d S1 e0).str
        have h : Res E W σ H (mb ρ1 >>= fun q => (q.1.d q.2).nox >>= fun y => (indexD (.str x) y).nox >>= fun z => R.ok (Hd.fr z, q.2)) _ := h
        refine ⟨⟨x, rfl⟩, ρ1, S1, (h.of_bind.keep k1).mono fun ⟨h2, ρ2⟩ q w H2 S2 k2 r2 => ?_⟩
        obtain ⟨y, e2, q⟩ := q.of_nox
        obtain ⟨z, e3, q⟩ := q.of_nox
        have rw2 := r2.d S2 e2
        cases y <;> simp only [indexD, reduceCtorEq] at e3
        rename_i y
        obtain rfl := rw2.str
        split at e3
        · rename_i i rest eo
          cases e3
          exact ⟨x, y, i, rest, rfl, rfl, eo, (out_of (K := X.K) S2 (k1.trans k2) q).flat (by unfold Rep; rfl) rfl⟩
        · cases e3
      · rename_i ds0 _
        refine .inl ⟨ρ, S, ?_⟩
        rw [em]
        intro v H1 S1 k1 r1
        obtain ⟨l, vs, rfl, t1, t2⟩ := (r1.d S1 e0).lst
        have h : Res E W σ H (mb ρ1 >>= fun q => (h1.d q.2).nox >>= fun x => (q.1.d q.2).nox >>= fun y => (indexD x y).nox >>= fun z => R.ok (Hd.fr z, q.2)) _ := h
        refine ⟨.inl ⟨rfl, _, SqL.of t1⟩, ρ1, S1, (h.of_bind.keep k1).mono fun ⟨h2, ρ2⟩ q w H2 S2 k2 r2 => ?_⟩
        obtain ⟨x, e1, q⟩ := q.of_nox
        obtain ⟨y, e2, q⟩ := q.of_nox
        obtain ⟨z, e3, q⟩ := q.of_nox
        have rw1 := (r1.keep S1 k2).d S2 e1
        have rw2 := r2.d S2 e2
        have o := out_of (K := X.K) S2 (k1.trans k2) q
        cases x <;> simp only [indexD, reduceCtorEq] at e3
        · obtain ⟨_, _, e, _⟩ := rw1
        · rename_i ds _
          split at e3
          · rename_i c
            rw [Bool.and_eq_true] at c
            split at e3
            · rename_i j ej
              cases e3
              obtain ⟨⟨z, g1, g2⟩, g3⟩ := dps_find ej
              exact ⟨l, w, toPy y, toPys ds, j, z, rfl, rfl, by have q := rw1.dp c.1; unfold toPy at q; exact q, rw2.dp c.2, by have q := c.1; unfold dOk toPy at q; exact q, c.2, g1, g2, g3, o.flat (by unfold Rep; rfl) rfl⟩
            · cases e3
          · cases e3
end
variable {ρ : Y.Env}
@[simp] theorem e_index {a b : EM} : cIndex a b ρ = (a ρ >>= fun p => (p.1.d p.2).nox >>= fun x0 => match x0 with
    | .str x => (b p.2 >>= fun q => (q.1.d q.2).nox >>= fun y => (indexD (.str x) y).nox >>= fun z => R.ok (.fr z, q.2))
    | .lst _ => (b p.2 >>= fun q => (p.1.d q.2).nox >>= fun x => (q.1.d q.2).nox >>= fun y => (indexD x y).nox >>= fun z => R.ok (.fr z, q.2))
    | _ => .stk) := by
  unfold cIndex; congr
end Y

set_option Elab.async false
set_option linter.all false
set_option maxRecDepth 100000
namespace Y
open PySem PySem.Spec PyProof.Rows L2
theorem chkO_ws {O W : List Nat} {ρ : Y.Env} (h : (W.all fun i => O.contains i && shAt i ρ) = true) : chkO O W ρ ρ = .ok () := by
  unfold chkO
  rw [if_pos]
  intro j d e
  by_cases c : j ∈ W
  · have := List.all_eq_true.mp h j c
    rw [Bool.and_eq_true] at this
    obtain ⟨h1, h2⟩ := this
    unfold shAt at h2
    rw [e] at h2
    exact .inr (.inl ⟨by simpa using h1, h2⟩)
  · exact .inl ⟨e, c⟩
end Y

set_option Elab.async false
set_option linter.all false
set_option maxRecDepth 100000
namespace Y
open PySem PySem.Spec PyProof.Rows L2
section
variable {X : Cx} {P0 : Pr} {O W : List Nat} {E : EK} {XE : XK} {e : Expr} {es : List Expr} {ms : AM} {pos : Pos} {k np : Nat} {name : Str}
end
end Y

set_option Elab.async false
set_option linter.all false
set_option maxRecDepth 100000
namespace Y.HR
open PySem PySem.Spec PyProof.Rows L2 _root_.HT PySem.W PySem.SeqAt PySem.AutoSeq1 PySem.MeetsSeq PySem.MeetsSeq2 PySem.MeetsSeq3
section
variable {prog : Program} {w : World} {A : Around} {E : Value → Shared → Prop} {s : Shared}
theorem sliceApplied_rev {sl : Addr} {vk : Value} {n : Nat} {Q : Int × Int × Nat → Shared → Prop} (hs : s.heap.IsSliceOf sl .none .none vk) (pk : IsPart vk (some (-1)))
    (h : Q ((n : Int) - 1, -1, n) s) : wpAny (model prog w) A (Builtin.Slice.sliceApplied (.ref sl) (pure (n : Int))) Q E s := by
  obtain ⟨os, hos, hcs, hds⟩ := id hs
  unfold Builtin.Slice.sliceApplied Builtin.Slice.sliceFields
  refine wpAny_bind (wpAny_bind (wpAny_field hos hds (x := .none) rfl (wpAny_bind (wpAny_field hos hds (x := .none) rfl (wpAny_bind (wpAny_field hos hds (x := vk) rfl (wpAny_pure ?_)))))))
  refine wpAny_bind (slicePart_ pk ?_)
  show wpAny _ _ (if ((-1 : Int) == 0) = true then _ else _) _ _ s
  rw [if_neg (by decide)]
  refine wpAny_bind (slicePart_none (wpAny_bind (slicePart_none (wpAny_bind (wpAny_pure ?_)))))
  show wpAny _ _ (pure ((n : Int) - 1, (-1 : Int), Builtin.Slice.slicePlaces ((n : Int) - 1) (-1) (-1))) _ _ s
  have e : Builtin.Slice.slicePlaces ((n : Int) - 1) (-1) (-1) = n := by
    unfold Builtin.Slice.slicePlaces
    have h1 : ¬ ((-1 : Int) > 0) := by omega
    simp only [h1, if_false]
    rw [show (- -1 : Int) = 1 by decide, Int.ediv_one]
    split <;> omega
  rw [e]
  exact wpAny_pure h
theorem fm_congr {α β : Type} {f g : α → Option β} : ∀ l : List α, (∀ m ∈ l, f m = g m) → l.filterMap f = l.filterMap g
  | [], _ => rfl
  | x :: l, h => by
    have ih := fm_congr l fun m hm => h m (by simp [hm])
    rw [List.filterMap_cons, List.filterMap_cons, h x (by simp), ih]
theorem pick_rev (xs : Array Value) : ((List.range xs.size).filterMap fun (m : Nat) => xs[((xs.size : Int) - 1 + (m : Int) * -1).toNat]?).toArray = xs.toList.reverse.toArray := by
  have e : ((List.range xs.size).filterMap fun (m : Nat) => xs[((xs.size : Int) - 1 + (m : Int) * -1).toNat]?) = ((List.range xs.size).map fun k => xs.size - 1 - k).filterMap (xs[·]?) := by
    rw [List.filterMap_map]
    refine fm_congr _ fun m hm => ?_
    have := List.mem_range.mp hm
    show _ = xs[xs.size - 1 - m]?
    have : ((xs.size : Int) - 1 + (m : Int) * -1).toNat = xs.size - 1 - m := by omega
    rw [this]
  rw [e, krv_range, List.filterMap_reverse, krv_all]
theorem getItem_tuple_rev {t sl : Addr} {items : Array Value} {vk : Value} {Q : Value → Shared → Prop} (ht : IsTup s.heap t items) (hs : s.heap.IsSliceOf sl .none .none vk) (pk : IsPart vk (some (-1)))
    (h : Q (.ref s.heap.objs.size) { s with heap := s.heap.push { cls := .type "tuple", data := .seq items.toList.reverse.toArray } })
    (hsz : items.size ≤ sizeLine) : wpAny (model prog w) A (getItem (.ref t) (.ref sl)) Q E s := by
  have htake : sizeOk (.seq items.toList.reverse.toArray) := by
    show items.toList.reverse.toArray.size ≤ sizeLine
    rw [List.size_toArray, List.length_reverse, Array.length_toList]
    exact hsz
  obtain ⟨os, hos, hcs, hds⟩ := id hs
  have hTs : s.TypeIs (.ref sl) "slice" := ⟨os, hos, hcs⟩
  unfold getItem
  try with_reducible refine wpAny_holding ?_
  first | refine wpAny_bind (wpAny_pure ?_) | skip
  refine wpAny_bind (wpAny_sequenceKey ht.typeIs (by decide) ?_)
  refine wpAny_bind (wpAny_callSpecial?_slot (name := Str.ofString "__getitem__") ht.typeIs PyProof.Rows.slot_tuple_getitem
    (wpAny_call_entry PyProof.Rows.slot_tuple_getitem ht.typeIs entry_tuple_getitem ?_ (args_tuple_getitem _ _)))
  show wpAny _ _ (Builtin.Tuple.tupleItemsOf (.ref t) >>= _) _ _ s
  refine wpAny_bind (tupleItemsOf_ ht ?_)
  refine wpAny_bind (wpAny_typeOf hTs ?_)
  rw [if_pos (by decide)]
  refine wpAny_bind (sliceApplied_rev hs pk ?_)
  have hno : ¬ ((((items.size : Int) - 1) == 0 && (-1 : Int) == 1 && items.size == items.size) = true) := by simp
  show wpAny _ _ (if (((items.size : Int) - 1) == 0 && (-1 : Int) == 1 && items.size == items.size) = true then _ else _) _ _ s
  rw [if_neg hno, pick_rev]
  first
    | exact wpAny_bind (m := Builtin.Tuple.tupleExact _) (wpAny_newObj_type (wpAny_pure ⟨_, rfl, wpAny_pure h⟩) htake)
    | exact wpAny_bind (m := Builtin.Tuple.tupleExact _) (wpAny_newObj_type (wpAny_bind (wpAny_pure (wpAny_pure ⟨_, rfl, wpAny_pure h⟩))) htake)
    | exact wpAny_bind (wpAny_bind (m := Builtin.Tuple.tupleExact _) (wpAny_newObj_type (wpAny_pure (wpAny_pure ⟨_, rfl, wpAny_pure h⟩)) htake))
    | exact wpAny_bind (wpAny_bind (m := Builtin.Tuple.tupleExact _) (wpAny_newObj_type (wpAny_pure ⟨_, rfl, wpAny_pure h⟩) htake))
end
end Y.HR
namespace Y
open PySem PySem.Spec PyProof.Rows L2
def RvR (X : Cx) (r : V → Hp → VK → Prop) : Prop :=
  ∀ (pins : List (Addr × Obj)) (s : Shared) (σ : St) (H : Hp) (x : V) (v vk : Value) (sl : Addr) (Q : VK), Inv X pins σ H s → RelV x v → s.heap.IsSliceOf sl .none .none vk → IsPart vk (some (-1)) → r x H Q →
    ∃ T id, typeLookup (.type T) "__getitem__" = pure (some (.builtin id)) ∧ s.TypeIs v T ∧ wpAny (model X.prog X.w) X.A (getItem v (.ref sl)) (EP X pins σ Q) X.xe s
theorem RvR.or {X : Cx} {r r' : V → Hp → VK → Prop} (h : RvR X r) (h' : RvR X r') : RvR X (fun x H Q => r x H Q ∨ r' x H Q) := by
  intro pins s σ H x v vk sl Q I rx hs pk q
  rcases q with q | q
  · exact h pins s σ H x v vk sl Q I rx hs pk q
  · exact h' pins s σ H x v vk sl Q I rx hs pk q
section
variable {X : Cx} {e k : Expr} {te : TE} {p2 pos : Pos}
def rRvT (K : PySem.W.Frag) : V → Hp → VK → Prop := fun x H Q => ∃ a xs, x = .ref a ∧ SqT K H a xs ∧ ∀ p, H p = none → Q (.ref p) (upd H p (.tup xs.reverse))
theorem rv_tup : RvR X (rRvT X.K) := by
  intro pins s σ H x v vk sl Q I rx hs pk h
  obtain ⟨a, xs, rfl, hx, q⟩ := h
  cases rx
  obtain ⟨its, r, ht, hz⟩ := I.tuple hx
  have hlen : its.toArray.size = xs.length := by rw [List.size_toArray]; exact r.length.symm
  refine ⟨"tuple", _, PyProof.Rows.slot_tuple_getitem.lookup, ht.typeIs, ?_⟩
  refine HR.getItem_tuple_rev ht hs pk ?_ (by rw [hlen]; exact hz)
  refine ⟨.ref s.heap.objs.size, _, I.laid (t' := s.toks) (o := .tup xs.reverse) (fun b ob q => Heap.get?_push_of_some _ q) (Nat.le_refl _) ?_, rfl, q _ (I.hok.fresh (Nat.le_refl _))⟩
  exact ⟨by rw [List.length_reverse]; exact hz, _, r.reverse, IsTup.new _ _⟩
def rRvL (K : PySem.W.Frag) : V → Hp → VK → Prop := fun x H Q => ∃ a xs, x = .ref a ∧ SqL K H a xs ∧ ∀ p, H p = none → Q (.ref p) (upd H p (.lst xs.reverse))
theorem rv_list : RvR X (rRvL X.K) := by
  intro pins s σ H x v vk sl Q I rx hs pk h
  obtain ⟨a, xs, rfl, hx, q⟩ := h
  cases rx
  obtain ⟨its, r, ht, hz⟩ := I.list hx
  have hlen := r.length
  refine ⟨"list", _, slot_list_getitem.lookup, ht.isList.typeIs, ?_⟩
  refine wpAny_getItem_list_slice ht.isList hs .none .none pk (by simp) ?_ (by rw [List.size_toArray] <;> omega)
  rw [PySem.W.krv_pick]
  refine ⟨.ref s.heap.objs.size, _, I.laid (t' := s.toks) (o := .lst xs.reverse) (fun b ob q => Heap.get?_push_of_some _ q) (Nat.le_refl _) ?_, rfl, q _ (I.hok.fresh (Nat.le_refl _))⟩
  exact ⟨by rw [List.length_reverse]; exact hz, _, 0, r.reverse, Heap.get?_push_size _ rfl⟩
def tRv (r : V → Hp → VK → Prop) (te : TE) (tk : TO) : TE := fun σ H Q => te σ H fun x H1 => tk σ H1 fun l H2 => l = some (-1) ∧ r x H2 Q
theorem pe_rev {r : V → Hp → VK → Prop} {tk : TO} (hr : RvR X r) (he : PE X e te) (hk : PO X (some k) tk) : PE X (.Subscript e (.Slice none none (some k) p2) pos) (tRv r te tk) := by
  refine ⟨fun pins s σ H Q I h => ?_⟩
  refine Subscript_ (thn (he.run pins s σ H _ I h) fun v s1 ⟨x, H1, I1, r1, q1⟩ => ?_)
  refine wpAny_Slice ?_
  rw [evalPart_none]
  refine wpAny_pure ?_
  refine wpAny_pure ?_
  refine thn (hk.run pins s1 σ H1 _ I1 q1) fun vk s3 ⟨l, H3, I3, pk, e3, q3⟩ => ?_
  subst e3
  have I4 : Inv X pins σ H3 { s3 with heap := s3.heap.push { cls := .type "slice", data := .fields #[.none, .none, vk] } } := I3.kept (t' := s3.toks) fun b ob q => Heap.get?_push_of_some _ q
  obtain ⟨T, id, hT, ht, hg⟩ := hr pins { s3 with heap := s3.heap.push { cls := .type "slice", data := .fields #[.none, .none, vk] } } σ H3 x v vk s3.heap.objs.size Q I4 r1 (Heap.IsSliceOf.new ..) pk q3
  show wpAny (model X.prog X.w) X.A (subscriptTail e (.Slice none none (some k) p2) v (.ref s3.heap.objs.size)) (EP X pins σ Q) X.xe { s3 with heap := s3.heap.push { cls := .type "slice", data := .fields #[.none, .none, vk] } }
  exact tail_any (ops := [v, .ref s3.heap.objs.size]) ht hT hg (by with_unfolding_all rfl)
theorem Reps.revs {K : PySem.W.Frag} {H : Hp} {P : Pr} : ∀ {ds : List D} {vs : List V}, Reps K H ds P vs → Reps K H ds.reverse P vs.reverse
  | [], _, h => by rw [h.nil_iff]; exact Reps.nil
  | d :: ds, _, h => by
    obtain ⟨v, ws, rfl, h1, h2⟩ := h.cons_iff
    rw [List.reverse_cons, List.reverse_cons]
    exact (Reps.revs h2).append (Reps.cons h1 Reps.nil)
def revD : D → R D
  | .tup ds => .ok (.tup ds.reverse)
  | .lst ds => .ok (.lst ds.reverse)
  | _ => .stk
def cRev (a : EM) (k : OM) : EM := fun ρ => do
  let (h, ρ1) ← a ρ
  let (l, ρ2) ← k ρ1
  let d ← (h.d ρ2).nox
  let z ← (if l = some (-1) then revD d else .stk).nox
  pure (.fr z, ρ2)
variable {P0 : Pr} {O W : List Nat} {E : EK} {ma : EM} {mk : OM}
theorem ce_rev (ha : CEx X P0 O W E e ma) (hk : CO X P0 O W E (some k) mk) : CEx X P0 O W E (.Subscript e (.Slice none none (some k) p2) pos) (cRev ma mk) := PE.imp (pe_rev (rv_list.or rv_tup) ha hk) fun σ H Q ⟨ρ, S, h⟩ => by
  refine ⟨ρ, S, h.of_bind.mono fun ⟨h1, ρ1⟩ q x H1 S1 k1 r1 => ⟨ρ1, S1, (q.keep k1).of_bind.mono fun ⟨l, ρ2⟩ q2 H2 S2 k2 => ?_⟩⟩
  obtain ⟨dx, e1, q4⟩ := q2.of_nox
  obtain ⟨dz, e3, q5⟩ := q4.of_nox
  by_cases c : l = some (-1)
  · refine ⟨c, ?_⟩
    rw [if_pos c] at e3
    have rx := (r1.keep S1 k2).d S2 e1
    have out := out_of S2 (k1.trans k2) q5
    unfold revD at e3
    split at e3
    · cases e3
      obtain ⟨p, vs, rfl, t1, t2⟩ := rx.tup
      exact .inr ⟨p, vs, rfl, SqT.of t1, fun p hp => out.newT S2.dom (Reps.revs t2) hp⟩
    · cases e3
      obtain ⟨p, vs, rfl, t1, t2⟩ := rx.lst
      exact .inl ⟨p, vs, rfl, SqL.of t1, fun p hp => out.newL S2.dom (Reps.revs t2) hp⟩
    · cases e3
  · rw [if_neg c] at e3
    cases e3
def cDic0 : EM := fun ρ => .ok (.fr (.dik [] []), ρ)
theorem ce_dic0 : CEx X P0 O W E (.Dict [] [] pos) cDic0 := PE.imp pe_dnewK fun σ H Q ⟨ρ, S, h⟩ => fun p hp => by
  have out : Out X.K (FA P0 O σ) H (.dik [] []) Q := out_of S .refl fun v H' S' k r => h v H' S' k r
  refine out (.ref p) _ (Same.new hp) ?_ fun _ a e => by cases e; exact hp
  unfold Rep
  exact ⟨p, [], rfl, fun z => (S.dom p z).some hp, rfl, .inl upd_same, Reps.nil⟩
end
@[simp] theorem e_rev {a : EM} {k : OM} {ρ : Env} : cRev a k ρ = (a ρ >>= fun p => k p.2 >>= fun q => (p.1.d q.2).nox >>= fun d => (if q.1 = some (-1) then revD d else .stk).nox >>= fun z => R.ok (.fr z, q.2)) := id rfl
@[simp] theorem e_dic0 {ρ : Env} : cDic0 ρ = .ok (.fr (.dik [] []), ρ) := id rfl
@[simp] theorem d_revT {x : List D} : revD (.tup x) = .ok (.tup x.reverse) := id rfl
@[simp] theorem d_revL {x : List D} : revD (.lst x) = .ok (.lst x.reverse) := id rfl
@[simp] theorem d_mulS {x : Str} {k : Int} : mulD (.str x) (.int k) = if k < 2 ^ 20 ∧ -(2 ^ 20) < k ∧ szOk (x.length * k.toNat) = true then .ok (.str (repS k x)) else .stk := id rfl
@[simp] theorem d_mulT {x : List D} {k : Int} : mulD (.tup x) (.int k) = if x.isEmpty = false ∧ -(2 ^ 20) < k ∧ k ≤ 1000 ∧ x.length ≤ 1000 then .ok (.tup (List.replicate k.toNat x).flatten) else .stk := id rfl
@[simp] theorem d_mulL {x : List D} {k : Int} : mulD (.lst x) (.int k) = if k < 2 ^ 20 ∧ -(2 ^ 20) < k ∧ szOk (x.length * k.toNat) = true then .ok (.lst (List.replicate k.toNat x).flatten) else .stk := id rfl
end Y

set_option Elab.async false
set_option linter.all false
set_option maxRecDepth 100000
namespace Y
open PySem PySem.Spec PyProof.Rows L2
section
variable {K : PySem.W.Frag} {P0 : Pr} {O W U : List Nat} {ρ : Y.Env} {σ : L2.St} {H : Hp}
theorem RepO.less2 {d : D} {P P' : Pr} {v : V} (hm : ∀ b, P b → isMut (H b)) (h : RepO K H d P v) (hp : ∀ b, P' b → P b) : RepO K H d P' v := h.mono hm (fun _ _ e _ => e) (fun b z => .inl (hp b z)) fun _ _ _ e => e
theorem Sim.openL (S : Sim K P0 O W ρ σ H) {i : Nat} {p : Addr} (hi : i ∉ O) (hl : i < ρ.length) (hp : H p = none) : Sim K P0 (i :: O) W (ρ.set i (some (.lst []))) (σ.set i (some (.ref p))) (upd H p (.lst [])) := by
  have hs : i < σ.length := Nat.lt_of_lt_of_le hl S.len
  have np : ¬ FA P0 O σ p := fun z => by have := S.dom p z; rw [hp] at this; exact this
  have gs : ∀ {j : Nat} {b : Addr}, j ∈ i :: O → (σ.set i (some (V.ref p)))[j]? = some (some (.ref b)) → (j = i ∧ b = p) ∨ (j ∈ O ∧ j ≠ i ∧ σ[j]? = some (some (.ref b))) := fun {j b} hj e => by
    by_cases hij : i = j
    · subst hij
      rw [List.getElem?_set_self hs] at e
      cases e
      exact .inl ⟨rfl, rfl⟩
    · rw [List.getElem?_set_ne hij] at e
      exact .inr ⟨(List.mem_cons.mp hj).resolve_left fun z => hij z.symm, fun z => hij z.symm, e⟩
  have fa : ∀ b, FA P0 (i :: O) (σ.set i (some (V.ref p))) b → FA P0 O σ b ∨ b = p := fun b z => by
    rcases z with z | ⟨j, hj, e⟩
    · exact .inl (.inl z)
    · rcases gs hj e with ⟨_, e⟩ | ⟨h1, _, h2⟩
      · exact .inr e
      · exact .inl (.inr ⟨j, h1, h2⟩)
  have sm : Same H (upd H p (.lst [])) := Same.new hp
  refine ⟨fun j hj => List.mem_cons_of_mem _ (S.sub j hj), by simpa using S.len, fun b z => ?_, fun j d e n => ?_, fun j d e n => ?_, fun j k a hj hk e1 e2 => ?_, fun a z hz => ?_⟩
  · by_cases hb : b = p
    · rw [hb, upd_same]; trivial
    · rw [upd_ne hb]
      rcases fa b z with z | z
      · exact S.dom b z
      · exact absurd z hb
  · have hij : i ≠ j := fun z => n (by simp [z])
    rw [List.getElem?_set_ne hij] at e ⊢
    obtain ⟨v, h1, h2⟩ := S.val j d e fun z => n (List.mem_cons_of_mem _ z)
    exact ⟨v, h1, h2.mono d S.dom (fun b o e _ => sm b o e) fun b z => (fa b z).imp id fun e => by rw [e]; exact hp⟩
  · by_cases hij : i = j
    · subst hij
      rw [List.getElem?_set_self hl] at e
      cases e
      exact ⟨_, List.getElem?_set_self hs, p, [], rfl, upd_same, Reps.nil⟩
    · rw [List.getElem?_set_ne hij] at e ⊢
      obtain ⟨v, h1, h2⟩ := S.own j d e ((List.mem_cons.mp n).resolve_left fun z => hij z.symm)
      exact ⟨v, h1, h2.mono S.dom (fun b o e _ => sm b o e) (fun b z => (fa b z).imp id fun e => by rw [e]; exact hp) fun a o _ e => sm a o e⟩
  · rcases gs hj e1 with ⟨a1, a2⟩ | ⟨a1, a2, a3⟩
    · rcases gs hk e2 with ⟨b1, b2⟩ | ⟨b1, b2, b3⟩
      · rw [a1, b1]
      · exact absurd (.inr ⟨k, b1, by rw [← a2]; exact b3⟩) np
    · rcases gs hk e2 with ⟨b1, b2⟩ | ⟨b1, b2, b3⟩
      · exact absurd (.inr ⟨j, a1, by rw [← b2]; exact a3⟩) np
      · exact S.sep j k a a1 b1 a3 b3
  · obtain ⟨j, hj, e⟩ := z
    rcases gs hj e with ⟨_, e⟩ | ⟨h1, _, h2⟩
    · exact np (.inl (by rw [← e]; exact hz))
    · exact S.sep0 a ⟨j, h1, h2⟩ hz
theorem Sim.closeL (S : Sim K P0 (i :: O) W ρ σ H) {y : Nat} {a : Addr} {ds : List D} {vs : List V} (hW : ∀ j ∈ W, j ∈ O) (hi : i ∉ O) (hy : y ∉ O) (hyi : y ≠ i) (ha : σ[i]? = some (some (.ref a))) (hH : H a = some (.lst vs)) (hr : Reps K H ds (FA P0 (i :: O) σ) vs) :
    Sim K P0 O W ((ρ.set y (some (.lst ds))).set i none) (σ.set y (some (.ref a))) H := by
  have gs : ∀ {j : Nat}, j ∈ O → (σ.set y (some (V.ref a)))[j]? = σ[j]? := fun {j} hj => List.getElem?_set_ne fun z => hy (by rw [z]; exact hj)
  have fa : ∀ b, FA P0 O (σ.set y (some (V.ref a))) b → FA P0 (i :: O) σ b := fun b z => by
    rcases z with z | ⟨j, hj, e⟩
    · exact .inl z
    · rw [gs hj] at e
      exact .inr ⟨j, List.mem_cons_of_mem _ hj, e⟩
  have oa : OA (i :: O) σ a := ⟨i, by simp, ha⟩
  have na : ¬ FA P0 O (σ.set y (some (V.ref a))) a := fun z => by
    rcases z with z | ⟨j, hj, e⟩
    · exact S.sep0 a oa z
    · rw [gs hj] at e
      exact hi (by rw [← S.sep j i a (List.mem_cons_of_mem _ hj) (by simp) e ha]; exact hj)
  refine ⟨hW, by simpa using S.len, fun b z => S.dom b (fa b z), fun j d e n => ?_, fun j d e n => ?_, fun j k b hj hk e1 e2 => ?_, fun b z => ?_⟩
  · by_cases hij : i = j
    · subst hij
      have h1 : i < ρ.length := by have := (List.getElem?_eq_some_iff.mp e).1; simpa using this
      rw [List.getElem?_set_self (by simpa using h1)] at e
      cases e
    · rw [List.getElem?_set_ne hij] at e
      by_cases hyj : y = j
      · subst hyj
        have h1 : y < ρ.length := by have := (List.getElem?_eq_some_iff.mp e).1; simpa using this
        rw [List.getElem?_set_self h1] at e
        cases e
        refine ⟨_, List.getElem?_set_self (Nat.lt_of_lt_of_le h1 S.len), ?_⟩
        unfold Rep
        exact ⟨a, vs, rfl, na, hH, hr.less S.dom fun b z => z.elim (fa b) fun z => .inr (by rw [z]; exact oa)⟩
      · rw [List.getElem?_set_ne hyj] at e ⊢
        obtain ⟨v, h1, h2⟩ := S.val j d e fun z => (List.mem_cons.mp z).elim (fun q => hij q.symm) n
        exact ⟨v, h1, h2.less S.dom fa⟩
  · have hij : i ≠ j := fun z => hi (by rw [z]; exact n)
    have hyj : y ≠ j := fun z => hy (by rw [z]; exact n)
    rw [List.getElem?_set_ne hij, List.getElem?_set_ne hyj] at e
    obtain ⟨v, h1, h2⟩ := S.own j d e (List.mem_cons_of_mem _ n)
    exact ⟨v, by rw [gs n]; exact h1, h2.less2 S.dom fa⟩
  · rw [gs hj] at e1
    rw [gs hk] at e2
    exact S.sep j k b (List.mem_cons_of_mem _ hj) (List.mem_cons_of_mem _ hk) e1 e2
  · obtain ⟨j, hj, e⟩ := z
    rw [gs hj] at e
    exact S.sep0 b ⟨j, List.mem_cons_of_mem _ hj, e⟩
end
theorem Res.chg {E : EK} {O O1 : List Nat} {σ σ1 : L2.St} {H H1 : Hp} {α : Type} {r : R α} {k : α → Prop} (h : Res E O σ H r k) (f : ∀ H', Keep O1 σ1 H1 H' → Keep O σ H H') : Res E O1 σ1 H1 r k := by
  cases r with
  | ok a => exact h
  | er c ds => exact fun H' kp => h H' (f H' kp)
  | stk => exact h
def sBuild (i y : Nat) (m : SM) : SM := fun ρ =>
  if i < ρ.length then do
    let (f, ρ2) ← m (ρ.set i (some (.lst [])))
    match f with
    | .nx => do
      let ds ← (lstAt i ρ2).nox
      pure (.nx, (ρ2.set y (some (.lst ds))).set i none)
    | _ => .stk
  else .stk
section
variable {X : Cx} {P0 : Pr} {O W U : List Nat} {E : EK} {st2 : Stmt} {m : SM}
theorem cs_build {i y : Nat} {x z : Str} {p1 p2 p3 p4 p5 p6 : Pos} (hN : X.N.Nodup) (h2 : CS X P0 (i :: O) W U E st2 m) (hW : ∀ j ∈ W, j ∈ O := by decide) (hi : i ∉ O := by decide) (hy : y ∉ O := by decide) (hyi : y ≠ i := by decide) (hu : i ∉ U := by decide) (hu2 : y ∉ U := by decide)
    (hx : X.N[i]? = some x := by rfl) (hz : X.N[y]? = some z := by rfl) (hl : Loc X.env.scope x := by first | exact Or.inl rfl | exact Or.inr rfl) (hl2 : Loc X.env.scope z := by first | exact Or.inl rfl | exact Or.inr rfl)
    (hv : Vis X.env.scope x := by first | exact Or.inl rfl | exact Or.inr rfl)
    (hf : X.fn x = true ∨ X.env.scope.names.lookup x = some .local := by first | exact .inl rfl | exact .inr rfl) (hf2 : X.fn z = true ∨ X.env.scope.names.lookup z = some .local := by first | exact .inl rfl | exact .inr rfl)
    (hd : (x == ("__debug__" : Str)) = false := by decide) (hcd : (x == ("__classdict__" : Str)) = false := by decide)
    (hs : swapsWithSole [.Name x p1] (.List [] p2) p3.line X.env = pure false := by rfl) (hw : swappedStores [.Name x p1] (.List [] p2) X.env = pure none := by rfl)
    (hs2 : swapsWithSole [.Name z p4] (.Name x p5) p6.line X.env = pure false := by rfl) (hw2 : swappedStores [.Name z p4] (.Name x p5) X.env = pure none := by rfl) :
    CSs X P0 O W U E [.Assign [.Name x p1] (.List [] p2) p3, st2, .Assign [.Name z p4] (.Name x p5) p6] (sBuild i y m) :=
  PSs.imp (pss_cons (ps_asg (pe_lst pa_nil) (pg_name hN hx hl hf) hs hw) (pss_cons h2 (pss_one (ps_asg (pe_var hx hv hd hcd) (pg_name hN hz hl2 hf2) hs2 hw2)))) fun D σ H ⟨ρ, S, h⟩ => by
    have h : Res E O σ H (if i < ρ.length then (m (ρ.set i (some (.lst []))) >>= fun q => match q.1 with | .nx => ((lstAt i q.2).nox >>= fun ds => R.ok (Fl.nx, (q.2.set y (some (.lst ds))).set i none)) | _ => .stk) else .stk) _ := h
    by_cases hlen : i < ρ.length
    · rw [if_pos hlen] at h
      refine ⟨Nat.zero_le _, fun p hp => ?_⟩
      have S1 := S.openL hi hlen hp
      have hs1 : i < σ.length := Nat.lt_of_lt_of_le hlen S.len
      have g1 : ∀ {j : Nat}, j ∈ O → (σ.set i (some (V.ref p)))[j]? = σ[j]? := fun {j} hj => List.getElem?_set_ne fun q => hi (by rw [q]; exact hj)
      have o1 : ∀ {b : Addr}, OA (i :: O) (σ.set i (some (V.ref p))) b → OA O σ b ∨ b = p := fun {b} ⟨j, hj, e⟩ => by
        by_cases hij : i = j
        · subst hij
          rw [List.getElem?_set_self hs1] at e
          cases e
          exact .inr rfl
        · rw [List.getElem?_set_ne hij] at e
          exact .inl ⟨j, (List.mem_cons.mp hj).resolve_left fun q => hij q.symm, e⟩
      have np : ∀ {b : Addr} {o : HO}, H b = some o → b ≠ p := fun e q => by rw [q, hp] at e; cases e
      refine ⟨ρ.set i (some (.lst [])), S1, ?_⟩
      have h0 := h.of_bind
      have h1 := h0.chg (O1 := i :: O) (σ1 := σ.set i (some (V.ref p))) (H1 := upd H p (.lst [])) fun H' k => ⟨fun b o e n => k.keep b o (by rw [upd_ne (np e)]; exact e) fun q => (o1 q).elim n fun q => np e q, fun b e => k.some b (by
        by_cases hb : b = p
        · rw [hb, upd_same]; intro q; cases q
        · rw [upd_ne hb]; exact e)⟩
      refine h1.mono fun ⟨f, ρ2⟩ q σ2 H2 S2 t2 l2 => ?_
      cases f with
      | bk => exact q.elim
      | ct => exact q.elim
      | rt hd => exact q.elim
      | nx =>
        obtain ⟨ds, e1, q⟩ := Res.of_nox (show Res E O σ H ((lstAt i ρ2).nox >>= fun ds => R.ok (Fl.nx, (ρ2.set y (some (.lst ds))).set i none)) _ from q)
        obtain ⟨a, vs, ha, hH, hr⟩ := S2.lst (i := i) (by simp) (lstAt_ok e1)
        refine ⟨.ref a, ha, ?_⟩
        have S3 := S2.closeL hW hi hy hyi ha hH hr
        have g3 : ∀ {j : Nat}, j ∈ O → (σ2.set y (some (V.ref a)))[j]? = σ2[j]? := fun {j} hj => List.getElem?_set_ne fun q => hy (by rw [q]; exact hj)
        refine q _ H2 S3 ⟨fun b o e n => ?_, fun b e => ?_, fun b ⟨j, hj, e⟩ => ?_, fun j hj => ?_⟩ ?_
        · exact t2.keep b o (by rw [upd_ne (np e)]; exact e) fun q => (o1 q).elim n fun q => np e q
        · refine t2.some b ?_
          by_cases hb : b = p
          · rw [hb, upd_same]; intro q; cases q
          · rw [upd_ne hb]; exact e
        · rw [g3 hj] at e
          rcases t2.own b ⟨j, List.mem_cons_of_mem _ hj, e⟩ with z | z
          · rcases o1 z with z | z
            · exact .inl z
            · exact .inr (by rw [z]; exact hp)
          · refine .inr ?_
            by_cases hb : b = p
            · rw [hb]; exact hp
            · rw [upd_ne hb] at z; exact z
        · rw [List.getElem?_set_ne fun q => hu2 (by rw [q]; exact hj), t2.unch j hj, List.getElem?_set_ne fun q => hu (by rw [q]; exact hj)]
        · rw [List.length_set, l2, List.length_set]
    · rw [if_neg hlen] at h
      exact h.elim
end
@[simp] theorem e_build {i y : Nat} {m : SM} {ρ : Y.Env} : sBuild i y m ρ = if i < ρ.length then (m (ρ.set i (some (.lst []))) >>= fun q => match q.1 with | .nx => ((lstAt i q.2).nox >>= fun ds => R.ok (Fl.nx, (q.2.set y (some (.lst ds))).set i none)) | _ => .stk) else .stk := id rfl
end Y

set_option Elab.async false
set_option linter.all false
set_option maxRecDepth 100000
namespace Y
open PySem PySem.Spec PyProof.Rows L2
section
variable {K : PySem.W.Frag} {H : Hp} {P : Pr}
end
section
variable {X : Cx} {P0 : Pr} {Oc : List Nat} {E : EK} {XE : XK} {e : Expr} {es : List Expr} {ms : AM} {pos : Pos} {k np : Nat} {name : Str}
end
end Y

set_option Elab.async false
set_option linter.all false
set_option maxRecDepth 100000
namespace Y
open PySem PySem.Spec PyProof.Rows L2
section
variable {κ : Type} [DecidableEq κ]
def findD : List κ → List D → κ → Option D
  | k' :: ks, d :: ds, k => if k' = k then some d else findD ks ds k
  | _, _, _ => none
theorem findD_rep {K : PySem.W.Frag} {H : Hp} {P : Pr} {k : κ} : ∀ {ks : List κ} {ds : List D} {vs : List V}, Reps K H ds P vs → ks.length = vs.length →
    (∀ d, findD ks ds k = some d → ∃ v, valV (ks.zip vs) k = some v ∧ Rep K H d P v) ∧ (findD ks ds k = none → valV (ks.zip vs) k = none)
  | [], ds, vs, h, hl => by
    have : vs = [] := List.eq_nil_of_length_eq_zero hl.symm
    subst this
    exact ⟨fun d e => by simp [findD] at e, fun _ => rfl⟩
  | k' :: ks, [], vs, h, hl => by
    have : vs = [] := h.nil_iff
    subst this
    simp at hl
  | k' :: ks, d' :: ds, vs, h, hl => by
    obtain ⟨v, ws, rfl, h1, h2⟩ := h.cons_iff
    obtain ⟨i1, i2⟩ := findD_rep (k := k) (ks := ks) h2 (by simpa using hl)
    by_cases e : k' = k
    · refine ⟨fun d q => ?_, fun q => ?_⟩
      · rw [findD, if_pos e] at q
        cases q
        exact ⟨v, by rw [List.zip_cons_cons]; exact valV_pos e, h1⟩
      · rw [findD, if_pos e] at q; cases q
    · refine ⟨fun d q => ?_, fun q => ?_⟩
      · rw [findD, if_neg e] at q
        obtain ⟨w, w1, w2⟩ := i1 d q
        exact ⟨w, by rw [List.zip_cons_cons, valV_neg e]; exact w1, w2⟩
      · rw [findD, if_neg e] at q
        rw [List.zip_cons_cons, valV_neg e]
        exact i2 q
end
def keyOf : D → Option Key
  | .int i => some (.inl i)
  | .str x => some (.inr x)
  | _ => none
def keysOf : List D → Option (List Key)
  | [] => some []
  | d :: ds => match keyOf d with
    | some k => (keysOf ds).map (k :: ·)
    | none => none
theorem keyOf_rep {K : PySem.W.Frag} {H : Hp} {P : Pr} {d : D} {v : V} {k : Key} (h : RepW K H d P v) (e : keyOf d = some k) : v = kV k := by
  cases d <;> simp only [keyOf, Option.some.injEq, reduceCtorEq] at e
  · subst e; rw [h.int]; rfl
  · subst e; rw [h.str]; rfl
theorem keysOf_rep {K : PySem.W.Frag} {H : Hp} {P : Pr} : ∀ {ds : List D} {vs : List V} {ks : List Key}, Reps K H ds P vs → keysOf ds = some ks → vs = ks.map kV
  | [], vs, ks, h, e => by simp [keysOf] at e; subst e; exact h.nil_iff
  | d :: ds, vs, ks, h, e => by
    obtain ⟨v, ws, rfl, h1, h2⟩ := h.cons_iff
    unfold keysOf at e
    cases q : keyOf d with
    | none => rw [q] at e; cases e
    | some k =>
      rw [q] at e
      cases r : keysOf ds with
      | none => rw [r] at e; cases e
      | some ks' =>
        rw [r] at e
        cases e
        have i := keysOf_rep h2 r
        have j : v = kV k := by
          cases d <;> simp only [keyOf, Option.some.injEq, reduceCtorEq] at q
          · subst q; unfold Rep at h1; rw [h1]; rfl
          · subst q; unfold Rep at h1; rw [h1]; rfl
        rw [i, j]; rfl
/-- what d holds at the key: none where it holds nothing -/
def getDic : D → D → R (Option D)
  | .dik ks ds, y => match keyOf y with
    | some k => .ok (findD ks ds k)
    | none => .stk
  | .dit ks ds, .tup ys => match keysOf ys with
    | some k => .ok (findD ks ds k)
    | none => .stk
  | _, _ => .stk
section
variable {K : PySem.W.Frag} {H : Hp} {P : Pr}
theorem getDic_rep {dx dy : D} {x y : V} {o : Option D} (rx : RepW K H dx P x) (ry : RepW K H dy P y) (e : getDic dx dy = .ok o) :
    ∃ a r, x = .ref a ∧ DGet H a y r ∧ r.isSome = o.isSome ∧ ∀ d, o = some d → ∃ v, r = some v ∧ Rep K H d P v := by
  unfold getDic at e
  split at e
  · rename_i ks ds
    obtain ⟨a, vs, rfl, hl, rd, rs⟩ := rx
    cases q : keyOf dy with
    | none => rw [q] at e; cases e
    | some k =>
      rw [q] at e
      cases e
      obtain ⟨f1, f2⟩ := findD_rep (k := k) rs hl
      refine ⟨a, valV (ks.zip vs) k, rfl, .inl ⟨_, k, rd, keyOf_rep ry q, rfl⟩, ?_, f1⟩
      cases z : findD ks ds k with
      | none => rw [f2 z]; rfl
      | some d => obtain ⟨v, v1, _⟩ := f1 d z; rw [v1]; rfl
  · rename_i ks ds ys
    obtain ⟨a, vs, rfl, hl, rd, rs⟩ := rx
    obtain ⟨b, us, rfl, h1, h2⟩ := ry.tup
    cases q : keysOf ys with
    | none => rw [q] at e; cases e
    | some k =>
      rw [q] at e
      cases e
      obtain ⟨f1, f2⟩ := findD_rep (k := k) rs hl
      have eu := keysOf_rep h2 q
      subst eu
      refine ⟨a, valV (ks.zip vs) k, rfl, .inr ⟨_, k, b, rd, rfl, h1, rfl⟩, ?_, f1⟩
      cases z : findD ks ds k with
      | none => rw [f2 z]; rfl
      | some d => obtain ⟨v, v1, _⟩ := f1 d z; rw [v1]; rfl
  · cases e
end
def cDGet (a b : EM) : EM := fun ρ => do
  let (h1, ρ1) ← a ρ
  let (h2, ρ2) ← b ρ1
  let x ← (h1.d ρ2).nox
  let y ← (h2.d ρ2).nox
  let o ← (getDic x y).nox
  match o with
  | some z => pure (.vl z, ρ2)
  | none => .stk
def cDIn (neg : Bool) (b a : EM) : EM := fun ρ => do
  let (h2, ρ1) ← b ρ
  let (h1, ρ2) ← a ρ1
  let x ← (h1.d ρ2).nox
  let y ← (h2.d ρ2).nox
  let o ← (getDic x y).nox
  pure (.fr (.bl (if neg = true then !o.isSome else o.isSome)), ρ2)
section
variable {X : Cx} {P0 : Pr} {O W : List Nat} {E : EK} {a b : Expr} {ma mb : EM} {pos : Pos}
theorem ce_dget (hu : X.A.units + 1 < cLine) (ha : CEx X P0 O W E a ma) (hb : CEx X P0 O W E b mb) (hs : NoSl b := by intro _ _; rfl) : CEx X P0 O W E (.Subscript a b pos) (cDGet ma mb) := PE.imp (pe_dget hu ha hb hs) fun σ H Q ⟨ρ, S, h⟩ => by
  refine ⟨ρ, S, h.of_bind.mono fun ⟨h1, ρ1⟩ q x H1 S1 k1 r1 => ⟨ρ1, S1, (q.keep k1).of_bind.mono fun ⟨h2, ρ2⟩ q2 y H2 S2 k2 r2 => ?_⟩⟩
  obtain ⟨dx, e1, q3⟩ := q2.of_nox
  obtain ⟨dy, e2, q4⟩ := q3.of_nox
  obtain ⟨o, e3, q5⟩ := q4.of_nox
  have rx := (r1.keep S1 k2).d S2 e1
  have ry := r2.d S2 e2
  obtain ⟨c, r, rfl, g, _, f⟩ := getDic_rep rx ry e3
  cases o with
  | none => exact q5.elim
  | some z =>
    obtain ⟨v, rfl, rv⟩ := f z rfl
    exact ⟨c, v, rfl, g, q5 v H2 S2 (k1.trans k2) rv⟩
end
section
variable {K : PySem.W.Frag} {P0 : Pr} {O W U : List Nat} {ρ : Y.Env} {σ : L2.St} {H : Hp}
end
section
variable {X : Cx} {P0 : Pr} {O W U : List Nat} {E : EK}
end
@[simp] theorem e_dget {a b : EM} {ρ : Y.Env} : cDGet a b ρ = (a ρ >>= fun p => b p.2 >>= fun q => (p.1.d q.2).nox >>= fun x => (q.1.d q.2).nox >>= fun y => (getDic x y).nox >>= fun o => match o with | some z => R.ok (.vl z, q.2) | none => .stk) := by
  unfold cDGet; congr
end Y

set_option Elab.async false
set_option linter.all false
set_option maxRecDepth 100000
namespace Y
open PySem PySem.Spec PyProof.Rows L2
section
variable {κ : Type} [DecidableEq κ]
end
section
variable {K : PySem.W.Frag} {X : Cx} {P0 : Pr} {O W U : List Nat} {E : EK} {e k : Expr} {ma mk : EM}
end
end Y

set_option Elab.async false
set_option linter.all false
set_option maxRecDepth 100000
namespace Y
open PySem PySem.Spec PyProof.Rows L2
section
variable {X : Cx} {P0 : Pr} {O W U : List Nat} {E : EK} {XE : XK} {a b c e : Expr} {es : List Expr} {ma mb mc : EM} {ms : AM} {pos : Pos} {k np : Nat} {name : Str} {st : Stmt} {sts : List Stmt} {m n : SM}
variable {i : Nat} {ad : Addr}
end
section
variable {K : PySem.W.Frag} {P0 : Pr} {O W U : List Nat} {ρ : Env} {σ : St} {H : Hp}
theorem Tr.fewer {U' : List Nat} {σ' : St} {H' : Hp} (t : Tr O U σ H σ' H') (h : ∀ i ∈ U', i ∈ U) : Tr O U' σ H σ' H' := ⟨t.keep, t.some, t.own, fun i hi => t.unch i (h i hi)⟩
end
section
variable {X : Cx} {P0 : Pr} {O W U : List Nat} {E : EK}
end
end Y

set_option Elab.async false
set_option linter.all false
set_option maxRecDepth 100000
namespace Y
open PySem PySem.Spec PyProof.Rows L2
theorem all_cons {α : Type} {p : α → Prop} {c : α} {cl : List α} (h : p c) (t : ∀ c ∈ cl, p c) : ∀ x ∈ c :: cl, p x := List.forall_mem_cons.mpr ⟨h, t⟩
variable {ρ : Y.Env}
end Y

set_option Elab.async false
set_option linter.all false
set_option maxRecDepth 100000
namespace Y
open PySem PySem.Spec PyProof.Rows L2
def DicU : HO → Prop
  | .dK _ => True
  | .dT _ => True
  | _ => False
theorem Rd.only {H : Hp} {a b : Addr} {u o : HO} (hu : DicU u) (r : Rd H a u) (e : H b = Option.some o) (n1 : ¬ DicU o) (n2 : ∀ x w, o = .frz x w → ¬ DicU w) : b ≠ a := by
  rintro rfl
  rcases r with r | ⟨x, r⟩
  · rw [e] at r; cases r; exact n1 hu
  · rw [e] at r; cases r; exact n2 _ _ rfl hu
section
variable {K : PySem.W.Frag} {H H' : Hp} {a : Addr} {u : HO}
theorem Rd.move (hu : DicU u) (k : ∀ b, b ≠ a → H' b = H b) (r : Rd H a u) (r' : Rd H' a u) {b : Addr} {o : HO} (n2 : ∀ x w, o ≠ .frz x w) (h : Rd H b o) : Rd H' b o := by
  by_cases e : b = a
  · subst e
    have : o = u := by
      rcases r with r | ⟨x, r⟩ <;> rcases h with h | ⟨y, h⟩ <;> rw [r] at h <;> cases h <;> first | rfl | exact absurd rfl (n2 _ _) | exact hu.elim
    rw [this]; exact r'
  · rcases h with h | ⟨y, h⟩
    · exact .inl (by rw [k b e]; exact h)
    · exact .inr ⟨y, by rw [k b e]; exact h⟩
mutual
theorem Rep.rd (hu : DicU u) (k : ∀ b, b ≠ a → H' b = H b) (r : Rd H a u) (r' : Rd H' a u) : ∀ {d : D} {P : Pr} {v : V}, Rep K H d P v → Rep K H' d P v
  | .non, _, _, h => by unfold Rep at h ⊢; exact h
  | .bl _, _, _, h => by unfold Rep at h ⊢; exact h
  | .int _, _, _, h => by unfold Rep at h ⊢; exact h
  | .str _, _, _, h => by unfold Rep at h ⊢; exact h
  | .tup ds, P, v, h => by
    unfold Rep at h ⊢
    obtain ⟨b, vs, e, h1, h2⟩ := h
    exact ⟨b, vs, e, by rw [k b (Rd.only hu r h1 id fun _ _ z => by cases z)]; exact h1, Reps.rd hu k r r' h2⟩
  | .lst ds, P, v, h => by
    unfold Rep at h ⊢
    obtain ⟨b, vs, e, h0, h1, h2⟩ := h
    exact ⟨b, vs, e, h0, by rw [k b (Rd.only hu r h1 id fun _ _ z => by cases z)]; exact h1, Reps.rd hu k r r' h2⟩
  | .arg ns, P, v, h => by
    unfold Rep at h ⊢
    obtain ⟨b, e, h⟩ := h
    refine ⟨b, e, ?_⟩
    rcases h with ⟨h0, h1⟩ | h
    · exact .inl ⟨h0, Rd.move hu k r r' (fun _ _ z => by cases z) h1⟩
    · exact .inr h
  | .dik ks ds, P, v, h => by
    unfold Rep at h ⊢
    obtain ⟨b, vs, e, h0, hl, h1, h2⟩ := h
    exact ⟨b, vs, e, h0, hl, Rd.move hu k r r' (fun _ _ z => by cases z) h1, Reps.rd hu k r r' h2⟩
  | .dit ks ds, P, v, h => by
    unfold Rep at h ⊢
    obtain ⟨b, vs, e, h0, hl, h1, h2⟩ := h
    exact ⟨b, vs, e, h0, hl, Rd.move hu k r r' (fun _ _ z => by cases z) h1, Reps.rd hu k r r' h2⟩
  | .ftu ds, P, v, h => by
    unfold Rep at h ⊢
    obtain ⟨b, vs, o, e, h1, hd, h2⟩ := h
    have nb : b ≠ a := fun z => by
      subst z
      rcases r with r | ⟨x, r⟩ <;> rw [r] at h1 <;> cases h1 <;> exact hu.elim
    exact ⟨b, vs, o, e, by rw [k b nb]; exact h1, hd, Reps.rd hu k r r' h2⟩
theorem Reps.rd (hu : DicU u) (k : ∀ b, b ≠ a → H' b = H b) (r : Rd H a u) (r' : Rd H' a u) : ∀ {ds : List D} {P : Pr} {vs : List V}, Reps K H ds P vs → Reps K H' ds P vs
  | [], _, _, h => by rw [h.nil_iff]; exact Reps.nil
  | d :: ds, P, vs, h => by
    obtain ⟨v, ws, rfl, h1, h2⟩ := h.cons_iff
    exact Reps.cons (Rep.rd hu k r r' h1) (Reps.rd hu k r r' h2)
end
variable {P0 : Pr} {O W U : List Nat} {ρ : Y.Env} {σ : L2.St}
theorem Sim.rd (S : Sim K P0 O W ρ σ H) (hu : DicU u) (k : ∀ b, b ≠ a → H' b = H b) (r : Rd H a u) (r' : Rd H' a u) (n : ¬ FA P0 O σ a) : Sim K P0 O W ρ σ H' where
  sub := S.sub
  len := S.len
  dom := fun b z => by rw [k b fun e => n (e ▸ z)]; exact S.dom b z
  val := fun i d e h => let ⟨v, h1, h2⟩ := S.val i d e h; ⟨v, h1, h2.rd hu k r r'⟩
  own := fun i d e h => by
    obtain ⟨v, h1, h2⟩ := S.own i d e h
    have na : ∀ b, v = .ref b → b ≠ a := fun b e z => n (.inr ⟨i, h, by rw [h1, e, z]⟩)
    refine ⟨v, h1, ?_⟩
    cases d with
    | lst ds => obtain ⟨b, vs, e, g1, g2⟩ := h2; exact ⟨b, vs, e, by rw [k b (na b e)]; exact g1, g2.rd hu k r r'⟩
    | dik ks ds => obtain ⟨b, vs, e, hl, g1, g2⟩ := h2; exact ⟨b, vs, e, hl, by rw [k b (na b e)]; exact g1, g2.rd hu k r r'⟩
    | dit ks ds => obtain ⟨b, vs, e, hl, g1, g2⟩ := h2; exact ⟨b, vs, e, hl, by rw [k b (na b e)]; exact g1, g2.rd hu k r r'⟩
    | non => exact h2
    | bl _ => exact h2
    | int _ => exact h2
    | str _ => exact h2
    | tup _ => exact h2
    | arg _ => exact h2
    | ftu _ => exact h2
  sep := S.sep
  sep0 := S.sep0
end
section
variable {P : Program} {w : World} {K : PySem.W.Frag} {d : Addr} {o : Obj} {es : Array DictEntry} {ep : Nat}
end
section
variable {K : PySem.W.Frag} {O W : List Nat} {a : Addr} {o : Obj} {ds : List D} {vs : List V}
end

theorem PS.or {X : Cx} {st : Stmt} {t t' : TS} (h : PS X st t) (h' : PS X st t') : PS X st fun D σ H => t D σ H ∨ t' D σ H :=
  ⟨fun pins s σ H D I q => q.elim (h.run pins s σ H D I) (h'.run pins s σ H D I)⟩
section
variable {K : PySem.W.Frag} {P0 : Pr} {O W U : List Nat} {E : EK} {ρ : Y.Env} {σ : L2.St} {H : Hp} {m : SM} {D : Ends} {a : Addr} {u : HO}
end
section
variable {X : Cx} {P0 : Pr} {O W U : List Nat} {E : EK} {m : SM}
end
end Y

set_option Elab.async false
set_option linter.all false
set_option maxRecDepth 100000
namespace Y
open PySem PySem.Spec PyProof.Rows L2
section
variable {X : Cx} {pins : List (Addr × Obj)} {σ : L2.St} {H : Hp} {s : Shared}
end
variable {ρ : Y.Env}
@[simp] theorem e_din {neg : Bool} {a b : EM} : cDIn neg b a ρ = (b ρ >>= fun p => a p.2 >>= fun q => (q.1.d q.2).nox >>= fun x => (p.1.d q.2).nox >>= fun y => (getDic x y).nox >>= fun o => R.ok (.fr (.bl (if neg = true then !o.isSome else o.isSome)), q.2)) := id rfl
@[simp] theorem d_getK {ks : List Key} {ds : List D} {i : Int} : getDic (.dik ks ds) (.int i) = .ok (findD ks ds (.inl i)) := id rfl
end Y

set_option Elab.async false
set_option linter.all false
set_option maxRecDepth 100000
set_option maxHeartbeats 4000000
namespace Y
open PySem PySem.Spec PyProof.Rows L2
section
variable {X : Cx} {pins : List (Addr × Obj)} {σ : L2.St} {H : Hp} {s : Shared}
end
end Y

set_option Elab.async false
set_option linter.all false
set_option maxRecDepth 100000
set_option maxHeartbeats 4000000
namespace Y
open PySem PySem.Spec PyProof.Rows L2
section
variable {K : PySem.W.Frag} {X : Cx} {H : Hp} {P : Pr}
theorem map_fst_zip {ds : List D} {vs : List V} (hl : vs.length = ds.length) : (ds.zip vs).map (·.1) = ds := by
  have := List.map_fst_zip (l₁ := ds) (l₂ := vs) (by omega)
  exact this
end
section
variable {X : Cx}
end
end Y

set_option Elab.async false
set_option linter.all false
set_option maxRecDepth 100000
namespace Y
open PySem PySem.Spec PyProof.Rows L2
def D1 (p : Addr) (Q : VK) (x y : V) (H2 : Hp) : Prop := H2 p = some (.dT []) ∧ ∃ (q : Addr) (k : List Key), x = .ref q ∧ H2 q = some (.tup (k.map kV)) ∧ Q (.ref p) (upd H2 p (.dT [(k, y)]))
end Y

set_option Elab.async false
set_option linter.all false
set_option maxRecDepth 100000
namespace Y
open PySem PySem.Spec PyProof.Rows L2
section
variable {K : PySem.W.Frag} {X : Cx} {P0 : Pr} {O W U : List Nat} {E : EK} {pos : Pos}
end
section
variable {X : Cx} {P0 : Pr} {O W : List Nat} {E : EK} {a b : Expr} {ma mb : EM} {pos : Pos}
theorem ct_din (hu : X.A.units + 1 < cLine) (hb : CEx X P0 O W E b mb) (ha : CEx X P0 O W E a ma) (hm : behindInMarks .In a = false := by rfl) : CT X P0 O W E (.Compare b [.In] [a] pos) (cBl (cDIn false mb ma)) := PT.imp (pt_cmp (pc_din hu hb ha) hm) fun σ H Q h => by
  obtain ⟨ρ, S, h⟩ := tM_bl σ H Q h
  refine ⟨ρ, S, h.of_bind.mono fun ⟨h2, ρ1⟩ q y H1 S1 k1 r2 => ⟨ρ1, S1, (q.keep k1).of_bind.mono fun ⟨h1, ρ2⟩ q2 x H2 S2 k2 r1 => ?_⟩⟩
  obtain ⟨dx, e1, q3⟩ := q2.of_nox
  obtain ⟨dy, e2, q4⟩ := q3.of_nox
  obtain ⟨o, e3, q5⟩ := q4.of_nox
  have rx := r1.d S2 e1
  have ry := (r2.keep S1 k2).d S2 e2
  obtain ⟨c, r, rfl, g, i, _⟩ := getDic_rep rx ry e3
  refine ⟨c, r, rfl, g, ?_⟩
  rw [i]
  exact (out_of (K := X.K) S2 (k1.trans k2) q5).bl
end
end Y

set_option Elab.async false
set_option linter.all false
set_option maxRecDepth 100000
namespace Y
open PySem PySem.Spec PyProof.Rows L2
section
variable {K : PySem.W.Frag} {P0 : Pr} {O W U : List Nat} {ρ ρ1 ρ2 : Y.Env} {σ σ1 σ3 : L2.St} {H H1 H2 H3 : Hp} {i : Nat} {vs : List Nat}
/-- what the state is apart from the new objects A -/
theorem Sim.apart (S1 : Sim K P0 O W ρ1 σ H1) (S2 : Sim K P0 O W ρ2 σ H2) (kp : ∀ b o, H1 b = some o → ¬ OA W σ b → H2 b = some o) {A : Pr} (hA : ∀ b, A b → H1 b = none ∧ isMut (H2 b))
    (c : ∀ (j : Nat) d, ρ2[j]? = some (some d) → (ρ1[j]? = some (some d) ∧ j ∉ W) ∨ (j ∈ O ∧ d.shallow = true) ∨ d.nl = true) : Sim K (fun b => P0 b ∨ A b) O W ρ2 σ H2 := by
  have fa : ∀ b, FA (fun b => P0 b ∨ A b) O σ b → FA P0 O σ b ∨ H1 b = none := fun b z => by
    rcases z with (z | z) | z
    · exact .inl (.inl z)
    · exact .inr (hA b z).1
    · exact .inl (.inr z)
  have kf : ∀ b o, H1 b = some o → ¬ FA P0 O σ b → H2 b = some o := fun b o e n => kp b o e fun z => n (.inr (S1.oaw z))
  refine ⟨S2.sub, S2.len, fun b z => ?_, fun j d e n => ?_, fun j d e n => ?_, S2.sep, fun a z y => ?_⟩
  · rcases z with (z | z) | z
    · exact S2.dom b (.inl z)
    · exact (hA b z).2
    · exact S2.dom b (.inr z)
  · rcases c j d e with ⟨e0, _⟩ | ⟨z, _⟩ | nl
    · obtain ⟨w, h1, h2⟩ := S1.val j d e0 n
      exact ⟨w, h1, h2.mono d S1.dom kf fa⟩
    · exact absurd z n
    · obtain ⟨w, h1, h2⟩ := S2.val j d e n
      exact ⟨w, h1, h2.nl nl⟩
  · rcases c j d e with ⟨e0, hw⟩ | ⟨_, sh⟩ | nl
    · obtain ⟨w, h1, h2⟩ := S1.own j d e0 n
      refine ⟨w, h1, h2.mono S1.dom kf fa fun a o e1 e2 => ?_⟩
      subst e1
      refine kp a o e2 fun ⟨x, hx, ex⟩ => ?_
      have := S1.sep x j a (S1.sub x hx) n ex h1
      exact hw (this ▸ hx)
    · obtain ⟨w, h1, h2⟩ := S2.own j d e n
      exact ⟨w, h1, h2.shallow sh⟩
    · obtain ⟨w, h1, h2⟩ := S2.own j d e n
      refine ⟨w, h1, ?_⟩
      cases d <;> first | exact h2 | (simp [D.nl] at nl)
  · rcases y with y | y
    · exact S2.sep0 a z y
    · have q := S1.dom a (.inr z)
      rw [(hA a y).1] at q
      exact q
end
section
variable {X : Cx} {P0 : Pr} {O W U : List Nat} {E : EK} {XE : XK} {c e e2 : Expr} {es : List Expr} {ms : AM} {mr : EM} {pos pos2 p p2 p3 px : Pos} {k np i : Nat} {name x : Str} {t : BM} {n : SM} {tl : List Stmt} {tr : D → Bool} {R : PySem.W.Frag → Pr → V → Hp → Prop} {vs qs : List Nat}
def rL (K : PySem.W.Frag) (A : Pr) (v : V) (H : Hp) : Prop := ∃ a ws M, v = .ref a ∧ A a ∧ ws.length < sizeLine ∧ H a = some (.lst ws) ∧ M + ws.length ≤ sizeLine ∧ ∀ w ∈ ws, ∃ b xs, w = V.ref b ∧ A b ∧ b ≠ a ∧ H b = some (.lst xs) ∧ xs.length < M
end
end Y

set_option Elab.async false
set_option linter.all false
set_option maxRecDepth 100000
namespace Y
open PySem PySem.Spec PyProof.Rows L2
section
variable {X : Cx} {pins : List (Addr × Obj)} {σ : L2.St} {H : Hp} {s : Shared} {a b : Addr} {r : Value} {d : V} {k : List Key} {A : Around} {E : Value → Shared → Prop}
end
section
variable {X : Cx} {o e f : Expr} {td ty tx : TE} {apos cpos : Pos}
end
abbrev Grp := List (List Key × List Int)
def gAdd (k : List Key) (s : Int) : Grp → Grp
  | [] => [(k, [s])]
  | (k', l) :: g => if k' = k then (k', l ++ [s]) :: g else (k', l) :: gAdd k s g
/-- the groups lie in objects of their own, new since H1 -/
def GOk (H1 Hx : Hp) : Grp → List Addr → Prop
  | [], bs => bs = []
  | (_, l) :: g, bs => ∃ b r, bs = b :: r ∧ H1 b = none ∧ Hx b = some (.lst (l.map V.int)) ∧ b ∉ r ∧ GOk H1 Hx g r
def kvG : Grp → List Addr → List (List Key × V)
  | (k, _) :: g, b :: bs => (k, .ref b) :: kvG g bs
  | _, _ => []
section
variable {H1 Hx Hy : Hp}
theorem GOk.keep : ∀ {g : Grp} {bs : List Addr}, GOk H1 Hx g bs → (∀ b ∈ bs, Hy b = Hx b) → GOk H1 Hy g bs
  | [], bs, h, _ => h
  | (_, l) :: g, bs, ⟨b, r, e, h1, h2, h3, h4⟩, k => ⟨b, r, e, h1, by rw [k b (by simp [e])]; exact h2, h3, h4.keep fun c hc => k c (by simp [e, hc])⟩
theorem GOk.mem : ∀ {g : Grp} {bs : List Addr}, GOk H1 Hx g bs → ∀ b ∈ bs, H1 b = none ∧ ∃ l, Hx b = some (.lst l)
  | [], bs, h, b, hb => by
    have h : bs = [] := h
    rw [h] at hb
    cases hb
  | (_, l) :: g, bs, ⟨b0, r, e, h1, h2, h3, h4⟩, b, hb => by
    rw [e] at hb
    rcases List.mem_cons.mp hb with rfl | hb
    · exact ⟨h1, _, h2⟩
    · exact h4.mem b hb
theorem GOk.get {k : List Key} {s : Int} : ∀ {g : Grp} {bs : List Addr} {v : V}, GOk H1 Hx g bs → valV (kvG g bs) k = some v → ∃ b l, v = .ref b ∧ b ∈ bs ∧ Hx b = some (.lst (l.map V.int)) ∧ (∃ k', (k', l) ∈ g) ∧ GOk H1 (upd Hx b (.lst (l.map V.int ++ [.int s]))) (gAdd k s g) bs ∧ kvG (gAdd k s g) bs = kvG g bs
  | [], bs, v, h, e => by cases e
  | (k', l) :: g, bs, v, ⟨b, r, eb, h1, h2, h3, h4⟩, e => by
    subst eb
    unfold gAdd
    by_cases c : k' = k
    · have e : valV ((k', V.ref b) :: kvG g r) k = some v := e
      rw [valV_pos c] at e
      cases e
      rw [if_pos c]
      refine ⟨b, l, rfl, by simp, h2, ⟨k', by simp⟩, ⟨b, r, rfl, h1, by rw [upd_same, List.map_append]; rfl, h3, h4.keep fun c hc => upd_ne fun z => h3 (by rw [← z]; exact hc)⟩, rfl⟩
    · have e : valV ((k', V.ref b) :: kvG g r) k = some v := e
      rw [valV_neg c] at e
      obtain ⟨b2, l2, e1, e2, e3, ⟨k2, ek⟩, e4, e5⟩ := h4.get (s := s) e
      rw [if_neg c]
      refine ⟨b2, l2, e1, by simp [e2], e3, ⟨k2, by simp [ek]⟩, ⟨b, r, rfl, h1, by rw [upd_ne fun z => h3 (by rw [z]; exact e2)]; exact h2, h3, e4⟩, ?_⟩
      show (k', V.ref b) :: kvG (gAdd k s g) r = (k', V.ref b) :: kvG g r
      rw [e5]
theorem GOk.len : ∀ {g : Grp} {bs : List Addr}, GOk H1 Hx g bs → (kvG g bs).length = g.length ∧ bs.length = g.length
  | [], bs, h => by
    have h : bs = [] := h
    subst h
    exact ⟨rfl, rfl⟩
  | (k, l) :: g, bs, ⟨b, r, e, _, _, _, h⟩ => by
    subst e
    have := h.len
    exact ⟨by show (kvG g r).length + 1 = _; rw [this.1]; rfl, by simp [this.2]⟩
end
section
variable {K : PySem.W.Frag} {P0 : Pr} {O W U : List Nat} {ρ : Y.Env} {σ σ3 : L2.St} {H1 H3 : Hp} {i : Nat} {sl : List Nat}
end
section
variable {X : Cx} {P0 : Pr} {O W U : List Nat} {E : EK} {tg iter : Expr} {pos pos3 p1 p2 p3 p4 p5 ap ap2 cp cp2 : Pos} {x ya yb ys : Str}
end
end Y

set_option Elab.async false
set_option linter.all false
set_option maxRecDepth 100000
namespace Y
open PySem PySem.Spec PyProof.Rows L2
section
variable {prog : Program} {w : World} {A : Around} {E : Value → Shared → Prop} {s : Shared}
end
section
variable {X : Cx}
end
end Y

set_option Elab.async false
set_option linter.all false
set_option maxRecDepth 100000
namespace Y
open PySem PySem.Spec PyProof.Rows L2
theorem SqL.laid {K : PySem.W.Frag} {H : Hp} {a D : Addr} {xs : List V} {o : HO} (h : SqL K H a xs) (n : H D = none) : SqL K (upd H D o) a xs := by
  rcases h with h | h
  · refine .inl (h.imp (fun e => ?_) fun ⟨o, e⟩ => ⟨o, ?_⟩)
    · rw [upd_ne (ne_of_none e n)]; exact e
    · rw [upd_ne (ne_of_none e n)]; exact e
  · exact .inr h
section
variable {X : Cx} {i j : Nat}
end
end Y

set_option Elab.async false
set_option linter.all false
set_option maxRecDepth 100000
namespace Y
open PySem PySem.Spec PyProof.Rows L2
theorem _root_.L2H.RoomH.units65 {k : Nat} {A : Around} (r : L2H.RoomH k A) : A.units + 65 < cLine := by have := r.un; omega
section
variable {X : Cx} {P0 : Pr} {O W U : List Nat} {i : Nat} {ad : Addr} {a b c e : Expr} {es : List Expr} {ma mb mc : EM} {ms : AM} {bm bn : BM} {pos : Pos}
end
end Y

set_option Elab.async false
set_option linter.all false
set_option maxRecDepth 100000
namespace Y
open PySem PySem.Spec PyProof.Rows L2
theorem _root_.L2H.RoomH.units {k : Nat} {A : Around} (r : L2H.RoomH k A) : A.units + 64 < cLine := by have := r.un; omega
section
variable {X : Cx} {P0 : Pr} {O W U : List Nat} {i j : Nat}
end
end Y

set_option Elab.async false
set_option linter.all false
set_option maxRecDepth 100000
namespace Y
open PySem PySem.Spec PyProof.Rows L2
section
variable {K : PySem.W.Frag} {O W : List Nat} {a : Addr} {o : Obj}
end
section
variable {X : Cx} {P0 : Pr} {O W U : List Nat} {E : EK} {tg e : Expr} {ma : EM}
end
variable {ρ : Env}
end Y

set_option Elab.async false
set_option linter.all false
set_option maxRecDepth 100000
namespace Y
open PySem PySem.Spec PyProof.Rows L2
section
variable {prog : Program} {w : World} {A : Around} {E : Value → Shared → Prop}
end
section
variable {X : Cx}
end
end Y

set_option Elab.async false
set_option linter.all false
set_option maxRecDepth 100000
namespace Y
open PySem PySem.Spec PyProof.Rows L2
section
variable {prog : Program} {w : World} {A : Around} {E : Value → Shared → Prop} {s : Shared} {z TI TO T i1 i2 : Addr} {fp1 fp2 : List Addr} {n1 n2 i : Nat} {P1 P2 : Nat → Value → Prop} {St1 St2 : Nat → Heap → Prop} {f : Bool} {oT : Obj}
end
end Y

set_option Elab.async false
set_option linter.all false
set_option maxRecDepth 100000
namespace Y
open PySem PySem.Spec PyProof.Rows L2
section
variable {prog : Program} {w : World} {A : Around} {E : Value → Shared → Prop} {s : Shared}
end
section
variable {prog : Program} {w : World} {A : Around} {E : Value → Shared → Prop} {s : Shared} {R : Result → Shared → Prop} {z TI TO i1 i2 S : Addr} {fp1 fp2 : List Addr} {n1 n2 i : Nat} {P1 P2 : Nat → Value → Prop} {St1 St2 : Nat → Heap → Prop}
/-- i pairs are out -/
def ZSt (z TI TO i1 i2 S : Addr) (St1 St2 : Nat → Heap → Prop) (i : Nat) (h : Heap) : Prop := IsTupOf2 h TI (.ref i1) (.ref i2) ∧ St1 i h ∧ St2 i h ∧
  ((IsZip h z TI TO .none ∧ ∃ a b, IsTupOf2 h TO a b) ∨ ∃ T f oT, IsZipHeld h z TI TO T f ∧ h.get? T = some oT ∧ T ≠ z ∧ T ≠ i1 ∧ T ≠ i2 ∧ T ≠ S)
theorem ZSt.ty {h : Heap} (x : ZSt z TI TO i1 i2 S St1 St2 i h) : ∃ o, h.get? z = some o ∧ o.cls = .type "zip" := by
  rcases x.2.2.2 with ⟨e, _⟩ | ⟨T, f, oT, e, _⟩
  · exact ⟨_, e, rfl⟩
  · exact ⟨_, e, rfl⟩
theorem ZSt.stay (Sp : ZipSep2 z TI TO i1 i2 fp1 fp2) (D1 : Draws prog w A i1 fp1 n1 P1 St1) (D2 : Draws prog w A i2 fp2 n2 P2 St2) {h h' : Heap} (x : ZSt z TI TO i1 i2 S St1 St2 i h) (nz : S ≠ z) (nI : S ≠ TI) (nO : S ≠ TO) (n1' : S ∉ fp1) (n2' : S ∉ fp2)
    (k : ∀ b o, b ≠ S → h.get? b = some o → h'.get? b = some o) : ZSt z TI TO i1 i2 S St1 St2 i h' := by
  obtain ⟨a, b, c, d⟩ := x
  refine ⟨k _ _ nI.symm a, D1.frame _ _ _ b fun q hq o e => k q o (fun e2 => n1' (e2 ▸ hq)) e, D2.frame _ _ _ c fun q hq o e => k q o (fun e2 => n2' (e2 ▸ hq)) e, ?_⟩
  rcases d with ⟨d1, y1, y2, d2⟩ | ⟨T, f, oT, d1, d2, d3, d4, d5, d6⟩
  · exact .inl ⟨k _ _ nz.symm d1, y1, y2, k _ _ nO.symm d2⟩
  · exact .inr ⟨T, f, oT, k _ _ nz.symm d1, k _ _ d6 d2, d3, d4, d5, d6⟩
/-- the pairs that are out -/
structure ZG (P1 P2 : Nat → Value → Prop) (lo : Addr) (h : Heap) (as : List Addr) : Prop where
  rise : as.Pairwise (· < ·)
  above : ∀ a ∈ as, lo < a
  pairs : ∀ (j : Nat) (a : Addr), as[j]? = some a → ∃ x y, P1 j x ∧ P2 j y ∧ IsTupOf2 h a x y
theorem ZG.there {lo : Addr} {h : Heap} {as : List Addr} (g : ZG P1 P2 lo h as) {a : Addr} (ha : a ∈ as) : a < h.objs.size := by
  obtain ⟨j, hj⟩ := List.mem_iff_getElem?.mp ha
  obtain ⟨_, _, _, _, e⟩ := g.pairs j a hj
  exact Heap.lt_size e
end
end Y

set_option Elab.async false
set_option linter.all false
set_option maxRecDepth 100000
namespace Y
open PySem PySem.Spec PyProof.Rows L2
def putP : Hp → List Addr → List (V × V) → Hp
  | H, a :: as, p :: ps => putP (upd H a (.tup [p.1, p.2])) as ps
  | H, _, _ => H
theorem putP_off {b : Addr} : ∀ {as : List Addr} {ps : List (V × V)} {H : Hp}, b ∉ as → putP H as ps b = H b
  | [], _, _, _ => rfl
  | _ :: _, [], _, _ => rfl
  | a :: as, p :: ps, H, h => (putP_off (fun z => h (List.mem_cons_of_mem _ z))).trans (upd_ne fun z => h (by rw [z]; exact List.mem_cons_self))
theorem putP_at : ∀ {as : List Addr} {ps : List (V × V)} {H : Hp} {j : Nat} {a : Addr}, as.length = ps.length → as.Nodup → as[j]? = some a → ∃ q, ps[j]? = some q ∧ putP H as ps a = some (.tup [q.1, q.2])
  | [], _, _, j, a, _, _, e => by simp at e
  | _ :: _, [], _, _, _, l, _, _ => by simp at l
  | x :: as, p :: ps, H, 0, a, l, nd, e => by
    simp at e
    subst e
    exact ⟨p, rfl, (putP_off (List.nodup_cons.mp nd).1).trans upd_same⟩
  | x :: as, p :: ps, H, j + 1, a, l, nd, e => putP_at (H := upd H x (.tup [p.1, p.2])) (by simpa using l) (List.nodup_cons.mp nd).2 (by simpa using e)
section
variable {X : Cx} {pins : List (Addr × Obj)} {σ : L2.St} {H : Hp} {s : Shared}
end
theorem reps_pairs {K : PySem.W.Frag} {H' : Hp} {P : Pr} : ∀ {ds es : List D} {xs ys : List V} {as : List Addr}, Reps K H' ds P xs → Reps K H' es P ys → as.length = (xs.zip ys).length → (∀ (j : Nat) (a : Addr), as[j]? = some a → ∃ q, (xs.zip ys)[j]? = some q ∧ H' a = some (.tup [q.1, q.2])) → Reps K H' (pairsD ds es) P (as.map V.ref) := by
  intro ds
  induction ds with
  | nil =>
    intro es xs ys as r1 r2 l h
    obtain rfl := r1.nil_iff
    have : as = [] := List.length_eq_zero_iff.mp (by rw [l]; rfl)
    subst this
    exact Reps.nil
  | cons d ds ih =>
    intro es xs ys as r1 r2 l h
    obtain ⟨v, vs, rfl, a1, a2⟩ := r1.cons_iff
    cases es with
    | nil =>
      obtain rfl := r2.nil_iff
      have : as = [] := List.length_eq_zero_iff.mp (by rw [l]; rfl)
      subst this
      exact Reps.nil
    | cons e es =>
      obtain ⟨w, ws, rfl, b1, b2⟩ := r2.cons_iff
      cases as with
      | nil => simp at l
      | cons a as =>
        obtain ⟨q, e1, e2⟩ := h 0 a rfl
        simp at e1
        subst e1
        refine Reps.cons ?_ (ih a2 b2 (by simpa using l) fun j a' e => by simpa using h (j + 1) a' (by simpa using e))
        unfold Rep
        exact ⟨a, _, rfl, e2, Reps.cons a1 (Reps.cons b1 Reps.nil)⟩
section
variable {X : Cx} {P0 : Pr} {O W : List Nat} {E : EK} {a b : Expr} {ms : AM} {pos : Pos}
end
variable {ρ : Y.Env}
end Y

set_option Elab.async false
set_option linter.all false
set_option maxRecDepth 100000
namespace Y
open PySem PySem.Spec PyProof.Rows L2
def maxSD : List D → R D
  | [d] => match seqI d with
    | some (n :: ms) => .ok (.int (maxI n ms))
    | _ => .stk
  | _ => .stk
def minSD : List D → R D
  | [d] => match seqI d with
    | some (n :: ms) => .ok (.int (minI n ms))
    | _ => .stk
  | _ => .stk
theorem minI_fold : ∀ {ms : List Int} {n : Int}, minI n ms = ms.foldl min n
  | [], n => rfl
  | m :: ms, n => by rw [minI, List.foldl_cons]; exact minI_fold
theorem maxI_fold : ∀ {ms : List Int} {n : Int}, maxI n ms = ms.foldl max n
  | [], n => rfl
  | m :: ms, n => by rw [maxI, List.foldl_cons]; exact maxI_fold
theorem reads_ints {h : Heap} : ∀ {ns : List Int} {us : List Value}, Vals (ns.map V.int) us → ReadsAll h us (ns.map PyData.int) []
  | [], us, r => by
    rw [List.map_nil] at r
    cases r
    exact .nil
  | n :: ns, us, r => by
    rw [List.map_cons] at r
    cases r with
    | cons r t =>
      obtain ⟨k, rfl⟩ := r
      exact .cons (as := []) (.int n k) (reads_ints t)
theorem alike_ints {ns : List Int} : PySem.W.AlikeAll (ns.map PyData.int) := ⟨fun x hx y hy => by
  obtain ⟨i, _, rfl⟩ := List.mem_map.mp hx
  obtain ⟨j, _, rfl⟩ := List.mem_map.mp hy
  simp [PySem.W.alike], fun x hx z => by
  obtain ⟨i, _, rfl⟩ := List.mem_map.mp hx
  cases z⟩
theorem depth_ints : ∀ {ns : List Int}, PyData.depthAll (ns.map PyData.int) = 0
  | [] => rfl
  | n :: ns => by
    rw [List.map_cons, PyData.depthAll, depth_ints]
    rfl
section
variable {X : Cx}
def rMinT (K : PySem.W.Frag) : List V → Hp → VK → Prop := fun vs H Q => ∃ (a : Addr) (n : Int) (ns : List Int), vs = [V.ref a] ∧ SqT K H a ((n :: ns).map V.int) ∧ Q (.int (minI n ns)) H
def rMaxT (K : PySem.W.Frag) : List V → Hp → VK → Prop := fun vs H Q => ∃ (a : Addr) (n : Int) (ns : List Int), vs = [V.ref a] ∧ SqT K H a ((n :: ns).map V.int) ∧ Q (.int (maxI n ns)) H
theorem cr_minT (hc : X.calm = true) (hu : X.A.units + 1 < cLine) : CallR X (.builtin "min") (rMinT X.K) := by
  intro pins s σ H vs us Q I r h
  obtain ⟨a, n, ns, rfl, hs, q⟩ := h
  obtain ⟨its, rv, hl, _⟩ := I.tuple hs
  rw [Vals.ref1 r]
  refine PySem.W.min_tuple_data (x := .int n) (xs := ns.map PyData.int) (I.ok.hd hc) hl (by simpa using reads_ints (h := s.heap) rv) (alike_ints (ns := n :: ns)) (by
    have := depth_ints (ns := n :: ns)
    rw [List.map_cons] at this
    rw [this]; exact hu) fun i v h' tk bs _ hr hk => ?_
  rw [PySem.W.minD_ints, ← minI_fold] at hr
  cases hr
  exact ⟨.int _, H, I.kept hk, ⟨_, rfl⟩, q⟩
theorem cr_maxT (hc : X.calm = true) (hu : X.A.units + 1 < cLine) : CallR X (.builtin "max") (rMaxT X.K) := by
  intro pins s σ H vs us Q I r h
  obtain ⟨a, n, ns, rfl, hs, q⟩ := h
  obtain ⟨its, rv, hl, _⟩ := I.tuple hs
  rw [Vals.ref1 r]
  refine PySem.W.max_tuple_data (x := .int n) (xs := ns.map PyData.int) (I.ok.hd hc) hl (by simpa using reads_ints (h := s.heap) rv) (alike_ints (ns := n :: ns)) (by
    have := depth_ints (ns := n :: ns)
    rw [List.map_cons] at this
    rw [this]; exact hu) fun i v h' tk bs _ hr hk => ?_
  rw [PySem.W.maxD_ints, ← maxI_fold] at hr
  cases hr
  exact ⟨.int _, H, I.kept hk, ⟨_, rfl⟩, q⟩
theorem cd_maxS (hc : X.calm = true) (hu : X.A.units + 64 < cLine) : CallR X (.builtin "max") (rDs X.K maxSD) := by
  intro pins s σ H xs us Q I r ⟨P, ds, dz, hm, rs, e, out⟩
  unfold maxSD at e
  split at e
  · split at e
    · rename_i n ms ei
      cases e
      obtain ⟨v, rfl, r1⟩ := rs.get1
      obtain ⟨a, rfl, h1 | h1⟩ := r1.seqI ei
      · refine cr_max hc pins s σ H _ us Q I r ⟨a, n :: ms, rfl, h1, by simp, fun m hm' hb => ?_⟩
        rw [show m = maxI n ms from Int.le_antisymm (maxI_le hm') (hb _ maxI_mem)]
        exact out.int
      · exact cr_maxT hc (by omega) pins s σ H _ us Q I r ⟨a, n, ms, rfl, h1, out.int⟩
    · cases e
  · cases e
theorem cd_minS (hc : X.calm = true) (hu : X.A.units + 64 < cLine) : CallR X (.builtin "min") (rDs X.K minSD) := by
  intro pins s σ H xs us Q I r ⟨P, ds, dz, hm, rs, e, out⟩
  unfold minSD at e
  split at e
  · split at e
    · rename_i n ms ei
      cases e
      obtain ⟨v, rfl, r1⟩ := rs.get1
      obtain ⟨a, rfl, h1 | h1⟩ := r1.seqI ei
      · refine cr_min hc pins s σ H _ us Q I r ⟨a, n :: ms, rfl, h1, by simp, fun m hm' hb => ?_⟩
        rw [show m = minI n ms from Int.le_antisymm (hb _ minI_mem) (minI_le hm')]
        exact out.int
      · exact cr_minT hc (by omega) pins s σ H _ us Q I r ⟨a, n, ms, rfl, h1, out.int⟩
    · cases e
  · cases e
end
theorem d_maxS {d : D} {n : Int} {ms : List Int} (h : seqI d = some (n :: ms)) : maxSD [d] = .ok (.int (maxI n ms)) := by
  show (match seqI d with | some (n :: ms) => R.ok (D.int (maxI n ms)) | _ => .stk) = _
  rw [h]
theorem d_minS {d : D} {n : Int} {ms : List Int} (h : seqI d = some (n :: ms)) : minSD [d] = .ok (.int (minI n ms)) := by
  show (match seqI d with | some (n :: ms) => R.ok (D.int (minI n ms)) | _ => .stk) = _
  rw [h]
end Y

set_option Elab.async false
set_option linter.all false
set_option maxRecDepth 100000
namespace Y
open PySem PySem.Spec PyProof.Rows L2
section
variable {κ : Type} [DecidableEq κ]
end
section
variable {X : Cx} {pins : List (Addr × Obj)} {σ : L2.St} {H : Hp} {s : Shared}
end
end Y

set_option Elab.async false
set_option linter.all false
set_option maxRecDepth 100000
namespace Y
open PySem PySem.Spec PyProof.Rows L2
def RT (H : Hp) (kvs : List (List Key × V)) (ps : List (V × V)) : Prop := Paired (fun (p : List Key × V) (q : V × V) => p.2 = q.2 ∧ ∃ b, q.1 = .ref b ∧ H b = some (.tup (p.1.map kV))) kvs ps
theorem paired_of {α β : Type} {F : α → β → Prop} : ∀ {l : List α} {m : List β}, l.length = m.length → (∀ (j : Nat) a b, l[j]? = some a → m[j]? = some b → F a b) → Paired F l m
  | [], [], _, _ => .nil
  | [], _ :: _, h, _ => by simp at h
  | _ :: _, [], h, _ => by simp at h
  | a :: l, b :: m, h, f => .cons (f 0 a b rfl rfl) (paired_of (by simpa using h) fun j x y e1 e2 => f (j + 1) x y (by simpa using e1) (by simpa using e2))
theorem fstZip {κ β : Type} {ks : List κ} {m : List β} (h : ks.length ≤ m.length) : (ks.zip m).map (·.1) = ks := by
  rw [show (fun x : κ × β => x.1) = Prod.fst from rfl, List.map_fst_zip h]
section
variable {X : Cx} {pins : List (Addr × Obj)} {σ : L2.St} {H : Hp} {s : Shared}
end
section
variable {X : Cx} {P0 : Pr} {O W : List Nat} {E : EK} {a b : Expr} {ms : AM} {pos : Pos}
end
variable {ρ : Y.Env}
end Y

set_option Elab.async false
set_option linter.all false
set_option maxRecDepth 100000
namespace Y
open PySem PySem.Spec PyProof.Rows L2
section
variable {X : Cx} {P0 : Pr} {O W U : List Nat} {E : EK} {e : Expr} {ma : EM} {K : PySem.W.Frag} {pos : Pos}
end
variable {ρ : Y.Env}
end Y

set_option Elab.async false
set_option linter.all false
set_option maxRecDepth 100000
namespace Y
open PySem PySem.Spec PyProof.Rows L2
section
variable {K : PySem.W.Frag} {O W : List Nat} {a : Addr} {o : Obj}
end
section
variable {K : PySem.W.Frag} {P0 : Pr} {O W : List Nat} {E : EK} {ρ : Y.Env} {σ : L2.St} {H : Hp} {m : EM} {Q : VK} {a : Addr} {u : HO}
end
section
variable {X : Cx} {P0 : Pr} {O W : List Nat} {E : EK} {tg : Expr} {pos : Pos}
end
variable {ρ : Y.Env}
end Y

set_option Elab.async false
set_option linter.all false
set_option maxRecDepth 100000
namespace Y.HR
open PySem PySem.Spec PyProof.Rows L2 _root_.HT PySem.W PySem.SeqAt PySem.AutoSeq1 PySem.MeetsSeq PySem.MeetsSeq2 PySem.MeetsSeq3
section
variable {prog : Program} {w : World} {A : Around} {E : Value → Shared → Prop} {s : Shared}
end
end Y.HR
namespace Y
open PySem PySem.Spec PyProof.Rows L2
section
variable {X : Cx} {e k : Expr} {te : TE} {p2 pos : Pos}
end
section
variable {X : Cx} {P0 : Pr} {O W : List Nat} {E : EK} {e k : Expr} {ma : EM} {mk : OM} {p2 pos : Pos}
end
variable {ρ : Y.Env}
end Y

set_option Elab.async false
set_option linter.all false
set_option maxRecDepth 100000
namespace Y
open PySem PySem.Spec PyProof.Rows L2
section
variable {X : Cx} {P0 : Pr} {O W : List Nat} {pos : Pos}
end
end Y

set_option Elab.async false
set_option linter.all false
set_option maxRecDepth 100000
namespace Y
open PySem PySem.Spec PyProof.Rows L2
section
variable {X : Cx} {P0 : Pr} {O W : List Nat} {E : EK} {a : Expr} {ma : EM} {pos : Pos}
end
variable {ρ : Y.Env}
end Y

set_option Elab.async false
set_option linter.all false
set_option maxRecDepth 100000
namespace Y
open PySem PySem.Spec PyProof.Rows L2
section
variable {X : Cx}
end
end Y

set_option Elab.async false
set_option linter.all false
set_option maxRecDepth 100000
namespace Y
open PySem PySem.Spec PyProof.Rows L2
section
variable {K : PySem.W.Frag} {P0 : Pr} {O W U : List Nat} {ρ : Y.Env} {σ : L2.St} {H : Hp} {i : Nat}
end
section
variable {X : Cx} {P0 : Pr} {O W U : List Nat} {E : EK} {st2 : Stmt} {sts : List Stmt} {m mr : SM}
end
end Y

set_option Elab.async false
set_option linter.all false
set_option maxRecDepth 100000
namespace Y
open PySem PySem.Spec PyProof.Rows L2
section
variable {X : Cx} {P0 : Pr} {O W : List Nat} {E : EK} {e f : Expr} {mk mv : EM}
end
variable {ρ : Y.Env}
end Y

set_option Elab.async false
set_option linter.all false
set_option maxRecDepth 100000
namespace Y
open PySem PySem.Spec PyProof.Rows L2
section
variable {prog : Program} {w : World} {d r : Addr} {es : Array DictEntry} {ep : Nat}
end
section
variable {X : Cx} {o : Expr} {td : TE} {p pos apos mpos : Pos}
end
section
variable {X : Cx} {P0 : Pr} {O W : List Nat} {E : EK}
end
variable {ρ : Y.Env}
end Y

set_option Elab.async false
set_option linter.all false
set_option maxRecDepth 100000
namespace Y
open PySem PySem.Spec PyProof.Rows L2
end Y

set_option Elab.async false
set_option linter.all false
set_option maxRecDepth 100000
namespace Y
open PySem PySem.Spec PyProof.Rows L2
section
variable {K : PySem.W.Frag} {P0 : Pr} {O W U : List Nat} {ρ : Y.Env} {σ : L2.St} {H : Hp} {i : Nat}
end
section
variable {X : Cx} {P0 : Pr} {O W U : List Nat} {E : EK} {st2 : Stmt} {sts : List Stmt} {m mr : SM}
end
section
variable {X : Cx} {P0 : Pr} {O W : List Nat} {E : EK} {pos : Pos}
end
end Y

set_option Elab.async false
set_option linter.all false
set_option maxRecDepth 100000
namespace Y
open PySem PySem.Spec PyProof.Rows L2
section
variable {X : Cx} {P0 : Pr} {O W : List Nat} {E : EK} {a e f : Expr} {ma mb mc : EM}
end
section
variable {K : PySem.W.Frag} {X : Cx} {P0 : Pr} {O W U : List Nat} {E : EK} {e f : Expr} {mi mx : EM} {pos : Pos}
end
variable {ρ : Y.Env}
end Y

set_option Elab.async false
set_option linter.all false
set_option maxRecDepth 100000
namespace Y
open PySem PySem.Spec PyProof.Rows L2
theorem PGs.imp {X : Cx} {e : List Expr} {t t' : TGs} (h : PGs X e t) (i : ∀ v σ H Q, t' v σ H Q → t v σ H Q) : PGs X e t' := by
  cases h with
  | mk h => exact ⟨fun pins s σ H v u Q I r q => h pins s σ H v u Q I r (i v σ H Q q)⟩
section
variable {X : Cx} {P0 : Pr} {O W : List Nat} {pos : Pos}
end
def prsD : List D → Option (List (D × D))
  | [] => some []
  | .tup [k, v] :: ds => (prsD ds).map ((k, v) :: ·)
  | _ :: _ => none
section
variable {κ : Type} [DecidableEq κ]
theorem mergeK_nd : ∀ {more acc : List (Key × V)}, ((acc ++ more).map (·.1)).Nodup → mergeK acc more = acc ++ more
  | [], acc, _ => by simp [mergeK]
  | p :: more, acc, h => by
    have hn : (acc.any fun kv => decide (kv.1 = p.1)) = false := by
      rw [List.any_eq_false]
      intro q hq z
      have z := of_decide_eq_true z
      rw [List.map_append, List.nodup_append] at h
      exact h.2.2 q.1 (List.mem_map.mpr ⟨q, hq, rfl⟩) p.1 (by simp) z
    have e : mergeK acc (p :: more) = mergeK (acc ++ [p]) more := by
      show mergeK (putK acc p.1 p.2) more = _
      unfold putK
      rw [hn]
      rfl
    rw [e, mergeK_nd (by rw [List.append_assoc]; exact h), List.append_assoc]
    rfl
end
theorem prs_rep {K : PySem.W.Frag} {H : Hp} {P : Pr} : ∀ {ds : List D} {vs : List V} {ps : List (D × D)}, Reps K H ds P vs → prsD ds = some ps → ∃ (as : List Addr) (ks ws : List V), vs = as.map V.ref ∧ as.length = ps.length ∧ Reps K H (ps.map (·.1)) P ks ∧ Reps K H (ps.map (·.2)) P ws ∧ ∀ (j : Nat) (a : Addr), as[j]? = some a → ∃ k w, ks[j]? = some k ∧ ws[j]? = some w ∧ SqT K H a [k, w]
  | [], vs, ps, r, e => by
    cases e
    exact ⟨[], [], [], r.nil_iff, rfl, Reps.nil, Reps.nil, fun j a h => by simp at h⟩
  | d :: ds, vs, ps, r, e => by
    obtain ⟨v, us, rfl, r1, r2⟩ := r.cons_iff
    unfold prsD at e
    split at e
    · rename_i h; cases h
    · rename_i k w ds' h
      cases h
      cases q : prsD ds with
      | none => rw [q] at e; cases e
      | some qs =>
        rw [q] at e
        cases e
        unfold Rep at r1
        obtain ⟨a, xs, rfl, h1, h2⟩ := r1
        obtain ⟨k', xs, rfl, k1, h2⟩ := h2.cons_iff
        obtain ⟨w', xs, rfl, w1, h2⟩ := h2.cons_iff
        have := h2.nil_iff
        subst this
        obtain ⟨as, ks, ws, e1, e2, e3, e4, e5⟩ := prs_rep r2 q
        refine ⟨a :: as, k' :: ks, w' :: ws, by rw [e1]; rfl, by simp [e2], Reps.cons k1 e3, Reps.cons w1 e4, fun j b hb => ?_⟩
        cases j with
        | zero =>
          simp at hb
          subst hb
          exact ⟨k', w', rfl, rfl, SqT.of h1⟩
        | succ j => simpa using e5 j b (by simpa using hb)
    · cases e
end Y

set_option Elab.async false
set_option linter.all false
set_option maxRecDepth 100000
namespace Y
open PySem PySem.Spec PyProof.Rows L2 RT
section
variable {prog : Program} {w : World} {A : Around} {E : Value → Shared → Prop} {s : Shared}
end
section
variable {X : Cx}
end
section
variable {X : Cx} {P0 : Pr} {O W : List Nat} {E : EK} {e : Expr} {me : EM} {pos : Pos}
end
variable {ρ : Y.Env}
end Y

set_option Elab.async false
set_option linter.all false
set_option maxRecDepth 100000
namespace Y
open PySem PySem.Spec PyProof.Rows L2
end Y

set_option Elab.async false
set_option linter.all false
set_option maxRecDepth 100000
namespace Y
open PySem PySem.Spec PyProof.Rows L2
abbrev PrT := Addr × List Int
/-- what a set holds of the first i things -/
structure Has (ks : List PrT) (i : Nat) (L : List PrT) : Prop where
  low : ∀ q ∈ L, q ∈ ks.take i
  top : ∀ q ∈ ks.take i, q.2 ∈ L.map (·.2)
theorem Has.none (ks : List PrT) : Has ks 0 [] := ⟨fun q z => (nomatch z), fun q z => by simp at z⟩
theorem take_more {α : Type} {l : List α} {i : Nat} {x : α} (h : l[i]? = some x) : l.take (i + 1) = l.take i ++ [x] := by rw [List.take_add_one, h]; rfl
theorem Has.stay {ks L : List PrT} {i : Nat} {x : PrT} (g : Has ks i L) (h : ks[i]? = some x) (m : x.2 ∈ L.map (·.2)) : Has ks (i + 1) L := by
  refine ⟨fun q z => ?_, fun q z => ?_⟩
  · rw [take_more h]; exact List.mem_append_left _ (g.low q z)
  · rw [take_more h] at z
    rcases List.mem_append.mp z with z | z
    · exact g.top q z
    · rw [List.mem_singleton] at z; rw [z]; exact m
theorem Has.grow {ks L M : List PrT} {i : Nat} {x : PrT} (g : Has ks i L) (h : ks[i]? = some x) (pm : M.Perm (x :: L)) : Has ks (i + 1) M := by
  refine ⟨fun q z => ?_, fun q z => ?_⟩
  · rw [take_more h]
    rcases List.mem_cons.mp (pm.mem_iff.mp z) with rfl | z
    · exact List.mem_append_right _ (by simp)
    · exact List.mem_append_left _ (g.low q z)
  · refine (pm.map (·.2)).mem_iff.mpr ?_
    rw [take_more h] at z
    rcases List.mem_append.mp z with z | z
    · exact List.mem_cons_of_mem _ (g.top q z)
    · rw [List.mem_singleton] at z; rw [z]; exact List.mem_cons_self
section
variable {P : Program} {w : World} {A : Around} {E : Value → Shared → Prop} {s : Shared}
end
section
variable {K : PySem.W.Frag} {X : Cx} {P0 : Pr} {O W : List Nat} {E : EK} {a e : Expr} {ma : EM} {pos : Pos}
end
end Y

set_option Elab.async false
set_option linter.all false
set_option maxRecDepth 100000
namespace Y
open PySem PySem.Spec PyProof.Rows L2
end Y

set_option Elab.async false
set_option linter.all false
set_option maxRecDepth 100000
namespace Y
open PySem PySem.Spec PyProof.Rows L2
section
variable {X : Cx}
end
end Y

set_option Elab.async false
set_option linter.all false
set_option maxRecDepth 100000
namespace Y
open PySem PySem.Spec PyProof.Rows L2
section
variable {X : Cx}
end
end Y

set_option Elab.async false
set_option linter.all false
set_option maxRecDepth 100000
namespace Y
open PySem PySem.Spec PyProof.Rows L2
section
variable {X : Cx} {e k : Expr} {te : TE} {p2 pos : Pos}
end
section
variable {X : Cx} {P0 : Pr} {O W : List Nat} {E : EK} {e k : Expr} {ma : EM} {mk : OM} {p2 pos : Pos}
end
variable {ρ : Y.Env}
end Y

set_option Elab.async false
set_option linter.all false
set_option maxRecDepth 100000
namespace Y
open PySem PySem.Spec PyProof.Rows L2
variable {K : PySem.W.Frag} {P0 : Pr} {O W U : List Nat} {E : EK} {ms : AM}
section
variable {X : Cx}
end
variable {ρ : Y.Env}
end Y

set_option Elab.async false
set_option linter.all false
set_option maxRecDepth 100000
namespace Y
open PySem PySem.Spec PyProof.Rows L2
section
variable {X : Cx} {P0 : Pr} {O W U : List Nat} {E : EK} {st2 : Stmt} {sts : List Stmt} {m mr : SM}
end
end Y

set_option Elab.async false
set_option linter.all false
set_option maxRecDepth 100000
namespace Y
open PySem PySem.Spec PyProof.Rows L2
section
variable {X : Cx} {i : Nat} {x : Str}
end
end Y

set_option Elab.async false
set_option linter.all false
set_option maxRecDepth 100000
namespace Y
open PySem PySem.Spec PyProof.Rows L2
section
variable {K : PySem.W.Frag} {O W : List Nat}
end
section
variable {X : Cx} {P0 : Pr} {O W : List Nat} {E : EK} {a b c tg : Expr} {ms : AM} {pos : Pos}
end
end Y

set_option Elab.async false
set_option linter.all false
set_option maxRecDepth 100000
namespace Y
open PySem PySem.Spec PyProof.Rows L2
section
variable {prog : Program} {w : World} {A : Around} {E : Value → Shared → Prop}
end
section
variable {X : Cx}
end
end Y

set_option Elab.async false
set_option linter.all false
set_option maxRecDepth 100000
namespace Y
open PySem PySem.Spec PyProof.Rows L2
section
variable {X : Cx} {P0 : Pr} {O W U : List Nat} {E : EK} {st : Stmt} {m n : SM} {pre tl : List Stmt}
end
section
variable {K : PySem.W.Frag} {P0 : Pr} {O W : List Nat} {ρ1 ρ2 : Y.Env} {σ1 σ2 : L2.St} {H1 H2 : Hp}
end
section
variable {X : Cx} {P0 : Pr} {O W U UU us : List Nat} {E : EK} {XE : XK} {e : Expr} {es : List Expr} {ms : AM} {pos pos2 p px : Pos} {k np i : Nat} {name x : Str} {n n0 : SM} {tl pre : List Stmt} {tr : D → Bool} {R : PySem.W.Frag → Pr → V → Hp → Prop}
def r0 (K : PySem.W.Frag) (A : Pr) (v : V) (H : Hp) : Prop := ∃ a ws b xs, v = .ref a ∧ A a ∧ ws.length < sizeLine ∧ H a = some (.lst ws) ∧ ws[0]? = some (V.ref b) ∧ A b ∧ b ≠ a ∧ H b = some (.lst xs)
end
end Y

set_option Elab.async false
set_option linter.all false
set_option maxRecDepth 100000
namespace Y
open PySem PySem.Spec PyProof.Rows L2
section
variable {K : PySem.W.Frag} {X : Cx} {P0 : Pr} {O W : List Nat} {E : EK} {e : Expr} {es : List Expr} {ms : AM} {pos : Pos}
theorem Out.newF {P : Pr} {H : Hp} {ds : List D} {vs : List V} {Q : VK} {o : Obj} (h : Out K P H (.ftu ds) Q) (hm : ∀ b, P b → isMut (H b)) (hd : o.dict = none) (r : Reps K H ds P vs) {p : Addr} (hp : H p = none) : Q (.ref p) (upd H p (.frz o (.tup vs))) :=
  h _ _ (Same.new hp) (Rep.ftu_of upd_same hd (r.mono ds hm (fun b u e _ => by rw [upd_ne (ne_of_none e hp)]; exact e) fun b z => .inl z)) fun z => by cases z
/-- tuple(x), told as known -/
def tupleFD : List D → R D
  | [.lst ds] => .ok (.ftu ds)
  | [.ftu ds] => .ok (.ftu ds)
  | _ => .stk
theorem cd_tupleF : CallR X (.type "tuple") (rDs X.K tupleFD) := by
  intro pins s σ H xs us Q I r ⟨P, ds, dz, hm, rs, e, out⟩
  unfold tupleFD at e
  split at e
  · cases e
    obtain ⟨v, rfl, r1⟩ := rs.get1
    obtain ⟨a, vs, rfl, h1, h2⟩ := r1.lst
    obtain ⟨u, rfl, rx⟩ := vals1 r
    cases rx
    obtain ⟨its, r', pl, hz⟩ := I.list (SqL.of h1)
    have hlen := r'.length
    refine call_tuple_list pl.isList (fun h' kp => ?_) (by simp only [List.size_toArray] <;> omega)
    have I1 : Inv X pins σ H { s with heap := h' } := I.kept (t' := s.toks) kp
    have I2 : Inv X pins σ (upd H h'.objs.size (.frz { cls := .type "tuple", data := .seq its.toArray } (.tup vs))) { s with heap := h'.push { cls := .type "tuple", data := .seq its.toArray } } :=
      I1.laid (t' := s.toks) (fun b o e => Heap.get?_push_of_some _ e) (Nat.le_refl _) (show ObjOk X.prog X.w _ _ _ (.frz _ (.tup vs)) from ⟨Heap.get?_push_size _ rfl, hz, its, r', IsTup.new _ _⟩)
    exact ⟨.ref h'.objs.size, _, I2, rfl, out.newF hm rfl h2 (I1.hok.fresh (Nat.le_refl _))⟩
  · cases e
    obtain ⟨v, rfl, r1⟩ := rs.get1
    obtain ⟨a, vs, o, rfl, h1, hd, h2⟩ := r1.ftu
    exact call_tuple_of pins s σ H _ us Q I r ⟨a, vs, rfl, .inr ⟨SqT.fz h1, out.flat (Rep.ftu_of h1 hd h2) rfl⟩⟩
  · cases e
end
section
variable {K : PySem.W.Frag} {X : Cx} {P0 : Pr} {O W : List Nat} {E : EK} {o e : Expr} {es : List Expr} {to : TE} {t : TA} {name : Str} {apos cpos : Pos} {id : String} {r : V → List V → Hp → VK → Prop}
end
section
variable {X : Cx}
theorem pairs_ofF {pins : List (Addr × Obj)} {σ : L2.St} {H : Hp} {s : Shared} (I : Inv X pins σ H s) : ∀ {ps : List Addr} {kvs : List (Key × V)}, Paired (fun p kv => SqT X.K H p [kV kv.1, kv.2]) ps kvs →
    ∃ (prs : List (Key × Value)) (psv : List (Value × Value)), KV kvs prs ∧ prs.length = ps.length ∧ psv.length = ps.length ∧ ∀ (j : Nat) (u y : Value), psv[j]? = some (u, y) → ∃ (b : Addr) (k : Key), ps[j]? = some b ∧ IsTup s.heap b #[u, y] ∧ prs[j]? = some (k, y) ∧ keyIs k u = true
  | _, _, .nil => ⟨[], [], .nil, rfl, rfl, fun j u y e => by simp at e⟩
  | _, _, .cons (a := p) (b := kv) h t => by
    obtain ⟨prs, psv, r, hl, hl2, hp⟩ := pairs_ofF I t
    obtain ⟨its, rv, ht, _⟩ := I.tuple h
    obtain ⟨u, y, ei, ru, ry⟩ := vals2 rv
    subst ei
    refine ⟨(kv.1, y) :: prs, (u, y) :: psv, .cons ⟨rfl, ry⟩ r, by rw [List.length_cons, List.length_cons, hl], by rw [List.length_cons, List.length_cons, hl2], fun j u' y' e => ?_⟩
    cases j with
    | zero =>
      have e' : (u, y) = (u', y') := Option.some.inj e
      cases e'
      exact ⟨p, kv.1, rfl, ht, rfl, kV_is (P := X.prog) (w := X.w) ru⟩
    | succ j =>
      obtain ⟨b, k, e1, e2, e3, e4⟩ := hp j u' y' (by simpa using e)
      exact ⟨b, k, by simpa using e1, e2, by simpa using e3, e4⟩
theorem call_dictF (hcalm : X.calm = true) : CallR X (.type "dict") (fun xs H Q => ∃ (a : Addr) (ob : Obj) (ps : List Addr) (kvs : List (Key × V)), xs = [.ref a] ∧ H a = some (.frz ob (.tup (ps.map V.ref))) ∧ ob.dict = none ∧ Paired (fun p kv => SqT X.K H p [kV kv.1, kv.2]) ps kvs ∧
    ∀ p, H p = none → Q (.ref p) (upd H p (.dK (mergeK [] kvs)))) := by
  intro pins s σ H xs us Q I r q
  obtain ⟨a, ob, ps, kvs, ex, hq, hdn, hp, q⟩ := q
  subst ex
  obtain ⟨u, eu, rx⟩ := vals1 r
  subst eu
  cases rx
  obtain ⟨ho, hz, its, rv, o2, ho2, hc2, n, hdat⟩ := I.hok a _ hq
  have ho : s.heap.get? a = some ob := ho
  have eo : ob = o2 := by rw [ho] at ho2; exact Option.some.inj ho2
  subst eo
  have ei := refs_at rv
  subst ei
  rw [List.length_map] at hz
  obtain ⟨prs, psv, rel, hl, hl2, hpr⟩ := pairs_ofF I hp
  have ok : PlainSeq "tuple" s.heap a (ps.map Value.ref).toArray ∧ PairItems s.heap (ps.map Value.ref).toArray (fun j => ps.getD j 0) psv := by
    refine ⟨⟨ob, n, ho, hc2, hdn, hdat⟩, by rw [List.size_toArray, List.length_map, hl2], fun j k v e => ?_⟩
    obtain ⟨b, kk, e1, e2, _, _⟩ := hpr j k v e
    have eb : ps.getD j 0 = b := by rw [List.getD_eq_getElem?_getD, e1]; rfl
    refine ⟨by simp [e1, eb], .inl ?_⟩
    show s.heap.IsTuple (ps.getD j 0) _
    rw [eb]
    exact e2
  refine PySem.call_dict_pairs (knd := mixKind X.prog X.w) (kvs := prs) (PairArg.tuple a (ps.map Value.ref).toArray (fun j => ps.getD j 0) psv) (I.ok.hd hcalm) ok ⟨by rw [hl, hl2], fun i key v e => ?_⟩ (by rw [hl2]; exact hz) fun h' tk hd' k => ?_
  · obtain ⟨b, kk, e1, e2, e3, e4⟩ := hpr i key v e
    exact ⟨kk, e3, e4⟩
  · have hm : (s.heap.objs.size == sysModules) = false := beq_eq_false_iff_ne.mpr (Nat.ne_of_gt I.big)
    have hlen : (mergeK [] kvs).length ≤ sizeLine := by
      refine Nat.le_trans (length_mergeK kvs []) ?_
      rw [List.length_nil, Nat.zero_add, rel.length, hl]
      exact hz
    exact ⟨.ref s.heap.objs.size, upd H s.heap.objs.size (.dK (mergeK [] kvs)), I.laid (t' := tk) (fun b o e => k b o (by simp) e) (Nat.le_refl _) (show ObjOk X.prog X.w _ _ _ (.dK (mergeK [] kvs)) from ⟨hlen, hm, merged [] prs, KV.merge rel .nil, hd'⟩), rfl, q _ (I.hok.fresh (Nat.le_refl _))⟩
def dictFD : List D → R D
  | [.ftu ds] => match prsD ds with
    | some ps => match keysOf (ps.map (·.1)) with
      | some ks => if ks.Nodup then .ok (.dik ks (ps.map (·.2))) else .stk
      | none => .stk
    | none => .stk
  | _ => .stk
theorem cd_dictF (hc : X.calm = true) : CallR X (.type "dict") (rDs X.K dictFD) := by
  intro pins s σ H xs us Q I r ⟨P, ds, dz, hm, rs, e, out⟩
  unfold dictFD at e
  split at e
  · rename_i ds
    cases q : prsD ds with
    | none => rw [q] at e; cases e
    | some ps =>
      rw [q] at e
      dsimp only at e
      cases ek : keysOf (ps.map (·.1)) with
      | none => rw [ek] at e; cases e
      | some ks =>
        rw [ek] at e
        dsimp only at e
        by_cases nd : ks.Nodup
        · rw [if_pos nd] at e
          cases e
          obtain ⟨v, rfl, r1⟩ := rs.get1
          obtain ⟨a, vs, ob, rfl, h1, hdn, h2⟩ := r1.ftu
          obtain ⟨as, kvs, ws, e1, e2, e3, e4, e5⟩ := prs_rep h2 q
          subst e1
          have eks := keysOf_rep e3 ek
          have l1 : kvs.length = ps.length := by rw [e3.length, List.length_map]
          have l2 : ws.length = ps.length := by rw [e4.length, List.length_map]
          have l3 : ks.length = ps.length := by rw [← l1, eks, List.length_map]
          have fz : (ks.zip ws).map (·.1) = ks := fstZip (by omega)
          refine call_dictF hc pins s σ H _ us Q I r ⟨a, ob, as, ks.zip ws, rfl, h1, hdn, paired_of (by rw [List.length_zip]; omega) fun j b p hb hp => ?_, fun p np => ?_⟩
          · obtain ⟨k, w, z1, z2, z3⟩ := e5 j b hb
            obtain ⟨y1, y2⟩ := List.getElem?_zip_eq_some.mp hp
            rw [eks, List.getElem?_map, y1] at z1
            rw [y2] at z2
            cases z1
            cases z2
            exact z3
          · rw [mergeK_nd (acc := []) (by rw [List.nil_append, fz]; exact nd), List.nil_append]
            have kp : ∀ b o, H b = some o → upd H p (.dK (ks.zip ws)) b = some o := fun b o e => by rw [upd_ne (ne_of_none e np)]; exact e
            refine out _ _ kp ?_ fun _ a e => by cases e; exact np
            unfold Rep
            exact ⟨p, ws, rfl, fun z => (hm p z).some np, by omega, .inl upd_same, e4.mono _ hm (fun b o e _ => kp b o e) fun b z => z.elim .inl fun z => .inr (by rw [z]; exact np)⟩
        · rw [if_neg nd] at e
          cases e
  · cases e
end
variable {ρ : Y.Env}
@[simp] theorem d_tupleF {ds : List D} : tupleFD [.lst ds] = .ok (.ftu ds) := id rfl
@[simp] theorem d_tupleF2 {ds : List D} : tupleFD [.ftu ds] = .ok (.ftu ds) := id rfl
@[simp] theorem d_dictF {ds : List D} : dictFD [.ftu ds] = (match prsD ds with
    | some ps => match keysOf (ps.map (·.1)) with
      | some ks => if ks.Nodup then .ok (.dik ks (ps.map (·.2))) else .stk
      | none => .stk
    | none => .stk) := id rfl
@[simp] theorem d_lenF {x : List D} : lenD [.ftu x] = .ok (.int x.length) := id rfl
@[simp] theorem d_itF {x : List D} : itD (.ftu x) = .ok x := id rfl
@[simp] theorem d_ixF {x : List D} {i : Int} : ixD (.ftu x) (.int i) = match atI x i with | some d => .ok d | none => .stk := id rfl
@[simp] theorem d_listF {x : List D} : listD [.ftu x] = .ok (.lst x) := id rfl
@[simp] theorem isFt_F {ds : List D} : isFt (.ftu ds) = true := id rfl
@[simp] theorem isTup_F {ds : List D} : isTup (.ftu ds) = true := id rfl
@[simp] theorem nlF {ds : List D} : D.nl (.ftu ds) = nls ds := by simp [D.nl]
end Y

set_option Elab.async false
set_option linter.all false
set_option maxRecDepth 100000
set_option maxHeartbeats 4000000
namespace Y
open PySem PySem.Spec PyProof.Rows L2
section
variable {X : Cx}
end
end Y

set_option Elab.async false
set_option linter.all false
set_option maxRecDepth 100000
set_option maxHeartbeats 4000000
namespace Y
open PySem PySem.Spec PyProof.Rows L2
theorem enum_no_len : typeLookup (.type "enumerate") "__len__" = pure none := am_miss_of_fast (by decide +kernel)
theorem enum_no_hint : typeLookup (.type "enumerate") "__length_hint__" = pure none := am_miss_of_fast (by decide +kernel)
section
variable {prog : Program} {w : World} {A : Around} {E : Value → Shared → Prop} {s : Shared} {R : Result → Shared → Prop} {e it S T : Addr} {fp : List Addr} {n i : Nat} {P : Nat → Value → Prop} {St : Nat → Heap → Prop} {f : Bool} {oT : Obj} {old : Value}
theorem enum_hint {r : Addr} {Q : Bool → Shared → Prop} (hT : s.TypeIs (.ref r) "enumerate") (h : Q true s) : wpAny (model prog w) A (Builtin.List.listLengthHint (.ref r)) Q E s := by
  unfold Builtin.List.listLengthHint
  exact wpAny_bind (wpAny_specialOf hT enum_no_len (wpAny_bind (wpAny_specialOf hT enum_no_hint (wpAny_pure h))))
theorem enumH_item {Q : Option Value → Shared → Prop} (D : Draws prog w A.in1 it fp n P St) (he : IsEnumHeld s.heap e it (i : Int) old T f) (hT : s.heap.get? T = some oT) (hTe : T ≠ e) (hTi : T ≠ it) (hst : St i s.heap) (hlt : i < n) (hne : e ≠ it) (hef : e ∉ fp)
    (hQ : ∀ x h' tk, P i x → IsEnumHeld h' e it ((i : Int) + 1) old T true → St (i + 1) h' → h'.get? s.heap.objs.size = some { cls := .type "tuple", data := .seq #[.int i tk, x] } →
      (∀ b o, b ≠ e → b ≠ it → s.heap.get? b = some o → h'.get? b = some o) → Q (some (.ref s.heap.objs.size)) { s with heap := h', toks := tk + 1 }) : wpAny (model prog w) A (pyNext (.ref e)) Q E s := by
  have hTy : s.TypeIs (.ref e) "enumerate" := ⟨_, he, rfl⟩
  unfold pyNext
  refine wpAny_bind (wpAny_attempt (wpAny_callSpecial?_slot (name := Str.ofString "__next__") hTy PySem.F.slot_enumerate_next
    (wpAny_call_entry PySem.F.slot_enumerate_next hTy PySem.F.entry_enumerate_next ?_ (PySem.F.args_enumerate_next_1 _))))
  obtain ⟨hp, g, d, tk₀, os⟩ := s
  show wpAny _ _ (field (.ref e) 2 >>= _) _ _ _
  refine wpAny_bind (wpAny_field he rfl (x := .ref it) rfl ?_)
  refine wpAny_bind (D.item i _ _ _ hlt hst fun x h₁ tk hPx hit₁ hs₁ => ?_)
  replace hs₁ : Heap.SameBut it hp h₁ := hs₁
  have he₁ : IsEnumHeld h₁ e it (i : Int) old T f := (hs₁.2 e hne).trans he
  show wpAny _ _ (field (.ref e) 3 >>= _) _ _ ⟨h₁, g, d, tk, os⟩
  refine wpAny_bind (wpAny_field he₁ rfl (x := rawInt i) rfl ?_)
  show wpAny _ _ (field (.ref e) 4 >>= _) _ _ ⟨h₁, g, d, tk, os⟩
  refine wpAny_bind (wpAny_field he₁ rfl (x := .none) rfl ?_)
  show wpAny _ _ (mkInt i >>= _) _ _ ⟨h₁, g, d, tk, os⟩
  refine wpAny_bind (wpAny_mkInt ?_)
  show wpAny _ _ (setField (.ref e) 3 (rawInt ((i : Int) + 1)) >>= _) _ _ ⟨h₁, g, d, tk + 1, os⟩
  refine wpAny_bind (wpAny_setField_rec he₁ (by simp) fun h₂ he₂ hs₂ => ?_)
  replace hs₂ : Heap.SameBut e h₁ h₂ := hs₂
  replace he₂ : IsEnumHeld h₂ e it ((i : Int) + 1) old T f := he₂
  show wpAny _ _ (setField (.ref e) 4 .none >>= _) _ _ ⟨h₂, g, d, tk + 1, os⟩
  refine wpAny_bind (wpAny_setField_rec he₂ (by simp) fun h₃ he₃ hs₃ => ?_)
  replace hs₃ : Heap.SameBut e h₂ h₃ := hs₃
  replace he₃ : IsEnumHeld h₃ e it ((i : Int) + 1) old T f := he₃
  show wpAny _ _ (newTuple [.int i tk, x] >>= _) _ _ ⟨h₃, g, d, tk + 1, os⟩
  refine wpAny_bind (wpAny_newTuple ?_)
  have he₄ : IsEnumHeld (h₃.push { cls := .type "tuple", data := .seq #[.int i tk, x] }) e it ((i : Int) + 1) old T f := Heap.get?_push_of_some _ he₃
  generalize hh₄ : h₃.push { cls := .type "tuple", data := .seq #[.int i tk, x] } = h₄ at he₄
  have hsz : h₃.objs.size = hp.objs.size := by rw [hs₃.1, hs₂.1, hs₁.1]
  have hel : e < hp.objs.size := Heap.lt_size he
  have ht₄ : h₄.get? hp.objs.size = some { cls := .type "tuple", data := .seq #[.int i tk, x] } := by rw [← hh₄, ← hsz]; exact Heap.get?_push_size _ rfl
  have hk₄ : ∀ b o, b ≠ e → b ≠ it → hp.get? b = some o → h₄.get? b = some o := fun b o hbe hbi hb => by
    rw [← hh₄]; exact Heap.get?_push_of_some _ (hs₃.extBut b o hbe (hs₂.extBut b o hbe (hs₁.extBut b o hbi hb)))
  have hit₄ : St (i + 1) h₄ := D.frame _ _ _ hit₁ fun b hb o y => by
    have hbe : b ≠ e := fun q => hef (q ▸ hb)
    rw [← hh₄]; exact Heap.get?_push_of_some _ (hs₃.extBut b o hbe (hs₂.extBut b o hbe y))
  show wpAny _ _ (Builtin.SmallTypes.ownedTupleIsFree (.ref e) >>= _) _ _ ⟨h₄, g, d, tk + 1, os⟩
  rw [hsz]
  refine wpAny_bind (wpAny_tupleHeld_enum (s := ⟨h₄, g, d, tk + 1, os⟩) he₄ (hk₄ T oT hTe hTi hT) fun h₅ he₅ hs₅ => ?_)
  replace hs₅ : Heap.SameBut e h₄ h₅ := hs₅
  simp only [Bool.false_eq_true, if_false]
  refine wpAny_pure ⟨_, rfl, wpAny_pure (hQ x h₅ tk hPx he₅ ?_ (hs₅.extBut _ _ (Nat.ne_of_gt hel) ht₄) fun b o hbe hbi hb => hs₅.extBut b o hbe (hk₄ b o hbe hbi hb))⟩
  exact D.frame _ _ _ hit₄ fun b hb o y => hs₅.extBut b o (fun q => hef (q ▸ hb)) y
theorem enumH_end {Q : Option Value → Shared → Prop} (D : Draws prog w A.in1 it fp n P St) (he : IsEnumHeld s.heap e it (i : Int) old T f) (hst : St n s.heap)
    (hQ : ∀ h', Heap.ExtBut it s.heap h' → Q none { s with heap := h' }) : wpAny (model prog w) A (pyNext (.ref e)) Q E s := by
  have hT : s.TypeIs (.ref e) "enumerate" := ⟨_, he, rfl⟩
  unfold pyNext
  refine wpAny_bind (wpAny_attempt (wpAny_callSpecial?_slot (name := Str.ofString "__next__") hT PySem.F.slot_enumerate_next
    (wpAny_call_entry PySem.F.slot_enumerate_next hT PySem.F.entry_enumerate_next ?_ (PySem.F.args_enumerate_next_1 _))))
  show wpAny _ _ (field (.ref e) 2 >>= _) _ _ _
  refine wpAny_bind (wpAny_field he rfl (x := .ref it) rfl ?_)
  refine wpAny_bind (D.done _ _ _ hst fun h' x he' hx' => ?_)
  obtain ⟨o, ho, hc⟩ := hx'
  refine wpAny_bind (wpAny_isInstance (T := "StopIteration") (b := true) ⟨o, ho, hc⟩ isSubtype_stop ?_)
  exact wpAny_pure (hQ _ he')
/-- i pairs are out -/
def ESt (e it S : Addr) (St : Nat → Heap → Prop) (i : Nat) (h : Heap) : Prop := St i h ∧
  ((∃ old, IsEnum h e it ((i : Nat) : Int) old) ∨ ∃ old T f oT, IsEnumHeld h e it ((i : Nat) : Int) old T f ∧ h.get? T = some oT ∧ T ≠ e ∧ T ≠ it ∧ T ≠ S)
theorem ESt.ty {h : Heap} (x : ESt e it S St i h) : ∃ o, h.get? e = some o ∧ o.cls = .type "enumerate" := by
  rcases x.2 with ⟨_, y⟩ | ⟨_, _, _, _, y, _⟩
  · exact ⟨_, y, rfl⟩
  · exact ⟨_, y, rfl⟩
theorem ESt.stay (D : Draws prog w A it fp n P St) {h h' : Heap} (x : ESt e it S St i h) (nz : S ≠ e) (n1 : S ∉ fp) (k : ∀ b o, b ≠ S → h.get? b = some o → h'.get? b = some o) : ESt e it S St i h' := by
  obtain ⟨a, d⟩ := x
  refine ⟨D.frame _ _ _ a fun q hq o y => k q o (fun e2 => n1 (e2 ▸ hq)) y, ?_⟩
  rcases d with ⟨old, y⟩ | ⟨old, T, f, oT, y, y2, d3, d4, d5⟩
  · exact .inl ⟨old, k _ _ nz.symm y⟩
  · exact .inr ⟨old, T, f, oT, k _ _ nz.symm y, k _ _ d5 y2, d3, d4, d5⟩
theorem el_item {Q : Option Value → Shared → Prop} (D : Draws prog w A.in1 it fp n P St) (x : ESt e it S St i s.heap) (hne : e ≠ it) (hef : e ∉ fp) (ls : S < s.heap.objs.size) (lt : i < n)
    (q : ∀ t x h' tk, P i x → ESt e it S St (i + 1) h' → IsTupOf2 h' s.heap.objs.size (.int (i : Nat) t) x → (∀ c o, c ≠ e → c ≠ it → s.heap.get? c = some o → h'.get? c = some o) → Q (some (.ref s.heap.objs.size)) { s with heap := h', toks := tk }) :
    wpAny (model prog w) A (pyNext (.ref e)) Q E s := by
  obtain ⟨a, d⟩ := x
  have ec : ((i + 1 : Nat) : Int) = (i : Int) + 1 := by omega
  obtain ⟨_, l1⟩ := D.live _ _ a
  rcases d with ⟨old, y⟩ | ⟨old, T, f, oT, y, y2, d3, d4, d5⟩
  · refine wpAny_pyNext_enum_itemD D y a lt hne hef fun x h' tk p1 ho s1 hT hsz hk => ?_
    exact q tk x h' (tk + 1) p1 ⟨s1, .inr ⟨x, s.heap.objs.size, false, _, (by rw [ec]; exact ho), hT, Nat.ne_of_gt (Heap.lt_size y), Nat.ne_of_gt (Heap.lt_size l1), Nat.ne_of_gt ls⟩⟩ hT hk
  · refine enumH_item D y y2 d3 d4 a lt hne hef fun x h' tk p1 ho s1 hT hk => ?_
    exact q tk x h' (tk + 1) p1 ⟨s1, .inr ⟨old, T, true, oT, (by rw [ec]; exact ho), hk _ _ d3 d4 y2, d3, d4, d5⟩⟩ hT hk
theorem el_end {Q : Option Value → Shared → Prop} (D : Draws prog w A.in1 it fp n P St) (x : ESt e it S St n s.heap) (q : ∀ h' tk, (∀ c o, c ≠ it → s.heap.get? c = some o → h'.get? c = some o) → Q none { s with heap := h', toks := tk }) : wpAny (model prog w) A (pyNext (.ref e)) Q E s := by
  obtain ⟨a, d⟩ := x
  rcases d with ⟨old, y⟩ | ⟨old, T, f, oT, y, y2, d3, d4, d5⟩
  · exact wpAny_pyNext_enum_endD D y a fun h' k => q h' s.toks fun c o h e => k c o h e
  · exact enumH_end D y a fun h' k => q h' s.toks fun c o h e => k c o h e
abbrev cntP (j : Nat) (v : Value) : Prop := ∃ t, v = .int (j : Nat) t
theorem el_loop (D : Draws prog w A.in1.in1 it fp n P St) (hne : e ≠ it) (hef : e ∉ fp) (hif : it ∈ fp) (nz : S ≠ e) (n1 : S ∉ fp) {lo : Addr} (lz : e ≤ lo) (l1 : it ≤ lo) (lS : S ≤ lo) (hn : n ≤ sizeLine) (res : Value) {h₁ : Heap}
    (hR : ∀ h' tk acc c as, (∀ b o, b ≠ S → b ≠ e → b ≠ it → h₁.get? b = some o → h'.get? b = some o) → h'.get? S = some { cls := .type "list", dict := none, data := .seq acc c, slots := #[] } → as.length = n → ZG cntP P lo h' as → acc.toList = as.map Value.ref → R (.ok (.ret res)) { s with heap := h', toks := tk }) :
    ∀ (k i : Nat) (h : Heap) (tk c : Nat) (acc : Array Value) (as : List Addr), n - i = k → i ≤ n → ESt e it S St i h → (∀ b o, b ≠ S → b ≠ e → b ≠ it → h₁.get? b = some o → h.get? b = some o) →
      h.get? S = some { cls := .type "list", dict := none, data := .seq acc c, slots := #[] } → acc.toList = as.map Value.ref → as.length = i → ZG cntP P lo h as → lo < h.objs.size →
      codeAny (model prog w) A (.builtin "list.extend.loop" ⟨[.ref S, .ref e, res], []⟩) R { s with heap := h, toks := tk } := by
  have nf1 : S ≠ it := fun q => n1 (q ▸ hif)
  intro k
  induction k with
  | zero =>
    intro i h tk c acc as hk hi hst hkeep hS hacc hal hG hlo
    obtain rfl : i = n := by omega
    refine codeAny_builtin PySem.F.entry_extend_loop ?_
    rw [Around.under_plainId PySem.F.plain_extend_loop _]
    show wpAny _ A.in1 (pyNext (.ref e) >>= _) _ _ _
    refine wpAny_bind (el_end (s := { s with heap := h, toks := tk }) (A := A.in1) D hst fun h' tk' he => ?_)
    refine wpAny_pure (hR h' tk' acc c as (fun b o h1 h2 h3 e => he b o h3 (hkeep b o h1 h2 h3 e)) (he S _ nf1 hS) (by omega) ⟨hG.rise, hG.above, fun j a hj => ?_⟩ hacc)
    obtain ⟨x, y, e1, e2, e3⟩ := hG.pairs j a hj
    have ab := hG.above a (List.mem_of_getElem? hj)
    exact ⟨x, y, e1, e2, he a _ (Nat.ne_of_gt (Nat.lt_of_le_of_lt l1 ab)) e3⟩
  | succ k ih =>
    intro i h tk c acc as hk hi hst hkeep hS hacc hal hG hlo
    have hsz : acc.size = i := by rw [← Array.length_toList, hacc, List.length_map, hal]
    refine codeAny_builtin PySem.F.entry_extend_loop ?_
    rw [Around.under_plainId PySem.F.plain_extend_loop _]
    show wpAny _ A.in1 (pyNext (.ref e) >>= _) _ _ _
    refine wpAny_bind (el_item (s := { s with heap := h, toks := tk }) (A := A.in1) D hst hne hef (Heap.lt_size hS) (by omega) fun t x2 h' tk' p2 hst' ht hkp => ?_)
    dsimp only at ht hkp ⊢
    have hS' := hkp S _ nz nf1 hS
    have up : ∀ b o, b ≠ S → h'.get? b = some o → (h'.update S (Obj.mapSeq (·.push (Value.ref h.objs.size)))).get? b = some o := fun b o hb e => (Heap.get?_update_other _ _ (Ne.symm hb)).trans e
    have hSl : S < h.objs.size := Heap.lt_size hS
    show wpAny _ A.in1 (updateSeq S (·.push (Value.ref h.objs.size)) >>= _) _ _ _
    refine wpAny_bind ?_
    refine wpAny_updateSeq hS' rfl (wpAny_pure ⟨plainId_quiet PySem.F.plain_extend_loop _, ih (i + 1) _ tk' _ (acc.push (Value.ref h.objs.size)) (as ++ [h.objs.size]) (by omega) (by omega) (hst'.stay D nz n1 up)
      (fun b o h1 h2 h3 e => up b o h1 (hkp b o h2 h3 (hkeep b o h1 h2 h3 e))) (Heap.get?_update_self _ hS' rfl) (by rw [Array.toList_push, hacc, List.map_append]; rfl) (by rw [List.length_append, hal]; rfl) ⟨?_, ?_, ?_⟩ ?_⟩) (by rw [hsz]; omega) (by show (acc.push (Value.ref h.objs.size)).size ≤ sizeLine + 1; rw [Array.size_push, hsz]; omega)
    · refine List.pairwise_append.mpr ⟨hG.rise, List.pairwise_singleton _ _, fun a ha b hb => ?_⟩
      rw [List.mem_singleton.mp hb]
      exact hG.there ha
    · intro a ha
      rcases List.mem_append.mp ha with ha | ha
      · exact hG.above a ha
      · rw [List.mem_singleton.mp ha]; exact hlo
    · intro j b hj
      rcases Nat.lt_trichotomy j as.length with h1 | h1 | h1
      · rw [List.getElem?_append_left h1] at hj
        obtain ⟨x, y, e1, e2, e3⟩ := hG.pairs j b hj
        have ab := hG.above b (List.mem_of_getElem? hj)
        exact ⟨x, y, e1, e2, up b _ (Nat.ne_of_gt (Nat.lt_of_le_of_lt lS ab)) (hkp b _ (Nat.ne_of_gt (Nat.lt_of_le_of_lt lz ab)) (Nat.ne_of_gt (Nat.lt_of_le_of_lt l1 ab)) e3)⟩
      · subst h1
        have hb : h.objs.size = b := by simpa using hj
        subst hb
        subst hal
        exact ⟨_, x2, ⟨t, rfl⟩, p2, up _ _ (Nat.ne_of_gt hSl) ht⟩
      · have hnone : (as ++ [h.objs.size])[j]? = none := List.getElem?_eq_none (by rw [List.length_append, List.length_singleton]; omega)
        rw [hnone] at hj; cases hj
    · have e : (h'.update S (Obj.mapSeq (·.push (Value.ref h.objs.size)))).get? h.objs.size = _ := up _ _ (Nat.ne_of_gt hSl) ht
      exact Nat.lt_trans hlo (Heap.lt_size e)
theorem el_extend (D : Draws prog w A.in1.in1 it fp n P St) (hne : e ≠ it) (hef : e ∉ fp) (hif : it ∈ fp) (n1 : S ∉ fp) (lz : e < S) (l1 : it ≤ S) (hn : n ≤ sizeLine) (res : Value)
    (he : IsEnum s.heap e it 0 .none) (s1 : St 0 s.heap) (c₀ : Nat) (hS : s.heap.get? S = some { cls := .type "list", data := .seq #[] c₀ })
    (hR : ∀ h' tk acc c as, (∀ b o, b ≠ S → b ≠ e → b ≠ it → s.heap.get? b = some o → h'.get? b = some o) → h'.get? S = some { cls := .type "list", dict := none, data := .seq acc c, slots := #[] } → as.length = n → ZG cntP P S h' as → acc.toList = as.map Value.ref → R (.ok (.ret res)) { s with heap := h', toks := tk }) :
    wpAny (model prog w) A.in1 (Builtin.List.listExtendWith (.ref S) (.ref e) res)
      (fun fin s' => match fin with | .done f => R (.ok f) s' | .again c' => c'.quiet = true ∧ codeAny (model prog w) A c' R s') (fun e s' => R (.error e) s') s := by
  have nz : S ≠ e := Nat.ne_of_gt lz
  have key : ∀ (h : Heap) (c₁ tk : Nat), (∀ b o, b ≠ S → s.heap.get? b = some o → h.get? b = some o) → h.get? S = some { cls := .type "list", data := .seq #[] c₁ } → codeAny (model prog w) A (.builtin "list.extend.loop" ⟨[.ref S, .ref e, res], []⟩) R { s with heap := h, toks := tk } := by
    intro h c₁ tk hk hS₁
    have st0 : ESt e it S St 0 s.heap := ⟨s1, .inl ⟨.none, he⟩⟩
    exact el_loop (s := s) (h₁ := s.heap) D hne hef hif nz n1 (lo := S) (Nat.le_of_lt lz) l1 (Nat.le_refl _) hn res hR
      n 0 h tk c₁ #[] [] (Nat.sub_zero _) (Nat.zero_le _) (st0.stay D nz n1 hk) (fun b o hb _ _ e => hk b o hb e) hS₁ rfl rfl
      ⟨List.Pairwise.nil, (fun _ ha => nomatch ha), (fun j a hj => by simp at hj)⟩ (Heap.lt_size hS₁)
  have ty : s.TypeIs (.ref e) "enumerate" := ⟨_, he, rfl⟩
  unfold Builtin.List.listExtendWith
  refine wpAny_bind (wpAny_typeOf (T := "enumerate") ty ?_)
  have h1 : Builtin.List.listSameRef (.ref S) (.ref e) = false := by simp [Builtin.List.listSameRef, nz]
  have h2 : (Value.type "enumerate" == Value.type "list") = false := by decide
  have h3 : (Value.type "enumerate" == Value.type "tuple") = false := by decide
  simp only [h1, h2, h3, Bool.or_false, Bool.false_eq_true, if_false]
  refine wpAny_bind (wpAny_pyIter_enum he ?_)
  refine wpAny_bind (wpAny_holding (enum_hint ty ?_))
  simp only [Bool.true_or, if_true]
  refine wpAny_bind (wpAny_rule ?_)
  refine wpAny_bind ?_
  show wpAny _ _ (updateSeq S (·.push .none) >>= fun _ => updateSeq S (·.pop)) _ _ _
  refine wpAny_bind (wpAny_updateSeq hS rfl ?_)
  have hS₂ := Heap.get?_update_self (Obj.mapSeq (·.push Value.none)) hS rfl
  refine wpAny_updateSeq (hz := by seq_fits) hS₂ rfl ?_
  have hS₃ := Heap.get?_update_self (Obj.mapSeq (·.pop)) hS₂ rfl
  refine wpAny_pure ⟨plainId_quiet PySem.F.plain_extend_loop _, key _ _ _ (fun b o hb e => ?_) hS₃⟩
  exact (Heap.get?_update_other _ _ (Ne.symm hb)).trans ((Heap.get?_update_other _ _ (Ne.symm hb)).trans e)
theorem el_collect {Q : List Value → Shared → Prop} (D : Draws prog w A.in1.in1 it fp n P St) (hne : e ≠ it) (hef : e ∉ fp) (hif : it ∈ fp) (hfp : ∀ b ∈ fp, b < s.heap.objs.size) (hn : n ≤ sizeLine) (he : IsEnum s.heap e it 0 .none) (s1 : St 0 s.heap)
    (hQ : ∀ (h' : Heap) (tk : Nat) (acc : Array Value) (as : List Addr), (∀ b o, b ≠ e → b ≠ it → s.heap.get? b = some o → h'.get? b = some o) → s.heap.objs.size < h'.objs.size → as.length = n → ZG cntP P s.heap.objs.size h' as → acc.toList = as.map Value.ref → Q acc.toList { s with heap := h', toks := tk }) :
    wpAny (model prog w) A (collect (.ref e)) Q E s := by
  have hel : e < s.heap.objs.size := Heap.lt_size he
  have hil : it < s.heap.objs.size := hfp _ hif
  unfold collect
  refine wpAny_bind (wpAny_runValue (codeAny_builtin PySem.F.entry_proto_collect ?_))
  rw [Around.under_plainId PySem.F.plain_proto_collect _]
  show wpAny _ A.in1 (newList [] >>= fun l => again (.builtin "list.__iadd__" ⟨[l, .ref e], []⟩)) _ _ s
  refine wpAny_bind (wpAny_newObj_type ?_)
  refine wpAny_pure ⟨plainId_quiet PySem.F.plain_list_iadd _, codeAny_builtin PySem.F.entry_list_iadd ?_⟩
  rw [Around.under_plainId PySem.F.plain_list_iadd _]
  show wpAny _ A.in1 (Builtin.List.listExtendWith (.ref s.heap.objs.size) (.ref e) (.ref s.heap.objs.size)) _ _ _
  have hS : (s.heap.push { cls := .type "list", data := .seq ([] : List Value).toArray }).get? s.heap.objs.size = some { cls := .type "list", data := .seq #[] 0 } := Heap.get?_push_size _ rfl
  refine wpAny_mono (el_extend (A := A) (R := fun rr s' => rr = .ok (.ret (.ref s.heap.objs.size)) ∧ ∃ (h' : Heap) (tk : Nat) (acc : Array Value) (c' : Nat) (as : List Addr), s' = { s with heap := h', toks := tk } ∧
      (∀ b o, b ≠ e → b ≠ it → s.heap.get? b = some o → h'.get? b = some o) ∧ h'.get? s.heap.objs.size = some { cls := .type "list", dict := none, data := .seq acc c', slots := #[] } ∧ as.length = n ∧ ZG cntP P s.heap.objs.size h' as ∧ acc.toList = as.map Value.ref)
    (s := { s with heap := s.heap.push { cls := .type "list", data := .seq ([] : List Value).toArray } }) D hne hef hif (fun z => Nat.lt_irrefl _ (hfp _ z)) hel (Nat.le_of_lt hil) hn _ (Heap.get?_push_of_some _ he) (D.frame _ _ _ s1 fun b _ o y => Heap.get?_push_of_some _ y) 0 hS
    (fun h' tk acc c' as hk e' hl hG ha => ⟨rfl, h', tk, acc, c', as, rfl, fun b o b1 b2 q => hk b o (Nat.ne_of_lt (Heap.lt_size q)) b1 b2 (Heap.get?_push_of_some _ q), e', hl, hG, ha⟩)) (fun fin s' h => ?_) (fun e s' h => ?_)
  · cases fin with
    | done f =>
      obtain ⟨e', h', tk, acc, c', as, rfl, hk, hS', hl, hG, ha⟩ := h
      cases e'
      show wpAny _ A (load s.heap.objs.size >>= _) _ _ _
      exact wpAny_bind (wpAny_load hS' (wpAny_pure (hQ h' tk acc as hk (Heap.lt_size hS') hl hG ha)))
    | again c' =>
      refine ⟨h.1, codeAny_mono h.2 fun rr s'' hr' => ?_⟩
      obtain ⟨rfl, h', tk, acc, c', as, rfl, hk, hS', hl, hG, ha⟩ := hr'
      show wpAny _ A (load s.heap.objs.size >>= _) _ _ _
      exact wpAny_bind (wpAny_load hS' (wpAny_pure (hQ h' tk acc as hk (Heap.lt_size hS') hl hG ha)))
  · exact absurd h.1 (by simp)
theorem el_new {Q₁ : Value → Shared → Prop} (D : Draws prog w A.in1.in1.in1 it fp n P St) (hne : e ≠ it) (hef : e ∉ fp) (hif : it ∈ fp) (hfp : ∀ b ∈ fp, b < s.heap.objs.size) (hn : n ≤ sizeLine) (he : IsEnum s.heap e it 0 .none) (s1 : St 0 s.heap)
    (h : ∀ (h' : Heap) (tk : Nat) (acc : Array Value) (as : List Addr), (∀ b o, b ≠ e → b ≠ it → s.heap.get? b = some o → h'.get? b = some o) → s.heap.objs.size < h'.objs.size → as.length = n → ZG cntP P s.heap.objs.size h' as → acc.toList = as.map Value.ref →
      Q₁ (.ref h'.objs.size) { s with heap := h'.push { cls := .type "tuple", data := .seq acc }, toks := tk }) :
    codeAny (model prog w) A (.call (.builtin "tuple.__new__") ⟨[.type "tuple", .ref e], []⟩) (wants Q₁ E) s := by
  refine codeAny_of_tree ?_
  show wpAny _ A.in1 (do checkBuiltinCall "tuple.__new__" ⟨[.type "tuple", .ref e], []⟩; again (.builtin "tuple.__new__" ⟨[.type "tuple", .ref e], []⟩)) _ _ s
  refine wpAny_bind (wpAny_of_eq (PySem.F.newCall_tuple_1 _) (wpAny_pure ⟨plainId_quiet PySem.F.plain_tuple_new _, codeAny_builtin PySem.F.entry_tuple_new ?_⟩))
  rw [Around.under_plainId PySem.F.plain_tuple_new _]
  have hsub := sub_tuple_self
  have hinit := init_tuple_lookup
  have hmh := madeHere_tuple
  have hTI : s.TypeIs (.ref e) "enumerate" := ⟨_, he, rfl⟩
  wp_walk using wpAny_typeOf hTI, el_collect (A := A.in1) D hne hef hif hfp hn he s1
  intro h' tk acc as hk hb hl hG ha
  have hsz : acc.size ≤ sizeLine := by rw [← Array.length_toList, ha, List.length_map, hl]; exact hn
  show wpAny _ _ (Builtin.Tuple.tupleExact acc.toList.toArray >>= fun v => ret v) _ _ _
  unfold Builtin.Tuple.tupleExact
  refine wpAny_bind (wpAny_newObj_type ?_ (by show acc.toList.toArray.size ≤ sizeLine; simpa using hsz))
  refine wpAny_pure ?_
  have e' : acc.toList.toArray = acc := by simp
  rw [e']
  exact h h' tk acc as hk hb hl hG ha
theorem el_call {Q : Value → Shared → Prop} (D : Draws prog w A.in1.in1.in1.in1 it fp n P St) (hne : e ≠ it) (hef : e ∉ fp) (hif : it ∈ fp) (hfp : ∀ b ∈ fp, b < s.heap.objs.size) (hn : n ≤ sizeLine) (he : IsEnum s.heap e it 0 .none) (s1 : St 0 s.heap)
    (hQ : ∀ (h' : Heap) (tk : Nat) (acc : Array Value) (as : List Addr), (∀ b o, b ≠ e → b ≠ it → s.heap.get? b = some o → h'.get? b = some o) → s.heap.objs.size < h'.objs.size → as.length = n → ZG cntP P s.heap.objs.size h' as → acc.toList = as.map Value.ref →
      Q (.ref h'.objs.size) { s with heap := h'.push { cls := .type "tuple", data := .seq acc }, toks := tk }) :
    wpAny (model prog w) A (call (.type "tuple") [.ref e]) Q E s := by
  refine callType_codes (Q₁ := fun obj s₁ => s₁.TypeIs obj "tuple" ∧ Q obj s₁) PySem.F.called_tuple (PySem.F.typeCall_tuple_1 _) PySem.F.entry_object_init
    (el_new (A := A.in1) D hne hef hif hfp hn he s1 fun h' tk acc as hk hb hl hG ha => ⟨⟨_, Heap.get?_push_size _ rfl, rfl⟩, hQ h' tk acc as hk hb hl hG ha⟩) fun obj s₁ h₁ => ?_
  exact ⟨h₁.1, PySem.F.args_object_init_2 obj _, object_init_meets PySem.F.called_tuple.init.lookup PySem.F.called_tuple.made (by decide) prog w A.in1 _ s₁ ⟨h₁.1, rfl, h₁.2⟩⟩
end
end Y

set_option Elab.async false
set_option linter.all false
set_option maxRecDepth 100000
set_option maxHeartbeats 4000000
namespace Y
open PySem PySem.Spec PyProof.Rows L2
def idxV (n : Nat) : List V := (List.range n).map fun i : Nat => V.int (i : Nat)
def tTupEnum (K : PySem.W.Frag) (ta : TA) : TE := fun σ H Q => ta σ H fun vs H1 => ∃ k xs, vs = [Kd.val k] ∧ k.has K H1 xs ∧ xs.length ≤ sizeLine ∧
  ∀ (H' : Hp) (p : Addr) (o : Obj) (as : List Addr), (∀ b u, H1 b = some u → H' b = some u) → H1 p = none → o.dict = none → H' p = some (.frz o (.tup (as.map V.ref))) → as.length = ((idxV xs.length).zip xs).length → (∀ (j : Nat) (a : Addr), as[j]? = some a → ∃ q, ((idxV xs.length).zip xs)[j]? = some q ∧ H' a = some (.tup [q.1, q.2])) → Q (.ref p) H'
section
variable {X : Cx} {pins : List (Addr × Obj)} {σ : L2.St} {H : Hp} {s : Shared}
theorem pairs_laid {h' : Heap} {tk : Nat} {ps : List (V × V)} {acc : Array Value} {as : List Addr} {p : Addr} (I : Inv X pins σ H s) (hp : s.heap.objs.size ≤ p) (hz : ps.length ≤ sizeLine) (hk : ∀ b o, s.heap.get? b = some o → h'.get? b = some o)
    (hS : h'.get? p = some { cls := .type "tuple", data := .seq acc }) (hl : as.length = ps.length) (nd : as.Nodup) (lowA : ∀ a ∈ as, s.heap.objs.size ≤ a) (nS : p ∉ as)
    (hG : ∀ (j : Nat) (a : Addr), as[j]? = some a → ∃ u v x y, IsTupOf2 h' a u v ∧ ps[j]? = some (x, y) ∧ RelV x u ∧ RelV y v) (hacc : acc.toList = as.map Value.ref) :
    ∃ H' : Hp, (∀ b o, H b = some o → H' b = some o) ∧ H p = none ∧ H' p = some (.frz { cls := .type "tuple", data := .seq acc } (.tup (as.map V.ref))) ∧ (∀ (j : Nat) (a : Addr), as[j]? = some a → ∃ q, ps[j]? = some q ∧ H' a = some (.tup [q.1, q.2])) ∧ Inv X pins σ H' { s with heap := h', toks := tk } := by
  have new : ∀ t ∈ as, H t = none := fun t ht => I.hok.fresh (lowA t ht)
  have newS : H p = none := I.hok.fresh hp
  generalize hob : ({ cls := .type "tuple", data := .seq acc } : Obj) = ob at *
  have off : ∀ b, b ∉ as → b ≠ p → putP (upd H p (.frz ob (.tup (as.map V.ref)))) as ps b = H b := fun b h1 h2 => (putP_off h1).trans (upd_ne h2)
  have low : ∀ b o, s.heap.get? b = some o → b ∉ as ∧ b ≠ p := fun b o e => ⟨fun z => absurd (Heap.lt_size e) (Nat.not_lt.mpr (lowA b z)), Nat.ne_of_lt (Nat.lt_of_lt_of_le (Heap.lt_size e) hp)⟩
  have kp : ∀ b u, H b = some u → putP (upd H p (.frz ob (.tup (as.map V.ref)))) as ps b = some u := fun b u e => by
    rw [off b (fun z => by rw [new b z] at e; cases e) (fun z => by rw [z, newS] at e; cases e)]
    exact e
  have eS : putP (upd H p (.frz ob (.tup (as.map V.ref)))) as ps p = some (.frz ob (.tup (as.map V.ref))) := (putP_off nS).trans upd_same
  refine ⟨putP (upd H p (.frz ob (.tup (as.map V.ref)))) as ps, kp, newS, eS, fun j a e => putP_at hl nd e, ?_⟩
  refine I.call' (ch := []) rfl ⟨fun b o q _ _ _ => hk b o q, fun b o q _ _ _ => ⟨o.slots, hk b o q⟩, fun b o q n _ => ?_, fun b o q _ => ⟨o, hk b o q⟩, fun b xs q => kp b _ q, fun b o u q => kp b _ q, fun b ps q => ⟨#[], by rw [kp b _ q]; simp⟩⟩ (fun b u q => ?_) I.bare fun b z => by simp at z
  · obtain ⟨z1, z2⟩ := low b o q
    rw [off b z1 z2]
    exact n
  · by_cases hb : b ∈ as
    · obtain ⟨j, e1⟩ := List.mem_iff_getElem?.mp hb
      obtain ⟨q2, e2, e3⟩ := putP_at (H := upd H p (.frz ob (.tup (as.map V.ref)))) hl nd e1
      rw [e3] at q
      cases q
      obtain ⟨u1, u2, x, y, f1, f2, r1, r2⟩ := hG j b e1
      rw [f2] at e2
      cases e2
      exact ⟨by show 2 ≤ sizeLine; decide, [u1, u2], .cons r1 (.cons r2 .nil), ⟨_, f1, rfl, _, rfl⟩⟩
    · by_cases hb2 : b = p
      · rw [hb2] at q ⊢
        rw [eS] at q
        cases q
        refine ⟨hS, by rw [List.length_map, hl]; exact hz, acc.toList, by rw [hacc]; exact LiI.vals_refs as, ⟨ob, hS, by rw [← hob], 0, by rw [← hob]⟩⟩
      · rw [off b hb hb2] at q
        exact (I.hok b u q).stay (fun d v _ y => hk d v y) (fun d y => kp d _ y) fun d xs y => kp d _ y
theorem pe_tupEnum {e : Expr} {ta : TA} {p p2 q pos : Pos} (hc : X.calm = true) (hg : Gl X "tuple") (hm : X.mg "tuple" = none) (hg2 : Gl X "enumerate") (hm2 : X.mg "enumerate" = none) (ha : PA X [e] ta)
    (hs : starEach [.Call (.Name "enumerate" p2) [e] [] q] X.env = (false, eval (.Call (.Name "enumerate" p2) [e] [] q) X.env) :: starEach [] X.env := by rfl)
    (hs2 : starEach [e] X.env = [(false, eval e X.env)] := by rfl) :
    PE X (.Call (.Name "tuple" p) [.Call (.Name "enumerate" p2) [e] [] q] [] pos) (tTupEnum X.K ta) := by
  refine ⟨fun pins s σ H Q I h => ?_⟩
  refine wpAny_Call_Name_kw (ld_blt I hg hm bo_tuple ?_)
  refine PyProof.Rows.callWith_type1 ?_ hs rfl
  rw [hs]
  show wpAny _ _ (spliced ((false, eval (.Call (.Name "enumerate" p2) [e] [] q) X.env) :: backTo pos (starEach [] X.env))) _ _ s
  refine Calls.spliced_cons ?_
  refine Call_ (ld_blt I hg2 hm2 boot_enumerate (PyProof.Rows.callWith_type1 (thn (ha.run q pins s σ H _ I h) fun us s1 ⟨vs, H1, I1, r1, q1⟩ => ?_) hs2 rfl))
  obtain ⟨k, xs, ex, h1, hz, qq⟩ := q1
  subst ex
  obtain ⟨u, rfl, r2⟩ := vals1 r1
  have hh : X.A.in1.in1.in1.in1.handled = none := by simp [I1.ok.hd hc]
  have fin : ∀ (tk : Tok) (h' : Heap), k.lo s1.heap.objs.size → IsEnum h' (s1.heap.objs.size + 1) s1.heap.objs.size 0 .none → k.at s1.heap.objs.size tk 0 h' → (∀ c o, s1.heap.get? c = some o → h'.get? c = some o) →
      wpAny (model X.prog X.w) X.A (call (.type "tuple") [Value.ref (s1.heap.objs.size + 1)]) (EP X pins σ Q) X.xe { s1 with heap := h' } := fun tk h' lo he hit hk => by
    have I2 : Inv X pins σ H1 { s1 with heap := h' } := I1.kept (t' := s1.toks) hk
    obtain ⟨fp1, P1, S1, d1, s1'⟩ := Kd.draw (A := X.A.in1.in1.in1.in1) hh I2 h1 (fun a e => ad (by have := Kd.lo_ne lo a e; omega)) hit
    have hel : s1.heap.objs.size + 1 < h'.objs.size := Heap.lt_size he
    have f1 : ∀ b ∈ fp1, b < h'.objs.size := fun b hb => by
      rcases d1.lo b hb with rfl | ⟨a, rfl, e⟩
      · exact Nat.lt_of_succ_lt hel
      · exact Nat.lt_trans (Kd.lo_ne lo _ e) (Nat.lt_of_succ_lt hel)
    have hef : s1.heap.objs.size + 1 ∉ fp1 := fun z => by
      rcases d1.lo _ z with e | ⟨a, e, e2⟩
      · have e : s1.heap.objs.size + 1 = s1.heap.objs.size := e
        omega
      · have := Kd.lo_ne lo a e2
        have e : s1.heap.objs.size + 1 = a := e
        omega
    refine el_call (s := { s1 with heap := h' }) d1.dr (ad (by omega)) hef d1.mem f1 hz he s1' fun h3 tk3 acc as hk3 hb3 hl3 hG3 hacc => ?_
    have kk : ∀ b o, s1.heap.get? b = some o → (h3.push { cls := .type "tuple", data := .seq acc }).get? b = some o := fun b o e => by
      have lb := Heap.lt_size e
      exact Heap.get?_push_of_some _ (hk3 b o (Nat.ne_of_lt (Nat.lt_succ_of_lt lb)) (Nat.ne_of_lt lb) (hk b o e))
    have hb3 : h'.objs.size < h3.objs.size := hb3
    have lz : ((idxV xs.length).zip xs).length = xs.length := by rw [List.length_zip]; simp [idxV]
    obtain ⟨H', g1, g2, g3, g4, J⟩ := pairs_laid (tk := tk3) (ps := (idxV xs.length).zip xs) (p := h3.objs.size) (acc := acc) (as := as) I1 (Nat.le_of_lt (Nat.lt_trans (Nat.lt_of_succ_lt hel) hb3)) (by rw [lz]; exact hz) kk (Heap.get?_push_size _ rfl) (by rw [lz]; exact hl3) (hG3.rise.imp fun h => Nat.ne_of_lt h)
      (fun a ha => Nat.le_of_lt (Nat.lt_trans (Nat.lt_of_succ_lt hel) (hG3.above a ha))) (fun z => Nat.lt_irrefl _ (hG3.there z)) (fun j a e => by
        obtain ⟨u, v, ⟨t, rfl⟩, y2, y3⟩ := hG3.pairs j a e
        obtain ⟨x, ex, rx⟩ := d1.item _ _ y2
        have hj : j < xs.length := (List.getElem?_eq_some_iff.mp ex).1
        refine ⟨_, v, V.int (j : Nat), x, Heap.get?_push_of_some _ y3, List.getElem?_zip_eq_some.mpr ⟨?_, ex⟩, ⟨t, rfl⟩, rx⟩
        unfold idxV
        rw [List.getElem?_map, List.getElem?_range hj]
        rfl) hacc
    exact ⟨.ref _, H', J, rfl, qq H' _ _ as g1 g2 rfl g3 (by rw [lz]; exact hl3) g4⟩
  cases k with
  | l a =>
    obtain ⟨its, rv, p, _⟩ := I1.list h1
    cases r2
    exact call_enumerate_list p.isList fun h' he hit hsz hk => Calls.spliced_nil (fin 0 h' p.lt he hit hk)
  | t a =>
    obtain ⟨its, rv, p, _⟩ := I1.tuple h1
    cases r2
    have p : s1.heap.IsTuple a its.toArray := p
    obtain ⟨o, e, _⟩ := id p
    exact call_enumT p fun h' he hit hk => Calls.spliced_nil (fin 0 h' (Heap.lt_size e) he hit hk)
  | s z =>
    obtain ⟨tk, rfl⟩ := r2
    exact call_enumerate_str fun h' he hit hsz hk => Calls.spliced_nil (fin tk h' trivial he hit hk)
end
def cTupEnum (m : AM) : EM := fun ρ => do
  let (hs, ρ1) ← m ρ
  match hs with
  | [h] => do
    let x ← (h.d ρ1).nox
    let ds ← (itD x).nox
    if szOk (numD ds).length = true then pure (.fr (.ftu (numD ds)), ρ1) else .stk
  | _ => .stk
theorem reps_idx {K : PySem.W.Frag} {H : Hp} {P : Pr} (n : Nat) : Reps K H ((List.range n).map fun i => D.int (i : Nat)) P (idxV n) := by
  have := reps_ints (K := K) (H := H) (P := P) ((List.range n).map fun i : Nat => (i : Int))
  rw [List.map_map, List.map_map] at this
  exact this
section
variable {X : Cx} {P0 : Pr} {O W : List Nat} {E : EK} {a b : Expr} {ms : AM} {pos : Pos}
theorem ce_tupEnum {p p2 q : Pos} (hc : X.calm = true) (hm : X.mg "tuple" = none) (hm2 : X.mg "enumerate" = none) (ha : CA X P0 O W E [a] ms) (hg : Gl X "tuple" := by rfl) (hg2 : Gl X "enumerate" := by rfl)
    (hs : starEach [.Call (.Name "enumerate" p2) [a] [] q] X.env = (false, eval (.Call (.Name "enumerate" p2) [a] [] q) X.env) :: starEach [] X.env := by rfl)
    (hs2 : starEach [a] X.env = [(false, eval a X.env)] := by rfl) :
    CEx X P0 O W E (.Call (.Name "tuple" p) [.Call (.Name "enumerate" p2) [a] [] q] [] pos) (cTupEnum ms) := PE.imp (pe_tupEnum hc hg hm hg2 hm2 ha hs hs2) fun σ H Q ⟨ρ, S, h⟩ => by
  refine ⟨ρ, S, h.of_bind.mono fun ⟨hs, ρ1⟩ q vs H1 S1 k1 r1 => ?_⟩
  match hs, r1, q with
  | [h], r1, q =>
    obtain ⟨v, ws, rfl, t1, t2⟩ := r1
    have t2 : ws = [] := t2
    subst t2
    obtain ⟨x, ex, q1⟩ := Res.of_nox (show Res E W σ H ((h.d ρ1).nox >>= _) _ from q)
    obtain ⟨ds, e1, q3⟩ := q1.of_nox
    clear q q1
    by_cases c : szOk (numD ds).length = true
    · rw [if_pos c] at q3
      obtain ⟨c1, vs1, rfl, f1, g1, _⟩ := (t1.d S1 ex).kd e1
      refine ⟨c1, vs1, rfl, f1, by rw [g1.length]; rw [numD_len] at c; exact of_decide_eq_true c, fun H' p o as kp np hd hp hl hG => ?_⟩
      have sm : Same H1 H' := kp
      have m1 := g1.mono ds S1.dom (fun b o e _ => kp b o e) (P' := FA P0 O σ) (fun b z => .inl z)
      refine out_of (K := X.K) S1 k1 q3 _ _ sm ?_ fun z => by cases z
      have lz : ds.length = vs1.length := g1.length.symm
      refine (Rep.ftu_of hp hd ?_)
      unfold numD
      rw [lz]
      exact reps_pairs (reps_idx _) m1 hl hG
    · rw [if_neg c] at q3
      exact q3.elim
  | [], _, q => exact q.elim
  | _ :: _ :: _, _, q => exact q.elim
end
variable {ρ : Y.Env}
@[simp] theorem e_tupEnum {m : AM} : cTupEnum m ρ = (m ρ >>= fun p => match p.1 with | [h] => ((h.d p.2).nox >>= fun x => (itD x).nox >>= fun ds => if szOk (numD ds).length = true then R.ok (.fr (.ftu (numD ds)), p.2) else .stk) | _ => .stk) := by
  unfold cTupEnum; congr
end Y

set_option Elab.async false
set_option linter.all false
set_option maxRecDepth 100000
namespace Y
open PySem PySem.Spec PyProof.Rows L2
section
variable {X : Cx} {P0 : Pr} {O W : List Nat} {E : EK} {k v : Int} {c1 c2} {p1 p2 pos : Pos}
end
end Y

set_option Elab.async false
set_option linter.all false
set_option maxRecDepth 100000
namespace Y
open PySem PySem.Spec PyProof.Rows L2
section
variable {X : Cx} {P0 : Pr} {O W : List Nat} {E : EK} {a e : Expr} {ma mk : EM} {pos : Pos}
def rSlF : V → Option Int → Option Int → Hp → VK → Prop := fun x lo hi H Q => ∃ (a : Addr) (o : Obj) (xs : List V), x = .ref a ∧ H a = some (.frz o (.tup xs)) ∧
  (HT.sIx xs.length 0 lo = 0 ∧ HT.sIx xs.length xs.length hi = xs.length → Q (.ref a) H) ∧
  (¬ (HT.sIx xs.length 0 lo = 0 ∧ HT.sIx xs.length xs.length hi = xs.length) → ∀ (p : Addr) (ob : Obj), H p = none → ob.dict = none → Q (.ref p) (upd H p (.frz ob (.tup (cutV xs lo hi)))))
theorem sl_F : SlR X rSlF := by
  intro pins s σ H x v vl vu lo hi sl Q I rx hs pl pu h
  obtain ⟨a, o, xs, rfl, hx, q1, q2⟩ := h
  have hq : SqT X.K H a xs := SqT.fz hx
  cases rx
  obtain ⟨its, r, ht, hz⟩ := I.tuple hq
  have hlen : its.toArray.size = xs.length := by rw [List.size_toArray]; exact r.length.symm
  refine ⟨"tuple", _, PyProof.Rows.slot_tuple_getitem.lookup, ht.typeIs, ?_⟩
  by_cases hw : HT.sIx xs.length 0 lo = 0 ∧ HT.sIx xs.length xs.length hi = xs.length
  · exact getItem_tuple_whole ht hs pl pu (by rw [hlen]; exact hw) ⟨.ref a, H, I, rfl, q1 hw⟩
  · refine HT.getItem_tuple_cut ht hs pl pu (by rw [hlen]; exact hw) ?_ (by rw [hlen]; exact hz)
    rw [hlen]
    have rc := (r.drop (HT.sIx xs.length 0 lo)).take (HT.sIx xs.length xs.length hi - HT.sIx xs.length 0 lo)
    refine ⟨.ref s.heap.objs.size, _, I.laid (t' := s.toks) (o := .frz { cls := .type "tuple", data := .seq ((its.toArray.toList.drop (HT.sIx xs.length 0 lo)).take (HT.sIx xs.length xs.length hi - HT.sIx xs.length 0 lo)).toArray } (.tup (cutV xs lo hi))) (fun b ob q => Heap.get?_push_of_some _ q) (Nat.le_refl _) ?_, rfl, q2 hw _ _ (I.hok.fresh (Nat.le_refl _)) rfl⟩
    exact ⟨Heap.get?_push_size _ rfl, Nat.le_trans (cutV_length xs lo hi) hz, _, rc, IsTup.new _ _⟩
def cSliceF (a : EM) (lo hi : OM) : EM := fun ρ => do
  let (h, ρ1) ← a ρ
  let (l, ρ2) ← lo ρ1
  let (u, ρ3) ← hi ρ2
  let d ← (h.d ρ3).nox
  match d with
  | .ftu ds => pure (.fr (.ftu (cutD ds l u)), ρ3)
  | _ => .stk
theorem ce_sliceF {lo hi : Option Expr} {ml mh : OM} {p2 : Pos} (ha : CEx X P0 O W E a ma) (hl : CO X P0 O W E lo ml) (hh : CO X P0 O W E hi mh) : CEx X P0 O W E (.Subscript a (.Slice lo hi none p2) pos) (cSliceF ma ml mh) := PE.imp (pe_slice sl_F ha hl hh) fun σ H Q ⟨ρ, S, h⟩ => by
  refine ⟨ρ, S, h.of_bind.mono fun ⟨h1, ρ1⟩ q x H1 S1 k1 r1 => ⟨ρ1, S1, (q.keep k1).of_bind.mono fun ⟨l, ρ2⟩ q2 H2 S2 k2 => ⟨ρ2, S2, (q2.keep k2).of_bind.mono fun ⟨u, ρ3⟩ q3 H3 S3 k3 => ?_⟩⟩⟩
  obtain ⟨dx, e1, q4⟩ := q3.of_nox
  have rx := (r1.keep S1 (k2.trans k3)).d S3 e1
  cases dx <;> first | exact q4.elim | skip
  rename_i ds
  have out := out_of (K := X.K) S3 ((k1.trans k2).trans k3) q4
  obtain ⟨p, vs, o, rfl, t1, hd, t2⟩ := rx.ftu
  have t3 := t2.cut l u
  refine ⟨p, o, vs, rfl, t1, fun z => ?_, fun _ p ob hp hob => out.newF S3.dom hob t3 hp⟩
  have e4 : cutV vs l u = vs := by
    unfold cutV
    rw [z.1, z.2, List.drop_zero, Nat.sub_zero, List.take_length]
  rw [e4] at t3
  exact out.flat (Rep.ftu_of t1 hd t3) rfl
end
variable {ρ : Y.Env}
@[simp] theorem e_sliceF {a : EM} {lo hi : OM} : cSliceF a lo hi ρ = (a ρ >>= fun p => lo p.2 >>= fun q => hi q.2 >>= fun r => (p.1.d r.2).nox >>= fun d => match d with | .ftu ds => R.ok (.fr (.ftu (cutD ds q.1 r.1)), r.2) | _ => .stk) := by
  unfold cSliceF; congr
end Y

set_option Elab.async false
set_option linter.all false
set_option maxRecDepth 100000
namespace Y
open PySem PySem.Spec PyProof.Rows L2
section
variable {K : PySem.W.Frag} {P0 : Pr} {O W : List Nat} {ρ : Env} {σ : St} {H : Hp}
end
section
variable {X : Cx} {P0 : Pr} {O W U : List Nat} {E : EK} {st2 st3 : Stmt} {sts : List Stmt} {es : List Expr} {m0 : AM} {m2 m3 mr : SM}
end
end Y

set_option Elab.async false
set_option linter.all false
set_option maxRecDepth 100000
namespace Y
open PySem PySem.Spec PyProof.Rows L2
def sRetO (i : Nat) (ms : AM) : SM := fun ρ => ms ρ >>= fun p => match p.1 with
  | [h, .ow j] => if j = i then h.v.nox >>= fun d => (lstAt i p.2).nox >>= fun ds => R.ok (Fl.rt (.fr (.tup [d, .lst ds])), p.2.set i none) else .stk
  | _ => .stk
section
variable {X : Cx} {P0 : Pr} {O W U : List Nat} {E : EK} {e e2 : Expr} {ms : AM} {pos p2 : Pos} {k i : Nat}
theorem cs_retO (h : CA X P0 O W E [e, e2] ms) (hi : i ∈ O := by decide) (hu : i ∉ U := by decide) : CS X P0 O W U E (.Return (some (.Tuple [e, e2] k p2)) pos) (sRetO i ms) := PS.imp (ps_ret (pe_tup h)) fun D σ H ⟨ρ, S, h⟩ => by
  refine ⟨ρ, S, ((show Res E O σ H (ms ρ >>= _) _ from h).of_bind.down S.sub).mono fun ⟨hs, ρ1⟩ q vs H1 S1 k1 r1 => ?_⟩
  match hs, r1, q with
  | [h1, .ow j], r1, q =>
    obtain ⟨v, ws, rfl, t1, t2⟩ := r1
    obtain ⟨w, us, rfl, t3, t4⟩ := t2
    have t4 : us = [] := t4
    subst t4
    obtain ⟨_, t5⟩ := t3
    by_cases c : j = i
    · subst c
      simp only [if_true] at q
      obtain ⟨d, e1, q⟩ := Res.of_nox q
      obtain ⟨ds, e3, q⟩ := q.of_nox
      obtain ⟨l, vs2, ha, hH, hr⟩ := S1.lst hi (lstAt_ok e3)
      rw [ha] at t5
      cases t5
      have rd : Rep X.K H1 d (FA P0 O σ) v := by
        cases h1 with
        | fr d' => cases e1; exact t1.1
        | vl d' => cases e1; exact t1
        | ow j' => cases e1
      refine ⟨by show 2 ≤ sizeLine; decide, fun p hp => ?_⟩
      have ge : ∀ {a : Nat} {b : Addr}, (σ.set j none)[a]? = some (some (V.ref b)) → a ≠ j ∧ σ[a]? = some (some (.ref b)) := fun {a b} z => by
        by_cases c : j = a
        · subst c
          rw [List.getElem?_set] at z
          split at z
          · split at z <;> cases z
          · exact absurd rfl ‹_›
        · rw [List.getElem?_set_ne c] at z
          exact ⟨fun z => c z.symm, z⟩
      have oa : ∀ {b : Addr}, OA O (σ.set j none) b → OA O σ b := fun {b} ⟨a, ha, z⟩ => ⟨a, ha, (ge z).2⟩
      have fa : ∀ b, FA P0 O (σ.set j none) b → FA P0 O σ b := fun b z => z.imp id oa
      have npb : ∀ {b : Addr} {o : HO}, H1 b = some o → b ≠ p := fun z y => by rw [y, hp] at z; cases z
      have kp : ∀ b o, H1 b = some o → upd H1 p (.tup [v, .ref l]) b = some o := fun b o z => by rw [upd_ne (npb z)]; exact z
      have nl : ¬ FA P0 O (σ.set j none) l := fun z => by
        rcases z with z | ⟨a, ha2, z⟩
        · exact S1.sep0 l ⟨j, hi, ha⟩ z
        · obtain ⟨z1, z2⟩ := ge z
          exact z1 (S1.sep a j l ha2 hi z2 ha)
      have dom' : ∀ b, FA P0 O (σ.set j none) b → isMut (upd H1 p (.tup [v, .ref l]) b) := fun b z => by
        have m := S1.dom b (fa b z)
        cases e : H1 b with
        | none => rw [e] at m; exact m.elim
        | some o => rw [kp b o e, ← e]; exact m
      have SS : Sim X.K P0 O W (ρ1.set j none) (σ.set j none) (upd H1 p (.tup [v, .ref l])) := by
        refine ⟨S1.sub, by simpa using S1.len, dom', fun a d z n => ?_, fun a d z n => ?_, fun a b x ha hb z1 z2 => S1.sep a b x ha hb (ge z1).2 (ge z2).2, fun a z => S1.sep0 a (oa z)⟩
        · have ne : j ≠ a := fun y => n (by rw [← y]; exact hi)
          rw [List.getElem?_set_ne ne] at z ⊢
          obtain ⟨w, w1, w2⟩ := S1.val a d z n
          exact ⟨w, w1, w2.mono d S1.dom (fun b o y _ => kp b o y) fun b z => .inl (fa b z)⟩
        · by_cases c : j = a
          · subst c
            rw [List.getElem?_set] at z
            split at z
            · split at z <;> cases z
            · exact absurd rfl ‹_›
          · rw [List.getElem?_set_ne c] at z ⊢
            obtain ⟨w, w1, w2⟩ := S1.own a d z n
            exact ⟨w, w1, w2.mono S1.dom (fun b o y _ => kp b o y) (fun b z => .inl (fa b z)) fun x o _ y => kp x o y⟩
      have tr : Tr O U σ H (σ.set j none) (upd H1 p (.tup [v, .ref l])) := by
        have t0 : Tr O U σ H σ H1 := Tr.of S.sub k1
        refine ⟨fun b o z n => kp b o (t0.keep b o z n), fun b z => ?_, fun b z => .inl (oa z), fun a ha => List.getElem?_set_ne fun y => hu (by rw [y]; exact ha)⟩
        have := t0.some b z
        cases e : H1 b with
        | none => exact absurd e this
        | some o => rw [kp b o e]; intro y; cases y
      refine q (σ.set j none) _ SS tr (by simp) (.ref p) ⟨?_, fun m => by cases m⟩
      unfold Rep
      refine ⟨p, [v, .ref l], rfl, upd_same, Reps.cons (rd.mono d S1.dom (fun b o y _ => kp b o y) fun b z => .inl (fa b z)) (Reps.cons ?_ Reps.nil)⟩
      unfold Rep
      exact ⟨l, vs2, rfl, nl, kp _ _ hH, hr.mono ds S1.dom (fun b o y _ => kp b o y) fun b z => .inl (z.elim (fa b) fun z => by rw [z]; exact .inr ⟨j, hi, ha⟩)⟩
    · have q2 := q
      simp only [if_neg c] at q2
      exact q2.elim
  | [], _, q => exact q.elim
  | [_], _, q => exact q.elim
  | [_, .fr _], _, q => exact q.elim
  | [_, .vl _], _, q => exact q.elim
  | _ :: .ow _ :: _ :: _, _, q => exact q.elim
  | _ :: .fr _ :: _ :: _, _, q => exact q.elim
  | _ :: .vl _ :: _ :: _, _, q => exact q.elim
end
@[simp] theorem e_retO {i : Nat} {ms : AM} {ρ : Y.Env} : sRetO i ms ρ = (ms ρ >>= fun p => match p.1 with
  | [h, .ow j] => if j = i then h.v.nox >>= fun d => (lstAt i p.2).nox >>= fun ds => R.ok (Fl.rt (.fr (.tup [d, .lst ds])), p.2.set i none) else .stk
  | _ => .stk) := id rfl
end Y

set_option Elab.async false
set_option linter.all false
set_option maxRecDepth 100000
namespace Y
open PySem PySem.Spec PyProof.Rows L2
section
variable {X : Cx} {P0 : Pr} {O W U : List Nat} {E : EK} {i : Nat} {x : Str}
end
end Y

set_option Elab.async false
set_option linter.all false
set_option maxRecDepth 100000
namespace C
open PySem PySem.Spec PyProof.Rows L2 Y
/-- slots: 0:thing -/
noncomputable def m_is_whole : SM := sRet (cAnd (cIsi isInt (cVar 0)) (cNot (cIsi isBl (cVar 0))))
noncomputable def g_is_whole : List D → R Hd := fnP 1 1 m_is_whole
/-- slots: 0:thing 1:many -/
noncomputable def m_is_upto : SM := sRet (cAnd (cCallF g_is_whole (cCons (cVar 0) (cNil))) (cChain leD ltD (cC (.int 0)) (cVar 0) (cVar 1)))
noncomputable def g_is_upto : List D → R Hd := fnP 2 2 m_is_upto
/-- slots: 0:script 1:k -/
noncomputable def m__law_cell : SM := sSeq (sIf (cBl (cOp ltD (cVar 1) (cCall lenD (cCons (cVar 0) (cNil))))) (sRet (cIx (cVar 0) (cVar 1))) (sSkip)) (sRet (cOp addD (cOp mulD (cC (.int 6151)) (cVar 1)) (cC (.int 29))))
noncomputable def g__law_cell : List D → R Hd := fnP 2 2 m__law_cell
/-- slots: 0:cell 1:k 2:number -/
noncomputable def m__law_mix : SM := sSeq (sAsg (cOp addD (cOp mulD (cOp addD (cVar 0) (cC (.int 1))) (cC (.int 40692))) (cOp mulD (cC (.int 104729)) (cVar 1))) (tmName 2)) (sSeq (sAsg (cOp addD (cOp modD (cOp mulD (cVar 2) (cVar 2)) (cC (.int 2147483399))) (cVar 1)) (tmName 2)) (sRet (cOp modD (cOp mulD (cVar 2) (cOp addD (cVar 2) (cC (.int 31)))) (cC (.int 2147483563)))))
noncomputable def g__law_mix : List D → R Hd := fnP 2 3 m__law_mix
/-- slots: 0:script 1:k 2:here 3:number 4:j -/
noncomputable def b__law_box_1 : SM := sAsg (cOp addD (cOp mulD (cVar 3) (cC (.int 2147483647))) (cCallF g__law_mix (cCons (cVar 2) (cCons (cVar 4) (cNil))))) (tmName 3)
noncomputable def m__law_box : SM := sSeq (sAsg (cCallF g__law_cell (cCons (cVar 0) (cCons (cVar 1) (cNil)))) (tmName 2)) (sSeq (sIf (cBl (cOp eqD (cOp modD (cVar 2) (cC (.int 2))) (cC (.int 0)))) (sRet (cLst (cCons (cOp fdivD (cVar 2) (cC (.int 2))) (cNil)))) (sSkip)) (sSeq (sAsg (cC (.int 0)) (tmName 3)) (sSeq (sFor [] (cRange rng1D (cCons (cC (.int 24)) (cNil))) (tmName 4) (b__law_box_1) [4]) (sRet (cLst (cCons (cVar 3) (cNil)))))))
noncomputable def g__law_box : List D → R Hd := fnP 2 5 m__law_box
/-- slots: 0:box 1:many 2:left 3:digit -/
noncomputable def m__law_take : SM := sSeq (sAsg (cCall divmodD (cCons (cIx (cOwn 0) (cC (.int 0))) (cCons (cVar 1) (cNil)))) (tmTup [2, 3])) (sSeq (sSetIx 0 (cC (.int 0)) (cVar 2)) (sRet (cVar 3)))
noncomputable def g__law_take : Fn := fnD 2 4 [0] m__law_take
/-- slots: 0:box 1:many 2:ears 3:size 4:number 5:mask 6:least 7:table 8:place 9:j -/
noncomputable def t__law_rule_1 : BM := cBl (cOp eqD (cCallIO [(0, 0)] g__law_take (cCons (cOwn 0) (cCons (cC (.int 3)) (cNil)))) (cC (.int 0)))
noncomputable def e__law_rule_1 : EM := cVar 9
noncomputable def e__law_rule_2 : EM := cOp andD (cOp shrD (cVar 4) (cVar 8)) (cC (.int 1))
noncomputable def e__law_rule_3 : EM := cOp andD (cOp shrD (cOp xorD (cVar 8) (cVar 5)) (cVar 9)) (cC (.int 1))
noncomputable def b__law_rule_1 : SM := sAppend 7 (cCall intOfD (cCons (cOp geD (cCall sumD (cCons (cComp (cRange rng1D (cCons (cCall lenD (cCons (cVar 2) (cNil))) (cNil))) (tmName 9) (cYes) (e__law_rule_3) [9]) (cNil))) (cVar 6)) (cNil)))
noncomputable def m__law_rule : SM := sSeq (sAsg (cCall tupleD (cCons (cSlice (cComp (cRange rng1D (cCons (cVar 1) (cNil))) (tmName 9) (t__law_rule_1) (e__law_rule_1) [9]) (cNoPart) (cPart (cC (.int 4)))) (cNil))) (tmName 2)) (sSeq (sAsg (cOp shlD (cC (.int 1)) (cCall lenD (cCons (cVar 2) (cNil)))) (tmName 3)) (sSeq (sIf (cBl (cOp gtD (cCallIO [(0, 0)] g__law_take (cCons (cOwn 0) (cCons (cC (.int 3)) (cNil)))) (cC (.int 0)))) (sSeq (sAsg (cCallIO [(0, 0)] g__law_take (cCons (cOwn 0) (cCons (cOp shlD (cC (.int 1)) (cVar 3)) (cNil)))) (tmName 4)) (sRet (cTup (cCons (cVar 2) (cCons (cCall tupleD (cCons (cComp (cRange rng1D (cCons (cVar 3) (cNil))) (tmName 8) (cYes) (e__law_rule_2) [8]) (cNil))) (cNil)))))) (sSkip)) (sSeq (sAsg (cCallIO [(0, 0)] g__law_take (cCons (cOwn 0) (cCons (cVar 3) (cNil)))) (tmName 5)) (sSeq (sAsg (cCallIO [(0, 0)] g__law_take (cCons (cOwn 0) (cCons (cOp addD (cCall lenD (cCons (cVar 2) (cNil))) (cC (.int 2))) (cNil)))) (tmName 6)) (sSeq (sOwn [0, 7] [0] (cLst (cNil)) 7) (sSeq (sFor [0] (cRange rng1D (cCons (cVar 3) (cNil))) (tmName 8) (b__law_rule_1) [8]) (sRet (cTup (cCons (cVar 2) (cCons (cCall tupleD (cCons (cOwn 7) (cNil))) (cNil)))))))))))
noncomputable def g__law_rule : Fn := fnD 2 10 [0] m__law_rule
/-- slots: 0:box 1:most 2:many 3:k -/
noncomputable def e__law_net_1 : EM := cCallIO [(0, 0)] g__law_rule (cCons (cOwn 0) (cCons (cVar 2) (cNil)))
noncomputable def m__law_net : SM := sSeq (sAsg (cOp addD (cC (.int 1)) (cCallIO [(0, 0)] g__law_take (cCons (cOwn 0) (cCons (cVar 1) (cNil))))) (tmName 2)) (sRet (cCall tupleD (cCons (cComp (cRange rng1D (cCons (cVar 2) (cNil))) (tmName 3) (cYes) (e__law_net_1) [3]) (cNil))))
noncomputable def g__law_net : Fn := fnD 2 4 [0] m__law_net
/-- slots: 0:many 1:found 2:number 3:j -/
noncomputable def e__law_stands_1 : EM := cOp andD (cOp shrD (cVar 2) (cOp subD (cOp subD (cVar 0) (cC (.int 1))) (cVar 3))) (cC (.int 1))
noncomputable def b__law_stands_1 : SM := sAppend 1 (cCall tupleD (cCons (cComp (cRange rng1D (cCons (cVar 0) (cNil))) (tmName 3) (cYes) (e__law_stands_1) [3]) (cNil)))
noncomputable def m__law_stands : SM := sSeq (sOwn [1] [] (cLst (cNil)) 1) (sSeq (sFor [] (cRange rng1D (cCons (cOp shlD (cC (.int 1)) (cVar 0)) (cNil))) (tmName 2) (b__law_stands_1) [2]) (sRet (cOwn 1)))
noncomputable def g__law_stands : List D → R Hd := fnP 1 4 m__law_stands
/-- slots: 0:net 1:stand 2:k 3:ears 4:table 5:place 6:ear -/
noncomputable def b__law_ought_1 : SM := sAsg (cOp addD (cOp mulD (cVar 5) (cC (.int 2))) (cIx (cVar 1) (cVar 6))) (tmName 5)
noncomputable def m__law_ought : SM := sSeq (sAsg (cIx (cVar 0) (cVar 2)) (tmTup [3, 4])) (sSeq (sAsg (cC (.int 0)) (tmName 5)) (sSeq (sFor [] (cIter (cVar 3)) (tmName 6) (b__law_ought_1) [6]) (sRet (cIx (cVar 4) (cVar 5)))))
noncomputable def g__law_ought : List D → R Hd := fnP 3 7 m__law_ought
/-- slots: 0:signs 1:found 2:sign 3:place -/
noncomputable def e_places_in_1 : EM := cOp mulD (cC (.int 2)) (cVar 3)
noncomputable def e_places_in_2 : EM := cOp addD (cOp mulD (cC (.int 2)) (cVar 3)) (cC (.int 1))
noncomputable def e_places_in_3 : EM := cOp addD (cOp mulD (cC (.int 2)) (cVar 3)) (cCall intOfD (cCons (cVar 2) (cNil)))
noncomputable def b_places_in_1 : SM := sIf (cBl (cOp eqD (cVar 2) (cC (.str "-")))) (sAsg (cOp addD (cComp (cIter (cVar 1)) (tmName 3) (cYes) (e_places_in_1) [3]) (cComp (cIter (cVar 1)) (tmName 3) (cYes) (e_places_in_2) [3])) (tmName 1)) (sAsg (cComp (cIter (cVar 1)) (tmName 3) (cYes) (e_places_in_3) [3]) (tmName 1))
noncomputable def m_places_in : SM := sSeq (sAsg (cLst (cCons (cC (.int 0)) (cNil))) (tmName 1)) (sSeq (sFor [] (cIter (cVar 0)) (tmName 2) (b_places_in_1) [2]) (sRet (cVar 1)))
noncomputable def g_places_in : List D → R Hd := fnP 1 4 m_places_in
/-- slots: 0:rule 1:signs 2:place -/
noncomputable def e_bits_for_1 : EM := cIx (cIx (cVar 0) (cC (.int 1))) (cVar 2)
noncomputable def m_bits_for : SM := sRet (cSetSort (cComp (cIter (cCallF g_places_in (cCons (cVar 1) (cNil)))) (tmName 2) (cYes) (e_bits_for_1) [2]))
noncomputable def g_bits_for : List D → R Hd := fnP 2 3 m_bits_for
/-- slots: 0:frame 1:stand 2:sign 3:bit -/
noncomputable def e__law_in_1 : EM := cOr (cOp eqD (cVar 2) (cC (.str "-"))) (cOp eqD (cCall intOfD (cCons (cVar 2) (cNil))) (cVar 3))
noncomputable def m__law_in : SM := sRet (cCall allD (cCons (cComp (cZipG (cCons (cVar 0) (cCons (cVar 1) (cNil)))) (tmTup [2, 3]) (cYes) (e__law_in_1) [2, 3]) (cNil)))
noncomputable def g__law_in : List D → R Hd := fnP 2 4 m__law_in
/-- slots: 0:frame 1:stand -/
noncomputable def t__law_inside_1 : BM := cTru (cCallF g__law_in (cCons (cVar 0) (cCons (cVar 1) (cNil))))
noncomputable def e__law_inside_1 : EM := cVar 1
noncomputable def m__law_inside : SM := sRet (cComp (cIter (cCallF g__law_stands (cCons (cCall lenD (cCons (cVar 0) (cNil))) (cNil)))) (tmName 1) (t__law_inside_1) (e__law_inside_1) [1])
noncomputable def g__law_inside : List D → R Hd := fnP 1 2 m__law_inside
/-- slots: 0:frame 1:k 2:sign -/
noncomputable def m_with_sign : SM := sRet (cOp addD (cOp addD (cSlice (cVar 0) (cNoPart) (cPart (cVar 1))) (cVar 2)) (cSlice (cVar 0) (cPart (cOp addD (cVar 1) (cC (.int 1)))) (cNoPart)))
noncomputable def g_with_sign : List D → R Hd := fnP 3 3 m_with_sign
/-- slots: 0:net 1:frame 2:k 3:stand -/
noncomputable def e__law_bits_1 : EM := cCallF g__law_ought (cCons (cVar 0) (cCons (cVar 3) (cCons (cVar 2) (cNil))))
noncomputable def m__law_bits : SM := sRet (cSetSort (cComp (cIter (cCallF g__law_inside (cCons (cVar 1) (cNil)))) (tmName 3) (cYes) (e__law_bits_1) [3]))
noncomputable def g__law_bits : List D → R Hd := fnP 3 4 m__law_bits
/-- slots: 0:frame 1:k 2:sign -/
noncomputable def m__law_sign : SM := sRet (cOp addD (cOp addD (cSlice (cVar 0) (cNoPart) (cPart (cVar 1))) (cVar 2)) (cSlice (cVar 0) (cPart (cOp addD (cVar 1) (cC (.int 1)))) (cNoPart)))
noncomputable def g__law_sign : List D → R Hd := fnP 3 3 m__law_sign
/-- slots: 0:box 1:some -/
noncomputable def m__law_odd : SM := sSeq (sAsg (cLst (cCons (cC .non) (cCons (cC (.bl true)) (cCons (cC (.bl false)) (cCons (cNeg (cC (.int 1))) (cCons (cC (.int 0)) (cCons (cC (.int 1)) (cCons (cC (.int 2)) (cCons (cC (.int 9)) (cCons (cC (.str "")) (cCons (cC (.str "0")) (cCons (cC (.str "-")) (cCons (cTup (cNil)) (cCons (cTup (cCons (cC (.int 0)) (cNil))) (cCons (cTup (cCons (cC (.int 1)) (cNil))) (cCons (cTup (cCons (cC (.bl true)) (cNil))) (cCons (cLst (cCons (cC (.int 0)) (cNil))) (cCons (cDic0) (cCons (cTup (cCons (cC .non) (cNil))) (cCons (cOp powD (cC (.int 10)) (cC (.int 39))) (cNil))))))))))))))))))))) (tmName 1)) (sSeq (sAsg (cOp addD (cVar 1) (cLst (cCons (cTup (cCons (cTup (cNil)) (cCons (cTup (cCons (cC (.int 0)) (cNil))) (cNil)))) (cCons (cTup (cCons (cTup (cCons (cC (.int 0)) (cNil))) (cCons (cTup (cCons (cC (.int 0)) (cCons (cC (.int 1)) (cNil)))) (cNil)))) (cCons (cTup (cCons (cC (.int 0)) (cCons (cC (.int 1)) (cNil)))) (cCons (cLst (cCons (cTup (cNil)) (cCons (cTup (cCons (cC (.int 1)) (cNil))) (cNil)))) (cCons (cC (.str "0-1")) (cCons (cTup (cCons (cC (.str "rest")) (cNil))) (cCons (cTup (cCons (cTup (cCons (cC (.int 0)) (cCons (cC (.int 1)) (cNil)))) (cNil))) (cCons (cTup (cCons (cC (.int 2)) (cNil))) (cNil))))))))))) (tmName 1)) (sRet (cIx (cVar 1) (cCallIO [(0, 0)] g__law_take (cCons (cOwn 0) (cCons (cCall lenD (cCons (cVar 1) (cNil))) (cNil)))))))
noncomputable def g__law_odd : Fn := fnD 1 2 [0] m__law_odd
/-- slots: 0:box 1:many 2:k -/
noncomputable def e__law_drawn_stand_1 : EM := cCallIO [(0, 0)] g__law_take (cCons (cOwn 0) (cCons (cC (.int 2)) (cNil)))
noncomputable def m__law_drawn_stand : SM := sRet (cCall tupleD (cCons (cComp (cRange rng1D (cCons (cVar 1) (cNil))) (tmName 2) (cYes) (e__law_drawn_stand_1) [2]) (cNil)))
noncomputable def g__law_drawn_stand : Fn := fnD 2 3 [0] m__law_drawn_stand
/-- slots: 0:net 1:thing 2:last 3:one -/
noncomputable def b_are_holds_1 : SM := sSeq (sIf (cOrT (cNotT (cTru (cIsi isTup (cVar 3)))) (cOrT (cBl (cOp neD (cCall lenD (cCons (cVar 3) (cNil))) (cC (.int 2)))) (cOrT (cNotT (cTru (cCallF g_is_upto (cCons (cIx (cVar 3) (cC (.int 0))) (cCons (cCall lenD (cCons (cVar 0) (cNil))) (cNil)))))) (cNotT (cTru (cCallF g_is_upto (cCons (cIx (cVar 3) (cC (.int 1))) (cCons (cC (.int 2)) (cNil))))))))) (sRet (cC (.bl false))) (sSkip)) (sSeq (sIf (cBl (cOp leD (cIx (cVar 3) (cC (.int 0))) (cVar 2))) (sRet (cC (.bl false))) (sSkip)) (sAsg (cIx (cVar 3) (cC (.int 0))) (tmName 2)))
noncomputable def m_are_holds : SM := sSeq (sIf (cNotT (cTru (cIsi isTup (cVar 1)))) (sRet (cC (.bl false))) (sSkip)) (sSeq (sAsg (cNeg (cC (.int 1))) (tmName 2)) (sSeq (sFor [] (cIter (cVar 1)) (tmName 3) (b_are_holds_1) [3]) (sRet (cC (.bl true)))))
noncomputable def g_are_holds : List D → R Hd := fnP 2 4 m_are_holds
/-- slots: 0:net 1:thing -/
noncomputable def m_look_at_holds : SM := sIf (cNotT (cTru (cCallF g_are_holds (cCons (cVar 0) (cCons (cVar 1) (cNil)))))) (sRaise "NoHolds") (sSkip)
noncomputable def g_look_at_holds : List D → R Hd := fnP 2 2 m_look_at_holds
/-- slots: 0:net 1:holds 2:rules 3:k 4:bit -/
noncomputable def b_held_net_1 : SM := sSetIx 2 (cVar 3) (cTup (cCons (cTup (cNil)) (cCons (cTup (cCons (cVar 4) (cNil))) (cNil))))
noncomputable def m_held_net : SM := sSeq (sExpr (cCallF g_look_at_holds (cCons (cVar 0) (cCons (cVar 1) (cNil))))) (sSeq (sOwn [2] [] (cCall listD (cCons (cVar 0) (cNil))) 2) (sSeq (sFor [] (cIter (cVar 1)) (tmTup [3, 4]) (b_held_net_1) [3, 4]) (sRet (cCall tupleD (cCons (cOwn 2) (cNil))))))
noncomputable def g_held_net : List D → R Hd := fnP 2 5 m_held_net
/-- slots: 0:net 1:holds 2:bits 3:found 4:k 5:rule -/
noncomputable def b__law_held_1 : SM := sSeq (sIf (cBl (cDIn false (cVar 4) (cVar 2))) (sAsg (cTup (cCons (cTup (cNil)) (cCons (cTup (cCons (cDGet (cVar 2) (cVar 4)) (cNil))) (cNil)))) (tmName 5)) (sSkip)) (sAppend 3 (cVar 5))
noncomputable def m__law_held : SM := sSeq (sAsg (cCall dictFD (cCons (cVar 1) (cNil))) (tmName 2)) (sSeq (sOwn [3] [] (cLst (cNil)) 3) (sSeq (sFor [] (cEnumG (cCons (cVar 0) (cNil))) (tmTup [4, 5]) (b__law_held_1) [4, 5]) (sRet (cCall tupleD (cCons (cOwn 3) (cNil))))))
noncomputable def g__law_held : List D → R Hd := fnP 2 6 m__law_held
/-- slots: 0:net 1:holds 2:frame 3:k 4:bit -/
noncomputable def b_frame_of_1 : SM := sAsg (cCallF g_with_sign (cCons (cVar 2) (cCons (cVar 3) (cCons (cCall strOfD (cCons (cVar 4) (cNil))) (cNil))))) (tmName 2)
noncomputable def m_frame_of : SM := sSeq (sAsg (cOp mulD (cC (.str "-")) (cCall lenD (cCons (cVar 0) (cNil)))) (tmName 2)) (sSeq (sFor [] (cIter (cVar 1)) (tmTup [3, 4]) (b_frame_of_1) [3, 4]) (sRet (cVar 2)))
noncomputable def g_frame_of : List D → R Hd := fnP 2 5 m_frame_of
/-- slots: 0:net 1:frame 2:row 3:ears 4:bits 5:sign 6:ear -/
noncomputable def e_bit_by_1 : EM := cOp inD (cVar 5) (cC (.str "01-"))
noncomputable def e_bit_by_2 : EM := cOr (cOp eqD (cVar 5) (cC (.str "-"))) (cOp eqD (cVar 5) (cIx (cVar 1) (cVar 6)))
noncomputable def m_bit_by : SM := sSeq (sIf (cOrT (cNotT (cTru (cIsi isTup (cVar 2)))) (cOrT (cBl (cOp neD (cCall lenD (cCons (cVar 2) (cNil))) (cC (.int 2)))) (cOrT (cNotT (cTru (cCallF g_is_upto (cCons (cIx (cVar 2) (cC (.int 0))) (cCons (cCall lenD (cCons (cVar 0) (cNil))) (cNil)))))) (cNotT (cTru (cIsi isStr (cIx (cVar 2) (cC (.int 1))))))))) (sRet (cC .non)) (sSkip)) (sSeq (sAsg (cIx (cIx (cVar 0) (cIx (cVar 2) (cC (.int 0)))) (cC (.int 0))) (tmName 3)) (sSeq (sIf (cOrT (cBl (cOp neD (cIx (cVar 1) (cIx (cVar 2) (cC (.int 0)))) (cC (.str "-")))) (cOrT (cBl (cOp neD (cCall lenD (cCons (cIx (cVar 2) (cC (.int 1))) (cNil))) (cCall lenD (cCons (cVar 3) (cNil))))) (cNotT (cTru (cCall allD (cCons (cComp (cIter (cIx (cVar 2) (cC (.int 1)))) (tmName 5) (cYes) (e_bit_by_1) [5]) (cNil))))))) (sRet (cC .non)) (sSkip)) (sSeq (sIf (cNotT (cTru (cCall allD (cCons (cComp (cZipG (cCons (cIx (cVar 2) (cC (.int 1))) (cCons (cVar 3) (cNil)))) (tmTup [5, 6]) (cYes) (e_bit_by_2) [5, 6]) (cNil))))) (sRet (cC .non)) (sSkip)) (sSeq (sAsg (cCallF g_bits_for (cCons (cIx (cVar 0) (cIx (cVar 2) (cC (.int 0)))) (cCons (cIx (cVar 2) (cC (.int 1))) (cNil)))) (tmName 4)) (sSeq (sIf (cBl (cOp neD (cCall lenD (cCons (cVar 4) (cNil))) (cC (.int 1)))) (sRet (cC .non)) (sSkip)) (sRet (cIx (cVar 4) (cC (.int 0)))))))))
noncomputable def g_bit_by : List D → R Hd := fnP 3 7 m_bit_by
/-- slots: 0:net 1:holds 2:paper 3:other 4:frame 5:row 6:bit 7:sign -/
noncomputable def b_shown_pour_1 : SM := sSeq (sAsg (cCallF g_bit_by (cCons (cVar 3) (cCons (cVar 4) (cCons (cVar 5) (cNil))))) (tmName 6)) (sSeq (sIf (cBl (cOp isD (cVar 6) (cC .non))) (sRet (cC .non)) (sSkip)) (sAsg (cCallF g_with_sign (cCons (cVar 4) (cCons (cIx (cVar 5) (cC (.int 0))) (cCons (cCall strOfD (cCons (cVar 6) (cNil))) (cNil))))) (tmName 4)))
noncomputable def e_shown_pour_1 : EM := cCall intOfD (cCons (cVar 7) (cNil))
noncomputable def m_shown_pour : SM := sSeq (sAsg (cCallF g_held_net (cCons (cVar 0) (cCons (cVar 1) (cNil)))) (tmName 3)) (sSeq (sIf (cNotT (cTru (cIsi isLst (cVar 2)))) (sRet (cC .non)) (sSkip)) (sSeq (sAsg (cCallF g_frame_of (cCons (cVar 0) (cCons (cVar 1) (cNil)))) (tmName 4)) (sSeq (sFor [] (cIter (cVar 2)) (tmName 5) (b_shown_pour_1) [5, 6]) (sSeq (sIf (cBl (cOp inD (cC (.str "-")) (cVar 4))) (sRet (cC .non)) (sSkip)) (sRet (cCall tupleD (cCons (cComp (cIter (cVar 4)) (tmName 7) (cYes) (e_shown_pour_1) [7]) (cNil))))))))
noncomputable def g_shown_pour : List D → R Hd := fnP 3 8 m_shown_pour
/-- slots: 0:net 1:holds 2:other 3:frame 4:k 5:bit 6:layers 7:later 8:bits -/
noncomputable def b__law_poured_1 : SM := sAsg (cCallF g__law_sign (cCons (cVar 3) (cCons (cVar 4) (cCons (cCall strOfD (cCons (cVar 5) (cNil))) (cNil))))) (tmName 3)
noncomputable def e__law_poured_1 : EM := cVar 4
noncomputable def b__law_poured_2 : SM := sSeq (sAsg (cCallF g__law_bits (cCons (cVar 2) (cCons (cVar 3) (cCons (cVar 4) (cNil))))) (tmName 8)) (sIf (cAndT (cBl (cOp eqD (cIx (cVar 3) (cVar 4)) (cC (.str "-")))) (cBl (cOp eqD (cCall lenD (cCons (cVar 8) (cNil))) (cC (.int 1))))) (sAsg (cCallF g__law_sign (cCons (cVar 7) (cCons (cVar 4) (cCons (cCall strOfD (cCons (cIx (cVar 8) (cC (.int 0))) (cNil))) (cNil))))) (tmName 7)) (sSkip))
noncomputable def t__law_poured_2 : BM := cBl (cOp neD (cIx (cVar 3) (cVar 4)) (cIx (cVar 7) (cVar 4)))
noncomputable def e__law_poured_2 : EM := cVar 4
noncomputable def b__law_poured_3 : SM := sSeq (sAsg (cVar 3) (tmName 7)) (sSeq (sFor [] (cRange rng1D (cCons (cCall lenD (cCons (cVar 0) (cNil))) (cNil))) (tmName 4) (b__law_poured_2) [8]) (sSeq (sIf (cBl (cOp eqD (cVar 7) (cVar 3))) (sRetO 6 (cCons (cVar 3) (cCons (cOwn 6) (cNil)))) (sSkip)) (sSeq (sAppend 6 (cComp (cRange rng1D (cCons (cCall lenD (cCons (cVar 0) (cNil))) (cNil))) (tmName 4) (t__law_poured_2) (e__law_poured_2) [4])) (sAsg (cVar 7) (tmName 3)))))
noncomputable def m__law_poured : SM := sSeq (sAsg (cCallF g__law_held (cCons (cVar 0) (cCons (cVar 1) (cNil)))) (tmName 2)) (sSeq (sAsg (cOp mulD (cC (.str "-")) (cCall lenD (cCons (cVar 0) (cNil)))) (tmName 3)) (sSeq (sFor [] (cIter (cVar 1)) (tmTup [4, 5]) (b__law_poured_1) [5]) (sSeq (sOwn [6] [] (cLst (cCons (cComp (cIter (cVar 1)) (tmTup [4, 5]) (cYes) (e__law_poured_1) [4, 5]) (cNil))) 6) (sWhile (cTru (cC (.bl true))) (b__law_poured_3) [7, 8]))))
noncomputable def g__law_poured : List D → R Hd := fnP 2 9 m__law_poured
/-- slots: 0:found 1:many -/
noncomputable def m__law_upto : SM := sRet (cAnd (cIsi isInt (cVar 0)) (cAnd (cNot (cIsi isBl (cVar 0))) (cChain leD ltD (cC (.int 0)) (cVar 0) (cVar 1))))
noncomputable def g__law_upto : List D → R Hd := fnP 2 2 m__law_upto
/-- slots: 0:signs 1:found 2:sign 3:bits 4:longer 5:place 6:bit -/
noncomputable def e__law_places_2_1 : EM := cOp addD (cOp mulD (cC (.int 2)) (cVar 5)) (cVar 6)
noncomputable def b__law_places_2_1 : SM := sExt 4 (cComp (cIter (cVar 3)) (tmName 6) (cYes) (e__law_places_2_1) [6])
noncomputable def b__law_places_2_2 : SM := sSeq (sAsg (cIx (cLst (cCons (cLst (cCons (cC (.int 0)) (cNil))) (cCons (cLst (cCons (cC (.int 1)) (cNil))) (cCons (cLst (cCons (cC (.int 0)) (cCons (cC (.int 1)) (cNil)))) (cNil))))) (cIndex (cC (.str "01-")) (cVar 2))) (tmName 3)) (sBuild 4 1 (sFor [] (cIter (cVar 1)) (tmName 5) (b__law_places_2_1) [5]))
noncomputable def m__law_places_2 : SM := sSeq (sAsg (cLst (cCons (cC (.int 0)) (cNil))) (tmName 1)) (sSeq (sFor [] (cIter (cVar 0)) (tmName 2) (b__law_places_2_2) [2, 3, 4, 5]) (sRet (cVar 1)))
noncomputable def g__law_places_2 : List D → R Hd := fnP 1 7 m__law_places_2
/-- slots: 0:net 1:frame 2:row 3:ears 4:table 5:sign 6:ear 7:bits 8:place -/
noncomputable def t__law_row_bit_1 : BM := cBl (cOp ninD (cVar 5) (cC (.str "01-")))
noncomputable def e__law_row_bit_1 : EM := cVar 5
noncomputable def b__law_row_bit_1 : SM := sIf (cAndT (cBl (cOp neD (cVar 5) (cC (.str "-")))) (cBl (cOp neD (cVar 5) (cIx (cVar 1) (cVar 6))))) (sRet (cC .non)) (sSkip)
noncomputable def e__law_row_bit_2 : EM := cIx (cVar 4) (cVar 8)
noncomputable def m__law_row_bit : SM := sSeq (sIf (cOrT (cNotT (cTru (cIsi isTup (cVar 2)))) (cOrT (cBl (cOp neD (cCall lenD (cCons (cVar 2) (cNil))) (cC (.int 2)))) (cOrT (cNotT (cTru (cCallF g__law_upto (cCons (cIx (cVar 2) (cC (.int 0))) (cCons (cCall lenD (cCons (cVar 0) (cNil))) (cNil)))))) (cNotT (cTru (cIsi isStr (cIx (cVar 2) (cC (.int 1))))))))) (sRet (cC .non)) (sSkip)) (sSeq (sAsg (cIx (cVar 0) (cIx (cVar 2) (cC (.int 0)))) (tmTup [3, 4])) (sSeq (sIf (cOrT (cBl (cOp neD (cIx (cVar 1) (cIx (cVar 2) (cC (.int 0)))) (cC (.str "-")))) (cOrT (cBl (cOp neD (cCall lenD (cCons (cIx (cVar 2) (cC (.int 1))) (cNil))) (cCall lenD (cCons (cVar 3) (cNil))))) (cBl (cOp neD (cComp (cIter (cIx (cVar 2) (cC (.int 1)))) (tmName 5) (t__law_row_bit_1) (e__law_row_bit_1) [5]) (cLst (cNil)))))) (sRet (cC .non)) (sSkip)) (sSeq (sFor [] (cZipG (cCons (cIx (cVar 2) (cC (.int 1))) (cCons (cVar 3) (cNil)))) (tmTup [5, 6]) (b__law_row_bit_1) [5, 6]) (sSeq (sAsg (cComp (cIter (cCallF g__law_places_2 (cCons (cIx (cVar 2) (cC (.int 1))) (cNil)))) (tmName 8) (cYes) (e__law_row_bit_2) [8]) (tmName 7)) (sSeq (sIf (cBl (cOp neD (cCall minSD (cCons (cVar 7) (cNil))) (cCall maxSD (cCons (cVar 7) (cNil))))) (sRet (cC .non)) (sSkip)) (sRet (cIx (cVar 7) (cC (.int 0)))))))))
noncomputable def g__law_row_bit : List D → R Hd := fnP 3 9 m__law_row_bit
/-- slots: 0:net 1:holds 2:paper 3:frame 4:k 5:bit 6:row 7:sign -/
noncomputable def b__law_pour_right_1 : SM := sAsg (cCallF g__law_sign (cCons (cVar 3) (cCons (cVar 4) (cCons (cCall strOfD (cCons (cVar 5) (cNil))) (cNil))))) (tmName 3)
noncomputable def b__law_pour_right_2 : SM := sSeq (sAsg (cCallF g__law_row_bit (cCons (cVar 0) (cCons (cVar 3) (cCons (cVar 6) (cNil))))) (tmName 5)) (sSeq (sIf (cBl (cOp isD (cVar 5) (cC .non))) (sRet (cC .non)) (sSkip)) (sAsg (cCallF g__law_sign (cCons (cVar 3) (cCons (cIx (cVar 6) (cC (.int 0))) (cCons (cCall strOfD (cCons (cVar 5) (cNil))) (cNil))))) (tmName 3)))
noncomputable def e__law_pour_right_1 : EM := cCall intOfD (cCons (cVar 7) (cNil))
noncomputable def m__law_pour_right : SM := sSeq (sIf (cNotT (cTru (cIsi isLst (cVar 2)))) (sRet (cC .non)) (sSkip)) (sSeq (sAsg (cOp mulD (cC (.str "-")) (cCall lenD (cCons (cVar 0) (cNil)))) (tmName 3)) (sSeq (sFor [] (cIter (cVar 1)) (tmTup [4, 5]) (b__law_pour_right_1) [4, 5]) (sSeq (sFor [] (cIter (cVar 2)) (tmName 6) (b__law_pour_right_2) [5, 6]) (sSeq (sIf (cBl (cOp inD (cC (.str "-")) (cVar 3))) (sRet (cC .non)) (sSkip)) (sRet (cCall tupleD (cCons (cComp (cIter (cVar 3)) (tmName 7) (cYes) (e__law_pour_right_1) [7]) (cNil))))))))
noncomputable def g__law_pour_right : List D → R Hd := fnP 3 8 m__law_pour_right
/-- slots: 0:box 1:net 2:stand 3:holds 4:k -/
noncomputable def b__law_settling_1 : SM := sIf (cAndT (cBl (cOp inD (cC (.str "-")) (cIx (cCallF g__law_poured (cCons (cVar 1) (cCons (cCall tupleFD (cCons (cOwn 3) (cNil))) (cNil)))) (cC (.int 0))))) (cBl (cOp gtD (cCallIO [(0, 0)] g__law_take (cCons (cOwn 0) (cCons (cC (.int 3)) (cNil)))) (cC (.int 0))))) (sAppend 3 (cTup (cCons (cVar 4) (cCons (cIx (cVar 2) (cVar 4)) (cNil))))) (sSkip)
noncomputable def m__law_settling : SM := sSeq (sOwn [0, 3] [0] (cLst (cNil)) 3) (sSeq (sFor [0] (cRange rng1D (cCons (cCall lenD (cCons (cVar 1) (cNil))) (cNil))) (tmName 4) (b__law_settling_1) [4]) (sSeq (sIf (cBl (cOp inD (cC (.str "-")) (cIx (cCallF g__law_poured (cCons (cVar 1) (cCons (cCall tupleFD (cCons (cOwn 3) (cNil))) (cNil)))) (cC (.int 0))))) (sRet (cTupEnum (cCons (cVar 2) (cNil)))) (sSkip)) (sRet (cCall tupleFD (cCons (cOwn 3) (cNil))))))
noncomputable def g__law_settling : Fn := fnD 3 5 [0] m__law_settling
/-- slots: 0:box 1:net 2:holds 3:frame 4:k 5:bit 6:found 7:some 8:signs 9:place 10:wider 11:bits 12:ear 13:at_place -/
noncomputable def b__law_paper_3_1 : SM := sAsg (cCallF g__law_sign (cCons (cVar 3) (cCons (cVar 4) (cCons (cCall strOfD (cCons (cVar 5) (cNil))) (cNil))))) (tmName 3)
noncomputable def b__law_paper_3_2 : SM := sIf (cAndT (cBl (cOp eqD (cIx (cVar 3) (cVar 4)) (cC (.str "-")))) (cBl (cOp eqD (cCall lenD (cCons (cCallF g__law_bits (cCons (cVar 1) (cCons (cVar 3) (cCons (cVar 4) (cNil))))) (cNil))) (cC (.int 1))))) (sAppend 7 (cVar 4)) (sSkip)
noncomputable def e__law_paper_3_1 : EM := cIx (cVar 3) (cVar 12)
noncomputable def e__law_paper_3_2 : EM := cIx (cIx (cIx (cVar 1) (cVar 4)) (cC (.int 1))) (cVar 13)
noncomputable def b__law_paper_3_3 : SM := sSeq (sAsg (cCallF g__law_sign (cCons (cVar 8) (cCons (cVar 9) (cCons (cC (.str "-")) (cNil))))) (tmName 10)) (sSeq (sAsg (cComp (cIter (cCallF g__law_places_2 (cCons (cVar 10) (cNil)))) (tmName 13) (cYes) (e__law_paper_3_2) [13]) (tmName 11)) (sIf (cAndT (cBl (cOp eqD (cCall minSD (cCons (cVar 11) (cNil))) (cCall maxSD (cCons (cVar 11) (cNil))))) (cBl (cOp eqD (cCallIO [(0, 0)] g__law_take (cCons (cOwn 0) (cCons (cC (.int 2)) (cNil)))) (cC (.int 1))))) (sAsg (cVar 10) (tmName 8)) (sSkip)))
noncomputable def b__law_paper_3_4 : SM := sSeq (sOwn [0, 6, 7] [0] (cLst (cNil)) 7) (sSeq (sFor [0] (cRange rng1D (cCons (cCall lenD (cCons (cVar 1) (cNil))) (cNil))) (tmName 4) (b__law_paper_3_2) [4]) (sSeq (sAsg (cIx (cOwn 7) (cCallIO [(0, 0)] g__law_take (cCons (cOwn 0) (cCons (cCall lenD (cCons (cOwn 7) (cNil))) (cNil))))) (tmName 4)) (sSeq (sAsg (cJoin (cC (.str "")) (cComp (cIter (cIx (cIx (cVar 1) (cVar 4)) (cC (.int 0)))) (tmName 12) (cYes) (e__law_paper_3_1) [12])) (tmName 8)) (sSeq (sAsg (cCall strOfD (cCons (cIx (cCallF g__law_bits (cCons (cVar 1) (cCons (cVar 3) (cCons (cVar 4) (cNil))))) (cC (.int 0))) (cNil))) (tmName 5)) (sSeq (sFor [0] (cRange rng1D (cCons (cCall lenD (cCons (cVar 8) (cNil))) (cNil))) (tmName 9) (b__law_paper_3_3) [9, 10, 11]) (sSeq (sAppend 6 (cTup (cCons (cVar 4) (cCons (cVar 8) (cNil))))) (sAsg (cCallF g__law_sign (cCons (cVar 3) (cCons (cVar 4) (cCons (cVar 5) (cNil))))) (tmName 3))))))))
noncomputable def m__law_paper_3 : SM := sSeq (sAsg (cOp mulD (cC (.str "-")) (cCall lenD (cCons (cVar 1) (cNil)))) (tmName 3)) (sSeq (sFor [0] (cIter (cVar 2)) (tmTup [4, 5]) (b__law_paper_3_1) [4, 5]) (sSeq (sOwn [0, 6, 7] [0] (cLst (cNil)) 6) (sSeq (sWhile (cBl (cOp inD (cC (.str "-")) (cVar 3))) (b__law_paper_3_4) [4, 5, 7, 8, 9, 10, 11]) (sRet (cOwn 6)))))
noncomputable def g__law_paper_3 : Fn := fnD 3 14 [0] m__law_paper_3
/-- slots: 0:box 1:net 2:paper 3:where 4:to 5:k 6:signs 7:place 8:sign 9:odd 10:rows 11:papers 12:rest 13:row -/
noncomputable def b__law_other_3_1 : SM := sAppend 11 (cOp addD (cOp addD (cSlice (cVar 2) (cNoPart) (cPart (cVar 3))) (cLst (cCons (cVar 13) (cNil)))) (cSlice (cVar 2) (cPart (cOp addD (cVar 3) (cC (.int 1)))) (cNoPart)))
noncomputable def m__law_other_3 : SM := sSeq (sIf (cBl (cOp eqD (cVar 2) (cLst (cNil)))) (sRet (cLst (cCons (cTup (cCons (cCallIO [(0, 0)] g__law_take (cCons (cOwn 0) (cCons (cCall lenD (cCons (cVar 1) (cNil))) (cNil)))) (cCons (cC (.str "")) (cNil)))) (cNil)))) (sSkip)) (sSeq (sAsg (cCallIO [(0, 0)] g__law_take (cCons (cOwn 0) (cCons (cCall lenD (cCons (cVar 2) (cNil))) (cNil)))) (tmName 3)) (sSeq (sAsg (cCallIO [(0, 0)] g__law_take (cCons (cOwn 0) (cCons (cCall lenD (cCons (cVar 2) (cNil))) (cNil)))) (tmName 4)) (sSeq (sAsg (cIx (cVar 2) (cVar 3)) (tmTup [5, 6])) (sSeq (sAsg (cCallIO [(0, 0)] g__law_take (cCons (cOwn 0) (cCons (cOp addD (cCall lenD (cCons (cVar 6) (cNil))) (cC (.int 1))) (cNil)))) (tmName 7)) (sSeq (sAsg (cIx (cC (.str "01-2")) (cCallIO [(0, 0)] g__law_take (cCons (cOwn 0) (cCons (cC (.int 4)) (cNil))))) (tmName 8)) (sSeq (sAsg (cCallIO [(0, 0)] g__law_odd (cCons (cOwn 0) (cNil))) (tmName 9)) (sSeq (sAsg (cLst (cCons (cTup (cCons (cVar 5) (cCons (cOp addD (cOp addD (cSlice (cVar 6) (cNoPart) (cPart (cVar 7))) (cVar 8)) (cSlice (cVar 6) (cPart (cOp addD (cVar 7) (cC (.int 1)))) (cNoPart))) (cNil)))) (cCons (cTup (cCons (cCallIO [(0, 0)] g__law_take (cCons (cOwn 0) (cCons (cCall lenD (cCons (cVar 1) (cNil))) (cNil)))) (cCons (cVar 6) (cNil)))) (cNil)))) (tmName 10)) (sSeq (sAsg (cOp addD (cVar 10) (cLst (cCons (cTup (cCons (cVar 5) (cCons (cOp addD (cVar 6) (cC (.str "-"))) (cNil)))) (cCons (cTup (cCons (cVar 5) (cCons (cVar 9) (cNil)))) (cNil))))) (tmName 10)) (sSeq (sAsg (cOp addD (cVar 10) (cLst (cCons (cTup (cCons (cVar 9) (cCons (cVar 6) (cNil)))) (cCons (cVar 9) (cCons (cLst (cCons (cVar 5) (cCons (cVar 6) (cNil)))) (cCons (cTup (cCons (cVar 5) (cCons (cVar 6) (cCons (cC (.int 0)) (cNil))))) (cCons (cTup (cCons (cVar 5) (cNil))) (cCons (cTup (cCons (cVar 5) (cCons (cOp mulD (cC (.str "-")) (cCall lenD (cCons (cVar 6) (cNil)))) (cNil)))) (cCons (cTup (cCons (cVar 5) (cCons (cSlice (cVar 6) (cPart (cC (.int 1))) (cNoPart)) (cNil)))) (cNil)))))))))) (tmName 10)) (sSeq (sOwn [0, 11] [0] (cLst (cCons (cOp addD (cSlice (cVar 2) (cNoPart) (cPart (cVar 3))) (cSlice (cVar 2) (cPart (cOp addD (cVar 3) (cC (.int 1)))) (cNoPart))) (cCons (cOp addD (cVar 2) (cSlice (cVar 2) (cPart (cVar 3)) (cPart (cOp addD (cVar 3) (cC (.int 1)))))) (cCons (cCall tupleD (cCons (cVar 2) (cNil))) (cCons (cVar 9) (cCons (cRev (cVar 2) (cPart (cNeg (cC (.int 1))))) (cNil))))))) 11) (sSeq (sAsg (cOp addD (cSlice (cVar 2) (cNoPart) (cPart (cVar 3))) (cSlice (cVar 2) (cPart (cOp addD (cVar 3) (cC (.int 1)))) (cNoPart))) (tmName 12)) (sSeq (sAppend 11 (cOp addD (cOp addD (cSlice (cVar 12) (cNoPart) (cPart (cVar 4))) (cSlice (cVar 2) (cPart (cVar 3)) (cPart (cOp addD (cVar 3) (cC (.int 1)))))) (cSlice (cVar 12) (cPart (cVar 4)) (cNoPart)))) (sSeq (sFor [0] (cIter (cVar 10)) (tmName 13) (b__law_other_3_1) [13]) (sRet (cIx (cOwn 11) (cCallIO [(0, 0)] g__law_take (cCons (cOwn 0) (cCons (cCall lenD (cCons (cOwn 11) (cNil))) (cNil)))))))))))))))))))
noncomputable def g__law_other_3 : Fn := fnD 3 14 [0] m__law_other_3
/-- slots: 0:script 1:k 2:box 3:net 4:stand 5:holds 6:own 7:paper 8:turn 9:one 10:due 11:fewer -/
noncomputable def b_law_k76_1 : SM := sSeq (sAsg (cIx (cLst (cCons (cVar 7) (cCons (cCallIO [(0, 2)] g__law_other_3 (cCons (cOwn 2) (cCons (cVar 3) (cCons (cVar 7) (cNil))))) (cNil)))) (cCall intOfD (cCons (cOp gtD (cVar 8) (cC (.int 0))) (cNil)))) (tmName 9)) (sSeq (sAsg (cCallF g__law_pour_right (cCons (cVar 6) (cCons (cVar 5) (cCons (cVar 9) (cNil))))) (tmName 10)) (sSeq (sIf (cBl (cOp neD (cCallF g_shown_pour (cCons (cVar 3) (cCons (cVar 5) (cCons (cVar 9) (cNil))))) (cVar 10))) (sRet (cC (.bl false))) (sSkip)) (sSeq (sAsg (cSliceF (cVar 5) (cPart (cC (.int 1))) (cNoPart)) (tmName 11)) (sIf (cBl (cOp neD (cCallF g_shown_pour (cCons (cVar 3) (cCons (cVar 11) (cCons (cVar 9) (cNil))))) (cCallF g__law_pour_right (cCons (cCallF g__law_held (cCons (cVar 3) (cCons (cVar 11) (cNil)))) (cCons (cVar 11) (cCons (cVar 9) (cNil))))))) (sRet (cC (.bl false))) (sSkip)))))
noncomputable def b_law_k76_2 : SM := sSeq (sOwn [2] [2] (cCallF g__law_box (cCons (cVar 0) (cCons (cVar 1) (cNil)))) 2) (sSeq (sAsg (cCallIO [(0, 2)] g__law_net (cCons (cOwn 2) (cCons (cC (.int 4)) (cNil)))) (tmName 3)) (sSeq (sAsg (cCallIO [(0, 2)] g__law_drawn_stand (cCons (cOwn 2) (cCons (cCall lenD (cCons (cVar 3) (cNil))) (cNil)))) (tmName 4)) (sSeq (sAsg (cCallIO [(0, 2)] g__law_settling (cCons (cOwn 2) (cCons (cVar 3) (cCons (cVar 4) (cNil))))) (tmName 5)) (sSeq (sAsg (cCallF g__law_held (cCons (cVar 3) (cCons (cVar 5) (cNil)))) (tmName 6)) (sSeq (sAsg (cCallIO [(0, 2)] g__law_paper_3 (cCons (cOwn 2) (cCons (cVar 6) (cCons (cVar 5) (cNil))))) (tmName 7)) (sSeq (sFor [] (cRange rng1D (cCons (cC (.int 5)) (cNil))) (tmName 8) (b_law_k76_1) [8, 9, 10, 11]) (sIf (cBl (cOp isD (cCallF g_shown_pour (cCons (cVar 3) (cCons (cVar 5) (cCons (cVar 7) (cNil))))) (cC .non))) (sRet (cC (.bl false))) (sSkip))))))))
noncomputable def m_law_k76 : SM := sSeq (sFor [] (cRange rng1D (cCons (cCall max2D (cCons (cC (.int 1)) (cCons (cCall min2D (cCons (cCall lenD (cCons (cVar 0) (cNil))) (cCons (cC (.int 3)) (cNil)))) (cNil)))) (cNil))) (tmName 1) (b_law_k76_2) [1, 2, 3, 4, 5, 6, 7, 8, 9, 10, 11]) (sRet (cC (.bl true)))
noncomputable def g_law_k76 : List D → R Hd := fnP 1 12 m_law_k76
end C

set_option Elab.async false
set_option linter.all false
set_option maxRecDepth 100000
namespace H
open PySem PySem.Spec PyProof.Rows L2 Y
abbrev ti (xs : List Int) : D := .tup (xs.map D.int)
abbrev dRule (r : List Int × List Int) : D := .tup [ti r.1, ti r.2]
abbrev dNet (ns : List (List Int × List Int)) : D := .tup (ns.map dRule)
@[simp] theorem is_whole_int {i : Int} : C.g_is_whole [.int i] = .ok (.fr (.bl true)) := by
  simp [C.g_is_whole, C.m_is_whole, e_fnP, noDit, Y.isInt, Y.isBl]
@[simp] theorem is_upto_int {i m : Int} : C.g_is_upto [.int i, .int m] = .ok (.fr (.bl (decide (0 ≤ i ∧ i < m)))) := by
  simp [C.g_is_upto, C.m_is_upto, e_fnP, is_whole_int]
  by_cases h : 0 ≤ i <;> simp [h]
def placeI (xs : List Int) : Int := xs.foldl (fun p b => 2 * p + b) 0
end H

set_option Elab.async false
set_option linter.all false
set_option maxRecDepth 100000
namespace H
open PySem PySem.Spec PyProof.Rows L2 Y
theorem atI_nat' {α : Type} {xs : List α} {k : Nat} (h : k < xs.length) : atI xs (k : Int) = some xs[k] := atI_of (j := k) rfl (List.getElem?_eq_getElem h)
theorem atI_map {α β : Type} {f : α → β} {xs : List α} {i : Int} : atI (xs.map f) i = (atI xs i).map f := by
  unfold atI
  rw [List.length_map]
  cases ixN xs.length i with
  | none => rfl
  | some j => simp
theorem atI_int {xs : List Int} {i : Int} (h0 : 0 ≤ i) (h : i < xs.length) : atI xs i = some (xs.getD i.toNat 0) := by
  rw [atI_lt h0 h, List.getD_eq_getElem?_getD, List.getElem?_eq_getElem (by omega)]
  rfl
theorem atI_mapI {xs : List Int} {i : Int} (h0 : 0 ≤ i) (h : i < xs.length) : atI (xs.map D.int) i = some (.int (xs.getD i.toNat 0)) := by rw [atI_map, atI_int h0 h]; rfl
theorem place_go : ∀ {xs : List Int} {p : Int}, 0 ≤ p → (∀ x ∈ xs, 0 ≤ x ∧ x < 2) → 0 ≤ xs.foldl (fun p b => 2 * p + b) p ∧ xs.foldl (fun p b => 2 * p + b) p < (p + 1) * 2 ^ xs.length
  | [], p, hp, _ => by simp; omega
  | x :: xs, p, hp, h => by
    have hx := h x (by simp)
    have ih := place_go (xs := xs) (p := 2 * p + x) (by omega) fun y hy => h y (by simp [hy])
    rw [List.foldl_cons, List.length_cons, Int.pow_succ]
    refine ⟨ih.1, Int.lt_of_lt_of_le ih.2 ?_⟩
    have e : (p + 1) * (2 ^ xs.length * 2) = (2 * p + 2) * 2 ^ xs.length := by
      rw [Int.mul_comm (2 ^ xs.length) 2, ← Int.mul_assoc]
      congr 1
      omega
    rw [e]
    exact Int.mul_le_mul_of_nonneg_right (by omega) (Int.pow_nonneg (by omega))
theorem placeI_lt {xs : List Int} (h : ∀ x ∈ xs, 0 ≤ x ∧ x < 2) : 0 ≤ placeI xs ∧ placeI xs < 2 ^ xs.length := by
  have := place_go (xs := xs) (p := 0) (by omega) h
  simpa [placeI] using this
abbrev RuleT := List Int × List Int
structure GoodNet (ns : List RuleT) : Prop where
  sz : ns.length ≤ 100
  ear : ∀ r ∈ ns, r.1.length ≤ 100 ∧ (∀ e ∈ r.1, 0 ≤ e ∧ e < ns.length) ∧ r.2.length = 2 ^ r.1.length
structure IsSt (m : Nat) (st : List Int) : Prop where
  len : st.length = m
  bit : ∀ x ∈ st, 0 ≤ x ∧ x < 2
def tellI (r : RuleT) (st : List Int) : Int := r.2.getD (placeI (r.1.map fun e => st.getD e.toNat 0)).toNat 0
def oughtI (ns : List RuleT) (st : List Int) (k : Nat) : Int := tellI (ns.getD k ([], [])) st
theorem getD_bit {st : List Int} (h : ∀ x ∈ st, 0 ≤ x ∧ x < 2) (k : Nat) : 0 ≤ st.getD k 0 ∧ st.getD k 0 < 2 := by
  rw [List.getD_eq_getElem?_getD]
  cases e : st[k]? with
  | none => simp
  | some x => exact h x (List.mem_of_getElem? e)
theorem IsSt.get {m : Nat} {st : List Int} (h : IsSt m st) (k : Nat) : 0 ≤ st.getD k 0 ∧ st.getD k 0 < 2 := getD_bit h.bit k
theorem read_lt {m : Nat} {st : List Int} (h : IsSt m st) (es : List Int) : 0 ≤ placeI (es.map fun e => st.getD e.toNat 0) ∧ placeI (es.map fun e => st.getD e.toNat 0) < 2 ^ es.length := by
  have := placeI_lt (xs := es.map fun e => st.getD e.toNat 0) fun x hx => by
    obtain ⟨e, _, rfl⟩ := List.mem_map.mp hx
    exact h.get _
  rwa [List.length_map] at this
theorem net_at {ns : List RuleT} {k : Nat} (h : k < ns.length) : atI (ns.map dRule) (k : Int) = some (dRule (ns.getD k ([], []))) := by
  rw [atI_map, atI_nat' h, List.getD_eq_getElem?_getD, List.getElem?_eq_getElem h]
  rfl
theorem GoodNet.at {ns : List RuleT} (g : GoodNet ns) {k : Nat} (h : k < ns.length) : (ns.getD k ([], [])).1.length ≤ 100 ∧ (∀ e ∈ (ns.getD k ([], [])).1, 0 ≤ e ∧ e < ns.length) ∧ (ns.getD k ([], [])).2.length = 2 ^ (ns.getD k ([], [])).1.length := by
  rw [List.getD_eq_getElem?_getD, List.getElem?_eq_getElem h]
  exact g.ear _ (List.getElem_mem h)
abbrev ln' (xs : List Nat) : D := .lst (xs.map fun k => D.int (k : Nat))
def stands : Nat → List (List Int)
  | 0 => [[]]
  | m + 1 => (stands m).map (0 :: ·) ++ (stands m).map (1 :: ·)
theorem stands_len : ∀ m, (stands m).length = 2 ^ m
  | 0 => rfl
  | m + 1 => by simp [stands, stands_len m, Nat.pow_succ]; omega
theorem stands_st : ∀ {m : Nat} {st : List Int}, st ∈ stands m → IsSt m st
  | 0, st, h => by simp [stands] at h; subst h; exact ⟨rfl, by simp⟩
  | m + 1, st, h => by
    simp only [stands, List.mem_append, List.mem_map] at h
    rcases h with ⟨s, h, rfl⟩ | ⟨s, h, rfl⟩
    · exact ⟨by simp [(stands_st h).len], by simpa using (stands_st h).bit⟩
    · exact ⟨by simp [(stands_st h).len], by simpa using (stands_st h).bit⟩
abbrev lti (xs : List (List Int)) : D := .lst (xs.map ti)
theorem fit_nil {n : Nat} : Fit (n + 1) (.lst []) := by
  unfold Fit
  intro d h
  cases h
theorem eqPs_nil {xs : List D} : eqPs xs [] = xs.isEmpty := by cases xs <;> rfl
end H

set_option Elab.async false
set_option linter.all false
set_option maxRecDepth 100000
set_option exponentiation.threshold 300
namespace H
open PySem PySem.Spec PyProof.Rows L2 Y
def cellI (ns : List Int) (k : Nat) : Int := if k < ns.length then ns.getD k 0 else 6151 * k + 29
def isOk (r : R Hd) (d : D) : Prop := r = .ok (.fr d) ∨ r = .ok (.vl d)
theorem cell_ok {ns : List Int} {k : Nat} : isOk (C.g__law_cell [.arg ns, .int k]) (.int (cellI ns k)) := by
  unfold cellI
  by_cases h : k < ns.length
  · right
    have a := atI_int (xs := ns) (i := k) (by omega) (by omega)
    simp only [Int.toNat_natCast] at a
    simp [C.g__law_cell, C.m__law_cell, e_fnP, h, a, -List.getD_eq_getElem?_getD]
  · left
    simp [C.g__law_cell, C.m__law_cell, e_fnP, h, mulOk_l]
/-- numbers that the machine bears as factors -/
def Big (n : Nat) (z : Int) : Prop := z.natAbs < 2 ^ n
theorem Big.mul {a b : Int} {n m : Nat} (h : Big n a) (h2 : Big m b) (hn : n < 67108000) (hm : m < 67108000) : mulOk a b = true := by
  have l : ∀ {z : Int} {n : Nat}, Big n z → n < 67108000 → z.natAbs.log2 < 67108856 := fun {z n} h hn => by
    by_cases e : z.natAbs = 0
    · rw [e]; simp
    · exact Nat.lt_of_lt_of_le ((Nat.log2_lt e).mpr h) (by omega)
  have e : (2 : Nat) ^ 26 - 8 = 67108856 := by decide
  unfold mulOk
  rw [e, decide_eq_true (p := a.natAbs.log2 < 67108856 ∧ b.natAbs.log2 < 67108856) ⟨l h hn, l h2 hm⟩]
  simp
theorem Big.add {a b : Int} {n : Nat} (h : Big n a) (h2 : Big n b) : Big (n + 1) (a + b) := by
  unfold Big at *
  rw [Nat.pow_succ]
  have := Int.natAbs_add_le a b
  omega
theorem Big.times {a b : Int} {n m : Nat} (h : Big n a) (h2 : Big m b) : Big (n + m) (a * b) := by
  unfold Big at *
  rw [Int.natAbs_mul, Nat.pow_add]
  exact Nat.mul_lt_mul'' h h2
theorem Big.up {a : Int} {n m : Nat} (h : Big n a) (hm : n ≤ m) : Big m a := Nat.lt_of_lt_of_le h (Nat.pow_le_pow_right (by omega) hm)
theorem big64 {a : Int} (h : a.natAbs < 18446744073709551616) : Big 64 a := h
/-- a script's numbers are not too great -/
theorem bits_big {z : Int} (h : Builtin.Int.intBits z ≤ 1048576) : Big 1048576 z := by
  unfold Builtin.Int.intBits at h
  unfold Big
  split at h
  · rename_i e
    have : z.natAbs = 0 := by simpa using e
    rw [this]
    exact Nat.pow_pos (by omega)
  · have := Nat.lt_log2_self (n := z.natAbs)
    exact Nat.lt_of_lt_of_le this (Nat.pow_le_pow_right (by omega) h)
theorem cell_big {ns : List Int} {k : Nat} (hb : ∀ z ∈ ns, Builtin.Int.intBits z ≤ 1048576) (hk : k < 1000000) : Big 1048576 (cellI ns k) := by
  unfold cellI
  split
  · rename_i h
    rw [List.getD_eq_getElem?_getD, List.getElem?_eq_getElem h]
    exact bits_big (hb _ (List.getElem_mem h))
  · exact (big64 (by omega)).up (by omega)
def mixI (c k : Int) : Int :=
  let n := (c + 1) * 40692 + 104729 * k
  let m := n * n % 2147483399 + k
  m * (m + 31) % 2147483563
theorem mix_ok {c : Int} {k : Nat} (hc : Big 1048576 c) (hk : k < 1000000) : C.g__law_mix [.int c, .int k] = .ok (.fr (.int (mixI c k))) := by
  have b1 : Big 1048700 ((c + 1) * 40692 + 104729 * k) := by
    have h1 : Big 1048577 (c + 1) := Big.add hc ((big64 (a := 1) (by omega)).up (by omega))
    have h2 : Big (1048577 + 64) ((c + 1) * 40692) := h1.times (big64 (by omega))
    have h3 : Big 64 (104729 * (k : Int)) := big64 (by omega)
    exact (h2.add (h3.up (by omega))).up (by omega)
  have b2 := Big.mul b1 b1 (by omega) (by omega)
  have p : 0 ≤ ((c + 1) * 40692 + 104729 * (k : Int)) * ((c + 1) * 40692 + 104729 * k) % 2147483399 ∧ ((c + 1) * 40692 + 104729 * (k : Int)) * ((c + 1) * 40692 + 104729 * k) % 2147483399 < 2147483399 := ⟨Int.emod_nonneg _ (by omega), Int.emod_lt_of_pos _ (by omega)⟩
  have b3 : mulOk (((c + 1) * 40692 + 104729 * (k : Int)) * ((c + 1) * 40692 + 104729 * k) % 2147483399 + k) (((c + 1) * 40692 + 104729 * (k : Int)) * ((c + 1) * 40692 + 104729 * k) % 2147483399 + k + 31) = true := mulOk_l (by omega)
  have b4 : mulOk (c + 1) 40692 = true := mulOk_r (by decide)
  have b5 : mulOk 104729 k = true := mulOk_l (by decide)
  simp [C.g__law_mix, C.m__law_mix, e_fnP, b2, b3, b4, b5, mixI]
def boxN (c : Int) (j : Nat) : Int := (List.range j).foldl (fun p j => p * 2147483647 + mixI c (j : Nat)) 0
theorem boxN_succ {c : Int} {j : Nat} : boxN c (j + 1) = boxN c j * 2147483647 + mixI c j := by
  unfold boxN
  rw [List.range_succ, List.foldl_append]
  rfl
theorem box_ok {ns : List Int} {k : Nat} (hb : ∀ z ∈ ns, Builtin.Int.intBits z ≤ 1048576) (hk : k < 1000) : ∃ b : Int, C.g__law_box [.arg ns, .int k] = .ok (.fr (.lst [.int b])) := by
  have hc := cell_big (ns := ns) (k := k) hb (by omega)
  have h : forL (tmName 4) C.b__law_box_1 [4] [] ((List.range 24).map fun j : Nat => D.int (j : Nat)) [some (.arg ns), some (.int k), some (.int (cellI ns k)), some (.int 0), none] = .ok (.nx, [some (.arg ns), some (.int k), some (.int (cellI ns k)), some (.int (boxN (cellI ns k) 24)), none]) :=
    for_rng (fun j : Nat => D.int (j : Nat)) (fun j => [some (.arg ns), some (.int k), some (.int (cellI ns k)), some (.int (boxN (cellI ns k) j)), none]) (fun j hj => by
      refine ⟨by simp, ?_⟩
      have m := mix_ok (k := j) hc (by omega)
      have b : ∀ p : Int, mulOk p 2147483647 = true := fun p => mulOk_r (by decide)
      simp only [turnF, C.b__law_box_1]
      simp [m, b, boxN_succ])
  have hr : rngOk 24 = true := by decide
  have hz : szOk 24 = true := by decide
  have r24 : rng1D [.int 24] = .ok ((List.range 24).map fun j : Nat => D.int (j : Nat)) := by rw [d_rng1, if_pos hr]; rfl
  have z24 : szOk ((List.range 24).map fun j : Nat => D.int (j : Nat)).length = true := by simp [hz]
  by_cases e : cellI ns k % 2 = 0
  · refine ⟨cellI ns k / 2, ?_⟩
    rcases cell_ok (ns := ns) (k := k) with c | c <;> simp [C.g__law_box, C.m__law_box, e_fnP, c, e, smallPos_of]
  · refine ⟨boxN (cellI ns k) 24, ?_⟩
    rcases cell_ok (ns := ns) (k := k) with c | c <;> simp only [C.g__law_box, C.m__law_box] <;> generalize C.b__law_box_1 = B at h ⊢ <;> generalize (List.range 24).map (fun j : Nat => D.int (j : Nat)) = L24 at h r24 z24 <;> simp [e_fnP, c, e, r24, z24, h, -d_rng1]
theorem take_ok {n m : Int} (h0 : 0 < m) (h1 : m < 1073741824) : C.g__law_take [.lst [.int n], .int m] = .ok (.vl (.int (n % m)), [some (.lst [.int (n / m)]), none]) := by
  have a : atI [D.int n] 0 = some (.int n) := rfl
  have b : ixN 1 0 = some 0 := rfl
  simp [C.g__law_take, C.m__law_take, e_fnD, smallPos_of h0 h1, a, b]
theorem shl1 {k : Nat} (h : k ≤ 1000000) : shlD (.int 1) (.int (k : Nat)) = .ok (.int ((2 ^ k : Nat) : Int)) := by
  rw [d_shl, if_pos (shOk_of (by omega) (by omega) (by decide))]
  simp
theorem cut_hi {ds : List D} {k : Nat} : Y.cutD ds none (some (k : Int)) = ds.take k := by
  unfold Y.cutD
  rw [HT.sIx_none, HT.sIx_nat]
  simp
/-- a rule for m switches -/
structure RuleOk (m : Nat) (r : RuleT) : Prop where
  len : r.1.length ≤ 4
  sub : ∃ es : List Nat, r.1 = es.map (fun j : Nat => (j : Int)) ∧ es.Sublist (List.range m)
  tab : r.2.length = 2 ^ r.1.length
  bit : ∀ x ∈ r.2, 0 ≤ x ∧ x < 2
theorem bit1 {x : Int} : 0 ≤ Builtin.bitAnd x 1 ∧ Builtin.bitAnd x 1 < 2 := by
  have := Bits.bit_at (x := x) 0
  simp at this
  rw [this]
  omega
theorem rule_ok {n : Int} {m : Nat} (hm : m ≤ 100) : ∃ (r : RuleT) (n' : Int), C.g__law_rule [.lst [.int n], .int m] = .ok (.fr (dRule r), [some (.lst [.int n']), none]) ∧ RuleOk m r := by
  obtain ⟨es, n1, h1, sub⟩ := comp_exF (tm := tmName 9) (t := C.t__law_rule_1) (e := C.e__law_rule_1) (vs := [9]) (ws := []) (fun j : Nat => D.int (j : Nat)) (fun j : Nat => D.int (j : Nat)) (fun b : Int => [some (.lst [.int b]), some (.int m), none, none, none, none, none, none, none, none]) (List.range m) n (fun b j hj => by
    refine ⟨decide (b % 3 = 0), b / 3, ?_, by simp⟩
    simp only [turnC, C.t__law_rule_1, C.e__law_rule_1]
    simp [take_ok]
    split <;> rfl)
  generalize hE : (es.take 4).map (fun j : Nat => (j : Int)) = E
  have hE2 : (es.take 4).map (fun j : Nat => D.int (j : Nat)) = E.map D.int := by rw [← hE, List.map_map]; rfl
  have hL : E.length ≤ 4 := by rw [← hE]; simp; omega
  have hS : 1 ≤ 2 ^ E.length ∧ 2 ^ E.length ≤ 16 := ⟨Nat.pow_pos (by omega), Nat.pow_le_pow_right (n := 2) (by omega) hL⟩
  have hT : 1 ≤ 2 ^ 2 ^ E.length ∧ 2 ^ 2 ^ E.length ≤ 65536 := ⟨Nat.pow_pos (by omega), Nat.pow_le_pow_right (n := 2) (by omega) hS.2⟩
  have s1 := shl1 (k := E.length) (by omega)
  have s2 := shl1 (k := 2 ^ E.length) (by omega)
  have c4 : Y.cutD (es.map (fun j : Nat => D.int (j : Nat))) none (some 4) = E.map D.int := by
    rw [← hE2, List.map_take]
    exact cut_hi (k := 4)
  have rok : ∀ t : List Int, t.length = 2 ^ E.length → (∀ x ∈ t, 0 ≤ x ∧ x < 2) → RuleOk m (E, t) := fun t h1 h2 => ⟨hL, ⟨es.take 4, hE.symm, (List.take_sublist 4 es).trans sub⟩, h1, h2⟩
  have rm : rngOk m = true := rngOk_of (by omega) (by omega)
  have zm : szOk m = true := szOk_of (by omega)
  generalize 2 ^ 2 ^ E.length = T at *
  generalize hSe : 2 ^ E.length = S at *
  have rS : rngOk S = true := rngOk_of (by omega) (by omega)
  have zS : szOk S = true := szOk_of (by omega)
  have tk : ∀ (b : Int) (k : Nat), 1 ≤ k → k ≤ 65536 → C.g__law_take [.lst [.int b], .int k] = .ok (.vl (.int (b % k)), [some (.lst [.int (b / k)]), none]) := fun b k h1 h2 => take_ok (by omega) (by omega)
  have tS := fun b : Int => tk b S hS.1 (by omega)
  have tT := fun b : Int => tk b T hT.1 hT.2
  by_cases way : 0 < n1 % 3
  · -- bits drawn
    let f : Nat → Int := fun p => Builtin.bitAnd (n1 / 3 % T / 2 ^ p) 1
    have h2 : ∀ (a b c d e g : Option D), cCompL (tmName 8) cYes C.e__law_rule_2 [8] [] ((List.range S).map fun j : Nat => D.int (j : Nat)) [a, b, c, d, some (.int (n1 / 3 % T)), e, g, none, none, none] = .ok (((List.range S).map f).map D.int, [a, b, c, d, some (.int (n1 / 3 % T)), e, g, none, none, none]) := fun a b c d e g => by
      rw [List.map_map]
      exact comp_map (fun j : Nat => D.int (j : Nat)) (fun p => D.int (f p)) (List.range S) fun p hp => by
        simp only [turnC, C.e__law_rule_2]
        simp [f]
    refine ⟨(E, (List.range S).map f), n1 / 3 / T, ?_, rok _ (by simp) fun x hx => ?_⟩
    · simp only [C.g__law_rule, C.m__law_rule]
      simp [e_fnD, rm, zm, h1, c4, s1, s2, tS, tT, take_ok, way, rS, zS, h2, hS, hT, -d_shl]
    · obtain ⟨p, _, rfl⟩ := List.mem_map.mp hx
      exact bit1
  · -- by how many
    have t2 : ∀ b : Int, C.g__law_take [.lst [.int b], .int ((E.length : Nat) + 2)] = .ok (.vl (.int (b % ((E.length : Nat) + 2))), [some (.lst [.int (b / ((E.length : Nat) + 2))]), none]) := fun b => take_ok (by omega) (by omega)
    have rL : rngOk E.length = true := rngOk_of (by omega) (by omega)
    have zL : szOk E.length = true := szOk_of (by omega)
    let ms : Int := n1 / 3 % S
    let le : Int := n1 / 3 / S % ((E.length : Nat) + 2)
    let n4 : Int := n1 / 3 / S / ((E.length : Nat) + 2)
    let bt : Nat → Nat → Int := fun p j => Builtin.bitAnd (Builtin.bitXor p ms / 2 ^ j) 1
    let f : Nat → Int := fun p => if le ≤ ((List.range E.length).map (bt p)).sum then 1 else 0
    have h2 : ∀ p : Nat, ∀ (a b c d e g h : Option D), cCompL (tmName 9) cYes C.e__law_rule_3 [9] [] ((List.range E.length).map fun j : Nat => D.int (j : Nat)) [a, b, c, d, e, some (.int ms), g, h, some (.int p), none] = .ok (((List.range E.length).map (bt p)).map D.int, [a, b, c, d, e, some (.int ms), g, h, some (.int p), none]) := fun p a b c d e g h => by
      rw [List.map_map]
      exact comp_map (fun j : Nat => D.int (j : Nat)) (fun j => D.int (bt p j)) (List.range E.length) fun j hj => by
        simp only [turnC, C.e__law_rule_3]
        simp [bt]
    have h3 : forL (tmName 8) C.b__law_rule_1 [8] [] ((List.range S).map fun j : Nat => D.int (j : Nat)) [some (.lst [.int n4]), some (.int m), some (ti E), some (.int S), none, some (.int ms), some (.int le), some (.lst []), none, none] = .ok (.nx, [some (.lst [.int n4]), some (.int m), some (ti E), some (.int S), none, some (.int ms), some (.int le), some (.lst (((List.range S).map f).map D.int)), none, none]) :=
      for_rng (fun j : Nat => D.int (j : Nat)) (fun j => [some (.lst [.int n4]), some (.int m), some (ti E), some (.int S), none, some (.int ms), some (.int le), some (.lst (((List.range j).map f).map D.int)), none, none]) fun j hj => by
        refine ⟨by simp, ?_⟩
        have z1 : szOk (j + 1) = true := szOk_of (by omega)
        simp only [turnF, C.b__law_rule_1]
        simp [rL, zL, h2, z1, List.range_succ, f, -List.map_map]
    refine ⟨(E, (List.range S).map f), n4, ?_, rok _ (by simp) fun x hx => ?_⟩
    · simp only [C.g__law_rule, C.m__law_rule]
      have h3 : forL (tmName 8) C.b__law_rule_1 [8] [] ((List.range S).map fun j : Nat => D.int (j : Nat)) [some (.lst [.int (n1 / 3 / S / ((E.length : Nat) + 2))]), some (.int m), some (ti E), some (.int S), none, some (.int (n1 / 3 % S)), some (.int (n1 / 3 / S % ((E.length : Nat) + 2))), some (.lst []), none, none] = _ := h3
      simp [e_fnD, rm, zm, h1, c4, s1, s2, tS, t2, take_ok, way, rS, zS, h3, hS, hT, -d_shl, shAt]
    · obtain ⟨p, _, rfl⟩ := List.mem_map.mp hx
      simp only [f]
      split <;> omega
end H

set_option Elab.async false
set_option linter.all false
set_option maxRecDepth 100000
namespace H
open PySem PySem.Spec PyProof.Rows L2 Y
structure NetOk (ns : List RuleT) (most : Nat) : Prop where
  pos : 1 ≤ ns.length
  le : ns.length ≤ most
  rule : ∀ r ∈ ns, RuleOk ns.length r
theorem NetOk.good {ns : List RuleT} {most : Nat} (h : NetOk ns most) (hm : most ≤ 100) : GoodNet ns where
  sz := Nat.le_trans h.le hm
  ear := fun r hr => by
    have k := h.rule r hr
    refine ⟨by have := k.len; omega, fun e he => ?_, k.tab⟩
    obtain ⟨es, e1, sub⟩ := k.sub
    rw [e1] at he
    obtain ⟨j, hj, rfl⟩ := List.mem_map.mp he
    have := List.mem_range.mp (sub.subset hj)
    omega
theorem net_ok {n : Int} {most : Nat} (h0 : 1 ≤ most) (h1 : most ≤ 20) : ∃ (ns : List RuleT) (n' : Int), C.g__law_net [.lst [.int n], .int most] = .ok (.fr (dNet ns), [some (.lst [.int n']), none]) ∧ NetOk ns most := by
  have p : 0 ≤ n % (most : Int) ∧ n % (most : Int) < most := ⟨Int.emod_nonneg _ (by omega), Int.emod_lt_of_pos _ (by omega)⟩
  have tk := take_ok (n := n) (m := most) (by omega) (by omega)
  obtain ⟨M, hM⟩ : ∃ M : Nat, 1 + n % (most : Int) = M := ⟨(1 + n % (most : Int)).toNat, by omega⟩
  have hM1 : 1 ≤ M ∧ M ≤ most := by omega
  obtain ⟨ns, n2, e, hl, hr⟩ := comp_ex (tm := tmName 3) (t := cYes) (e := C.e__law_net_1) (vs := [3]) (ws := []) (fun j : Nat => D.int (j : Nat)) dRule (fun b : Int => [some (.lst [.int b]), some (.int most), some (.int M), none]) (RuleOk M) (List.range M) (n / most) (fun b j hj => by
    obtain ⟨r, b2, e, hr⟩ := rule_ok (n := b) (m := M) (by omega)
    refine ⟨r, b2, ?_, hr, by simp⟩
    simp only [turnC, C.e__law_net_1]
    simp [e])
  rw [List.length_range] at hl
  have rM : rngOk M = true := rngOk_of (by omega) (by omega)
  have zM : szOk M = true := szOk_of (by omega)
  refine ⟨ns, n2, ?_, ⟨by omega, by omega, by rw [hl]; exact hr⟩⟩
  simp only [C.g__law_net, C.m__law_net]
  simp [e_fnD, tk, hM, rM, zM, e]
theorem band1 {x : Int} : Builtin.bitAnd x 1 = x % 2 := by
  have := Bits.bit_at (x := x) 0
  simpa using this
def bitsI (m p : Nat) : List Int := (List.range m).map fun j => (((p / 2 ^ (m - 1 - j) % 2 : Nat)) : Int)
theorem bitsI_lo {m p : Nat} (h : p < 2 ^ m) : bitsI (m + 1) p = 0 :: bitsI m p := by
  unfold bitsI
  rw [List.range_succ_eq_map, List.map_cons, List.map_map]
  congr 1
  · simp [Nat.div_eq_of_lt h]
  · refine List.map_congr_left fun j hj => ?_
    show (((p / 2 ^ (m + 1 - 1 - (j + 1)) % 2 : Nat)) : Int) = _
    rw [show m + 1 - 1 - (j + 1) = m - 1 - j by omega]
theorem bitsI_hi {m p : Nat} (h : p < 2 ^ m) : bitsI (m + 1) (2 ^ m + p) = 1 :: bitsI m p := by
  unfold bitsI
  rw [List.range_succ_eq_map, List.map_cons, List.map_map]
  have hp : 0 < 2 ^ m := Nat.pow_pos (by omega)
  congr 1
  · rw [show m + 1 - 1 - 0 = m by omega, Nat.add_div_left _ hp, Nat.div_eq_of_lt h]
    rfl
  · refine List.map_congr_left fun j hj => ?_
    have hj := List.mem_range.mp hj
    show ((((2 ^ m + p) / 2 ^ (m + 1 - 1 - (j + 1)) % 2 : Nat)) : Int) = _
    rw [show m + 1 - 1 - (j + 1) = m - 1 - j by omega]
    have e : 2 ^ m = 2 ^ (m - 1 - j) * (2 * 2 ^ j) := by
      rw [show 2 * 2 ^ j = 2 ^ (j + 1) by rw [Nat.pow_succ]; omega, ← Nat.pow_add]
      congr 1
      omega
    rw [e, Nat.mul_add_div (Nat.pow_pos (by omega))]
    congr 1
    omega
theorem stands_bits : ∀ m, stands m = (List.range (2 ^ m)).map (bitsI m)
  | 0 => by simp [stands, bitsI]
  | m + 1 => by
    rw [stands, stands_bits m, Nat.pow_succ, show 2 ^ m * 2 = 2 ^ m + 2 ^ m by omega, List.range_add, List.map_append, List.map_map, List.map_map, List.map_map]
    congr 1
    · exact List.map_congr_left fun p hp => (bitsI_lo (List.mem_range.mp hp)).symm
    · exact List.map_congr_left fun p hp => (bitsI_hi (List.mem_range.mp hp)).symm
theorem law_stands_ok {m : Nat} (hm : m ≤ 20) : C.g__law_stands [.int m] = .ok (.fr (lti (stands m))) := by
  have hp : 2 ^ m ≤ 1048576 := Nat.pow_le_pow_right (n := 2) (by omega) hm
  have rm : rngOk m = true := rngOk_of (by omega) (by omega)
  have zm : szOk m = true := szOk_of (by omega)
  have s1 := shl1 (k := m) (by omega)
  have h2 : ∀ (p : Nat) (b : Option D), cCompL (tmName 3) cYes C.e__law_stands_1 [3] [] ((List.range m).map fun j : Nat => D.int (j : Nat)) [some (.int m), b, some (.int p), none] = .ok ((bitsI m p).map D.int, [some (.int m), b, some (.int p), none]) := fun p b => by
    unfold bitsI
    rw [List.map_map]
    exact comp_map (fun j : Nat => D.int (j : Nat)) (fun j => D.int ((((p / 2 ^ (m - 1 - j) % 2 : Nat)) : Int))) (List.range m) fun j hj => by
      have hj := List.mem_range.mp hj
      have e : (m : Int) - 1 - j = ((m - 1 - j : Nat) : Int) := by omega
      simp only [turnC, C.e__law_stands_1]
      simp [e, band1]
  have h3 : forL (tmName 2) C.b__law_stands_1 [2] [] ((List.range (2 ^ m)).map fun j : Nat => D.int (j : Nat)) [some (.int m), some (.lst []), none, none] = .ok (.nx, [some (.int m), some (.lst (((List.range (2 ^ m)).map (bitsI m)).map ti)), none, none]) :=
    for_rng (fun j : Nat => D.int (j : Nat)) (fun j => [some (.int m), some (.lst (((List.range j).map (bitsI m)).map ti)), none, none]) fun j hj => by
      have z1 : szOk (j + 1) = true := szOk_of (by omega)
      refine ⟨by simp, ?_⟩
      simp only [turnF, C.b__law_stands_1]
      simp [rm, zm, h2, z1, List.range_succ, -List.map_map]
  rw [← stands_bits] at h3
  generalize hS : 2 ^ m = S at *
  have rS : rngOk S = true := rngOk_of (by omega) (by omega)
  have zS : szOk S = true := szOk_of (by omega)
  simp only [C.g__law_stands, C.m__law_stands]
  simp [e_fnP, s1, rS, zS, h3, -d_shl, -List.map_map]
theorem law_ought_ok {ns : List RuleT} {st : List Int} {k : Nat} (g : GoodNet ns) (hs : IsSt ns.length st) (hk : k < ns.length) : C.g__law_ought [dNet ns, ti st, .int k] = .ok (.vl (.int (oughtI ns st k))) := by
  obtain ⟨h1, h2, h3⟩ := g.at hk
  have h5 := read_lt hs (ns.getD k ([], [])).1
  have h6 := atI_mapI (xs := (ns.getD k ([], [])).2) h5.1 (by rw [h3]; exact_mod_cast h5.2)
  have zE : szOk (ns.getD k ([], [])).1.length = true := szOk_of (by omega)
  have na := net_at hk
  have ho : oughtI ns st k = (ns.getD k ([], [])).2.getD (placeI ((ns.getD k ([], [])).1.map fun e => st.getD e.toNat 0)).toNat 0 := rfl
  rw [ho]
  clear ho
  generalize ns.getD k ([], []) = r at *
  obtain ⟨E, Tb⟩ := r
  simp only at h1 h2 h3 h5 h6 zE
  show _ = R.ok (Hd.vl (D.int (Tb.getD (placeI (E.map fun e => st.getD e.toNat 0)).toNat 0)))
  have h4 := for_run (tm := tmName 6) (body := C.b__law_ought_1) (vs := [6]) (ws := []) D.int (fun p : Int => [some (dNet ns), some (ti st), some (.int k), some (ti E), some (ti Tb), some (.int p), none]) (fun p e => 2 * p + st.getD e.toNat 0) (fun _ => True) E 0 trivial (fun p e _ he => by
    have := h2 e he
    refine ⟨trivial, by simp, ?_⟩
    simp only [turnF, C.b__law_ought_1]
    simp [atI_mapI this.1 (by rw [hs.len]; exact this.2), mulOk_r, Int.mul_comm, -List.getD_eq_getElem?_getD])
  have hf : E.foldl (fun p e => 2 * p + st.getD e.toNat 0) 0 = placeI (E.map fun e => st.getD e.toNat 0) := by rw [placeI, List.foldl_map]
  rw [hf] at h4
  simp only [C.g__law_ought, C.m__law_ought]
  simp [e_fnP, na, zE, h4.1, h6, -List.getD_eq_getElem?_getD]
end H

set_option Elab.async false
set_option linter.all false
set_option maxRecDepth 100000
namespace H
open PySem PySem.Spec PyProof.Rows L2 Y
theorem cut_from {ds : List D} {k : Nat} : Y.cutD ds (some (k : Int)) none = ds.drop k := by
  unfold Y.cutD
  rw [HT.sIx_none, HT.sIx_nat]
  by_cases h : k ≤ ds.length
  · rw [Nat.min_eq_left h, List.take_of_length_le (by simp)]
  · rw [Nat.min_eq_right (by omega), List.drop_of_length_le (Nat.le_refl _), List.drop_of_length_le (by omega)]
    simp
end H

set_option Elab.async false
set_option linter.all false
set_option maxRecDepth 100000
namespace H
open PySem PySem.Spec PyProof.Rows L2 Y
abbrev tn (b : List Nat) : D := .tup (b.map fun k : Nat => D.int (k : Nat))
theorem ixN_nat {n k : Nat} (h : k < n) : ixN n (k : Int) = some k := by
  unfold ixN
  rw [if_pos (by omega), if_pos (by omega)]
  rfl
def TabBits (ns : List RuleT) : Prop := ∀ r ∈ ns, ∀ x ∈ r.2, 0 ≤ x ∧ x < 2
theorem NetOk.tab {ns : List RuleT} {most : Nat} (h : NetOk ns most) : TabBits ns := fun r hr => (h.rule r hr).bit
end H

set_option Elab.async false
set_option linter.all false
set_option maxRecDepth 100000
namespace H
open PySem PySem.Spec PyProof.Rows L2 Y
end H

set_option Elab.async false
set_option linter.all false
set_option maxRecDepth 100000
namespace H
open PySem PySem.Spec PyProof.Rows L2 Y
theorem pairsD_map {α β : Type} {f : α → D} {g : β → D} : ∀ {xs : List α} {ys : List β}, pairsD (xs.map f) (ys.map g) = (xs.zip ys).map fun p => .tup [f p.1, g p.2]
  | [], _ => by simp [pairsD]
  | _ :: _, [] => by simp [pairsD]
  | x :: xs, y :: ys => by simp [pairsD, pairsD_map (xs := xs) (ys := ys)]
structure OrdOk (m : Nat) (o : List (List Nat)) : Prop where
  ne : ∀ b ∈ o, b ≠ []
  sub : ∀ b ∈ o, b.Sublist (List.range m)
  perm : o.flatten.Perm (List.range m)
theorem OrdOk.len {m : Nat} {o : List (List Nat)} (h : OrdOk m o) : o.length ≤ m := by
  have : ∀ o : List (List Nat), (∀ b ∈ o, b ≠ []) → o.length ≤ o.flatten.length := fun o => by
    induction o with
    | nil => simp
    | cons b o ih =>
      intro h
      have h1 := h b (by simp)
      have h2 := ih fun c hc => h c (by simp [hc])
      have : 0 < b.length := List.length_pos_iff.mpr h1
      rw [List.flatten_cons, List.length_append, List.length_cons]
      omega
  have h2 := this o h.ne
  rw [h.perm.length_eq, List.length_range] at h2
  exact h2
theorem OrdOk.apart {m : Nat} {o : List (List Nat)} (h : OrdOk m o) : o.Pairwise (fun b c => ∀ k ∈ b, k ∉ c) := by
  have : o.flatten.Nodup := h.perm.nodup_iff.mpr List.nodup_range
  have := (List.pairwise_flatten.mp this).2
  exact this.imp fun h k hk z => h k hk k z rfl
end H

set_option Elab.async false
set_option linter.all false
set_option maxRecDepth 100000
namespace H
open PySem PySem.Spec PyProof.Rows L2 Y
@[simp] theorem neD_bl {a b : Bool} : neD (.bl a) (.bl b) = .ok (.bl (a != b)) := by
  rw [neD_of (n := 0) fit_bl fit_bl, eqP_bl]
  cases a <;> cases b <;> rfl
theorem OrdOk.turn {m : Nat} {o : List (List Nat)} (h : OrdOk m o) (w : Nat) : OrdOk m (o.drop w ++ o.take w) := by
  have p : (o.drop w ++ o.take w).Perm o := by
    have := List.perm_append_comm (l₁ := o.drop w) (l₂ := o.take w)
    rwa [List.take_append_drop] at this
  exact ⟨fun b hb => h.ne b (p.mem_iff.mp hb), fun b hb => h.sub b (p.mem_iff.mp hb), p.flatten.trans h.perm⟩
end H

set_option Elab.async false
set_option linter.all false
set_option maxRecDepth 100000
namespace H
open PySem PySem.Spec PyProof.Rows L2 Y
def blk (ks : List Int) (m j : Nat) : List Nat := (List.range m).filter fun k => decide (ks.getD k 0 = (j : Nat))
end H

set_option Elab.async false
set_option linter.all false
set_option maxRecDepth 100000
set_option exponentiation.threshold 300
namespace H
open PySem PySem.Spec PyProof.Rows L2 Y
abbrev tx (l : List Nat) : Str := ⟨l.toArray⟩
abbrev dt (l : List Nat) : D := .str (tx l)
theorem tx_inj {a b : List Nat} : tx a = tx b ↔ a = b := by
  constructor
  · intro h
    have := congrArg (fun s : Str => s.cps.toList) h
    simpa using this
  · rintro rfl; rfl
theorem tx_len {a : List Nat} : (tx a).length = a.length := by
  show (a.toArray).size = _
  simp
theorem tx_add {a b : List Nat} : tx a ++ tx b = tx (a ++ b) := by
  show Str.append (tx a) (tx b) = _
  unfold Str.append
  simp
theorem add_dt {a b : List Nat} (h : a.length + b.length ≤ 16777216) : addD (dt a) (dt b) = .ok (dt (a ++ b)) := by
  rw [d_addS, tx_len, tx_len, if_pos (szOk_of h), tx_add]
theorem it_dt {a : List Nat} : itD (dt a) = .ok (a.map fun c => dt [c]) := by
  show R.ok ((tx a).cps.toList.map fun c => D.str ⟨#[c]⟩) = _
  rfl
theorem cut_lo {l : List Nat} {k : Nat} : cutS (tx l) none (some (k : Int)) = tx (l.take k) := by
  unfold cutS
  rw [HT.sIx_none, HT.sIx_nat, tx_len]
  simp
theorem cut_up {l : List Nat} {k : Nat} : cutS (tx l) (some (k : Int)) none = tx (l.drop k) := by
  unfold cutS
  rw [HT.sIx_none, HT.sIx_nat, tx_len]
  show tx _ = _
  rw [tx_inj]
  by_cases h : k ≤ l.length
  · rw [Nat.min_eq_left h, List.take_of_length_le (by simp)]
  · rw [Nat.min_eq_right (by omega), List.drop_of_length_le (by simp), List.drop_of_length_le (by omega)]
    simp
theorem slice_lo {l : List Nat} {k : Nat} (h : l.length ≤ 16777216) : sliceD (dt l) none (some (k : Int)) = .ok (dt (l.take k)) := by
  show (if szOk (tx l).length = true then R.ok (D.str (cutS (tx l) none (some (k : Int)))) else .stk) = _
  rw [tx_len, if_pos (szOk_of h), cut_lo]
theorem slice_up {l : List Nat} {k : Nat} (h : l.length ≤ 16777216) : sliceD (dt l) (some (k : Int)) none = .ok (dt (l.drop k)) := by
  show (if szOk (tx l).length = true then R.ok (D.str (cutS (tx l) (some (k : Int)) none)) else .stk) = _
  rw [tx_len, if_pos (szOk_of h), cut_up]
theorem ix_dt {l : List Nat} {k : Nat} (hk : k < l.length) (h : l.length ≤ 16777216) : ixD (dt l) (.int k) = .ok (dt [l.getD k 0]) := by
  have e : atI l (k : Int) = some (l.getD k 0) := by rw [atI_nat' hk, List.getD_eq_getElem?_getD, List.getElem?_eq_getElem hk]; rfl
  show (match atI (tx l).cps.toList (k : Int) with | some c => if szOk (tx l).length = true then R.ok (D.str ⟨#[c]⟩) else .stk | none => .stk) = _
  show (match atI l (k : Int) with | some c => if szOk (tx l).length = true then R.ok (D.str ⟨#[c]⟩) else .stk | none => .stk) = _
  rw [e, tx_len]
  simp [szOk_of h]
/-- signs that the machine bears -/
def SgOk (l : List Nat) : Prop := ∀ c ∈ l, c < 1114112
theorem fit_dt {n : Nat} {l : List Nat} (h : SgOk l) : Fit n (dt l) := by
  have : PyData.strOk (tx l) = true := by
    unfold PyData.strOk
    rw [← Array.all_toList, List.all_eq_true]
    intro c hc
    simpa using h c (by simpa using hc)
  cases n <;> exact this
theorem eqP_dt {a b : List Nat} : eqP (dt a) (dt b) = decide (a = b) := by
  rw [eqP_str, Bool.eq_iff_iff, beq_iff_eq, decide_eq_true_eq, tx_inj]
theorem eq_dt {a b : List Nat} (ha : SgOk a) (hb : SgOk b) : eqD (dt a) (dt b) = .ok (.bl (decide (a = b))) := by
  rw [eqD_of (n := 0) (fit_dt ha) (fit_dt hb), eqP_dt]
theorem ne_dt {a b : List Nat} (ha : SgOk a) (hb : SgOk b) : neD (dt a) (dt b) = .ok (.bl (!decide (a = b))) := by
  rw [neD_of (n := 0) (fit_dt ha) (fit_dt hb), eqP_dt]
theorem s_dash : Str.ofString "-" = tx [45] := by decide +kernel
theorem s_none : Str.ofString "" = tx [] := by decide +kernel
theorem str_bit {b : Int} (h : 0 ≤ b ∧ b < 2) : strOfD [.int b] = .ok (dt [48 + b.toNat]) := by
  have : b = 0 ∨ b = 1 := by omega
  rcases this with rfl | rfl
  · show (if (0 : Int).natAbs.log2 < 1920 then R.ok (D.str (toString (0 : Int))) else .stk) = _
    rw [if_pos (by decide)]
    exact congrArg (fun s => R.ok (D.str s)) (by decide +kernel : Str.ofString (toString (0 : Int)) = tx [48])
  · show (if (1 : Int).natAbs.log2 < 1920 then R.ok (D.str (toString (1 : Int))) else .stk) = _
    rw [if_pos (by decide)]
    exact congrArg (fun s => R.ok (D.str s)) (by decide +kernel : Str.ofString (toString (1 : Int)) = tx [49])
end H

set_option Elab.async false
set_option linter.all false
set_option maxRecDepth 100000
set_option exponentiation.threshold 300
namespace H
open PySem PySem.Spec PyProof.Rows L2 Y
theorem mem_stands : ∀ {m : Nat} {st : List Int}, st ∈ stands m ↔ IsSt m st
  | 0, st => by
    constructor
    · exact stands_st
    · intro h
      have := h.len
      cases st with
      | nil => simp [stands]
      | cons => simp at this
  | m + 1, st => by
    constructor
    · exact stands_st
    · intro h
      cases st with
      | nil => have := h.len; simp at this
      | cons x st =>
        have hx := h.bit x (by simp)
        have hs : IsSt m st := ⟨by have := h.len; simpa using this, fun y hy => h.bit y (by simp [hy])⟩
        have : st ∈ stands m := mem_stands.mpr hs
        have e : x = 0 ∨ x = 1 := by omega
        rcases e with rfl | rfl <;> simp [stands, this]
end H

set_option Elab.async false
set_option linter.all false
set_option maxRecDepth 100000
set_option exponentiation.threshold 300
namespace H
open PySem PySem.Spec PyProof.Rows L2 Y
end H

set_option Elab.async false
set_option linter.all false
set_option maxRecDepth 100000
namespace H
open PySem PySem.Spec PyProof.Rows L2 Y
/-- for x in xs: if not p x: return rv -/
theorem for_all {α : Type} {tm : GM} {body : SM} {vs ws : List Nat} (F : α → D) (p : α → Bool) (rv : Hd) : ∀ (xs : List α) (ρ : Y.Env), (∀ x ∈ xs, p x = true → turnF tm body vs (F x) ρ = .ok (.nx, ρ)) → (∀ x ∈ xs, p x = false → ∃ ρ', turnF tm body vs (F x) ρ = .ok (.rt rv, ρ')) →
    ∃ ρ', forL tm body vs ws (xs.map F) ρ = if xs.all p = true then .ok (.nx, ρ) else .ok (.rt rv, ρ')
  | [], ρ, _, _ => ⟨ρ, rfl⟩
  | x :: xs, ρ, h1, h2 => by
    cases e : p x with
    | true =>
      obtain ⟨ρ', h⟩ := for_all F p rv xs ρ (fun y hy => h1 y (by simp [hy])) (fun y hy => h2 y (by simp [hy]))
      refine ⟨ρ', ?_⟩
      rw [List.map_cons, for_cons (h1 x (by simp) e) (fun _ _ => rfl) h, List.all_cons, e]
      rfl
    | false =>
      obtain ⟨ρ', h⟩ := h2 x (by simp) e
      refine ⟨ρ', ?_⟩
      rw [List.map_cons, for_rt h, List.all_cons, e]
      rfl
theorem place0 : ∀ {xs : List Int} {p : Int}, xs.foldl (fun p b => 2 * p + b) p = p * 2 ^ xs.length + placeI xs
  | [], p => by simp [placeI]
  | x :: xs, p => by
    have h1 := place0 (xs := xs) (p := 2 * p + x)
    have h2 := place0 (xs := xs) (p := 2 * 0 + x)
    unfold placeI
    rw [List.foldl_cons, List.foldl_cons, h1, h2, List.length_cons, Int.pow_succ]
    have : (2 * p + x) * 2 ^ xs.length = p * (2 ^ xs.length * 2) + x * 2 ^ xs.length := by
      rw [Int.add_mul, Int.mul_comm 2 p, Int.mul_assoc, Int.mul_comm 2]
    rw [this]
    simp only [Int.mul_zero, Int.zero_add]
    omega
theorem place_cons {x : Int} {xs : List Int} : placeI (x :: xs) = x * 2 ^ xs.length + placeI xs := by
  have := place0 (xs := xs) (p := 2 * 0 + x)
  unfold placeI at this ⊢
  rw [List.foldl_cons, this]
  simp
structure RuleLk (r : RuleT) : Prop where
  len : r.1.length ≤ 8
  tab : r.2.length = 2 ^ r.1.length
  bit : ∀ x ∈ r.2, 0 ≤ x ∧ x < 2
theorem RuleOk.lk {m : Nat} {r : RuleT} (h : RuleOk m r) : RuleLk r := ⟨Nat.le_trans h.len (by omega), h.tab, h.bit⟩
def hasB (cs : List Nat) (st : List Int) : Bool := (cs.zip st).all fun p => decide (p.1 = 45) || decide (p.1 = 48 + p.2.toNat)
structure CaseOk (n : Nat) (cs : List Nat) : Prop where
  len : cs.length = n
  sg : ∀ c ∈ cs, c = 45 ∨ c = 48 ∨ c = 49
theorem CaseOk.sgok {n : Nat} {cs : List Nat} (h : CaseOk n cs) : SgOk cs := fun c hc => by rcases h.sg c hc with e | e | e <;> omega
theorem sg1 {c : Nat} (h : c < 1114112) : SgOk [c] := fun x hx => by simp at hx; omega
def wide (cs : List Nat) (k : Nat) : List Nat := cs.take k ++ 45 :: cs.drop (k + 1)
theorem CaseOk.wide {n : Nat} {cs : List Nat} (h : CaseOk n cs) {k : Nat} (hk : k < n) : CaseOk n (wide cs k) := by
  refine ⟨by have := h.len; simp [H.wide]; omega, fun c hc => ?_⟩
  rcases List.mem_append.mp hc with hc | hc
  · exact h.sg c (List.mem_of_mem_take hc)
  · rcases List.mem_cons.mp hc with rfl | hc
    · exact .inl rfl
    · exact h.sg c (List.mem_of_mem_drop hc)
theorem numD_map {α : Type} {f : α → D} {xs : List α} : numD (xs.map f) = ((List.range xs.length).zip xs).map fun p => D.tup [.int (p.1 : Nat), f p.2] := by
  unfold numD
  rw [List.length_map, pairsD_map]
end H

set_option Elab.async false
set_option linter.all false
set_option maxRecDepth 100000
namespace H
open PySem PySem.Spec PyProof.Rows L2 Y
end H

set_option Elab.async false
set_option linter.all false
set_option maxRecDepth 100000
namespace H
open PySem PySem.Spec PyProof.Rows L2 Y
def Nd : Nat → D → Prop
  | 0, d => noDit d = true
  | n + 1, d => noDit d = true ∧ ∀ xs, d = .tup xs → xs.length ≤ 1000000 ∧ ∀ x ∈ xs, Nd n x
theorem Nd.no : ∀ {n : Nat} {d : D}, Nd n d → noDit d = true
  | 0, _, h => h
  | _ + 1, _, h => h.1
theorem Nd.down : ∀ {n : Nat} {d : D}, Nd (n + 1) d → Nd n d
  | 0, _, h => h.1
  | n + 1, _, h => ⟨h.1, fun xs e => ⟨(h.2 xs e).1, fun x hx => Nd.down ((h.2 xs e).2 x hx)⟩⟩
theorem nd_flat {n : Nat} {d : D} (h : noDit d = true) (h2 : ∀ xs, d ≠ .tup xs) : Nd n d := by
  cases n with
  | zero => exact h
  | succ n => exact ⟨h, fun xs e => absurd e (h2 xs)⟩
@[simp] theorem nd_int {n : Nat} {i : Int} : Nd n (.int i) := nd_flat rfl (by simp)
@[simp] theorem nd_bl {n : Nat} {b : Bool} : Nd n (.bl b) := nd_flat rfl (by simp)
@[simp] theorem nd_non {n : Nat} : Nd n .non := nd_flat rfl (by simp)
@[simp] theorem nd_str {n : Nat} {x : Str} : Nd n (.str x) := nd_flat rfl (by simp)
@[simp] theorem nd_lst {n : Nat} {x : List D} : Nd n (.lst x) := nd_flat rfl (by simp)
@[simp] theorem nd_dik {n : Nat} {k : List Key} {x : List D} : Nd n (.dik k x) := nd_flat rfl (by simp)
theorem nd_tup {n : Nat} {xs : List D} (hl : xs.length ≤ 1000000) (h : ∀ x ∈ xs, Nd n x) : Nd (n + 1) (.tup xs) := ⟨rfl, fun ys e => by cases e; exact ⟨hl, h⟩⟩
theorem Nd.tup {n : Nat} {xs : List D} (h : Nd (n + 1) (.tup xs)) : xs.length ≤ 1000000 ∧ ∀ x ∈ xs, Nd n x := h.2 xs rfl
theorem atI_any {L : List D} {i : Int} {p : D → Prop} (h0 : 0 ≤ i) (h : i < L.length) (hp : ∀ x ∈ L, p x) : ∃ d, atI L i = some d ∧ p d := by
  have e : atI L i = some L[i.toNat] := atI_of (j := i.toNat) (by omega) (List.getElem?_eq_getElem (by omega))
  exact ⟨_, e, hp _ (List.getElem_mem _)⟩
def whB : D → Bool
  | .int _ => true | _ => false
def upB (m : Int) : D → Bool
  | .int i => decide (0 ≤ i ∧ i < m) | _ => false
theorem whole_any {d : D} (h : noDit d = true) : C.g_is_whole [d] = .ok (.fr (.bl (whB d))) := by
  cases d <;> simp [noDit] at h <;> simp [C.g_is_whole, C.m_is_whole, e_fnP, noDit, Y.isInt, Y.isBl, whB]
theorem upto_any {d : D} {m : Int} (h : noDit d = true) : C.g_is_upto [d, .int m] = .ok (.fr (.bl (upB m d))) := by
  have := whole_any h
  cases d with
  | int i => exact is_upto_int
  | _ => simp [C.g_is_upto, C.m_is_upto, e_fnP, this, whB, upB]
@[simp] theorem d_pow39 : powD (.int 10) (.int 39) = .ok (.int 1000000000000000000000000000000000000000) := by
  show (if shOk 10 39 = true then R.ok (D.int (10 ^ (39 : Int).toNat)) else .stk) = _
  rw [if_pos (by decide)]
  rfl
theorem cutD_len {xs : List D} {a b : Option Int} : (Y.cutD xs a b).length ≤ xs.length := by
  unfold Y.cutD
  rw [List.length_take, List.length_drop]
  omega
theorem cutD_mem {xs : List D} {a b : Option Int} {x : D} (h : x ∈ Y.cutD xs a b) : x ∈ xs := by
  unfold Y.cutD at h
  exact List.mem_of_mem_drop (List.mem_of_mem_take h)
theorem strs_of {α : Type} {f : α → Str} : ∀ {xs : List α}, strsOf (xs.map fun x => D.str (f x)) = some (xs.map f)
  | [] => rfl
  | x :: xs => by simp [strsOf, strs_of (xs := xs)]
theorem sum_le {α : Type} {f : α → Nat} {m : Nat} : ∀ {xs : List α}, (∀ x ∈ xs, f x ≤ m) → (xs.map f).sum ≤ xs.length * m
  | [], _ => by simp
  | x :: xs, h => by
    have h1 := h x (by simp)
    have h2 := sum_le (xs := xs) fun y hy => h y (by simp [hy])
    simp only [List.map_cons, List.sum_cons, List.length_cons, Nat.succ_mul]
    omega
theorem joinD_lst {a : Str} {ds : List D} : joinD (.str a) (.lst ds) = (match strsOf ds with | some ys => if (ys.map (·.length)).sum + ys.length * a.length ≤ 16777216 then R.ok (.str (Txt.join a ys)) else .stk | none => .stk) := by
  cases e : strsOf ds <;> simp [joinD, e]
end H

set_option Elab.async false
set_option linter.all false
set_option maxRecDepth 100000
namespace H
open PySem PySem.Spec PyProof.Rows L2 Y
theorem upB_nat {m : Nat} {d : D} (h : upB m d = true) : ∃ k : Nat, d = .int k ∧ k < m := by
  cases d with
  | int i =>
    simp only [upB, decide_eq_true_eq] at h
    exact ⟨i.toNat, by congr 1; omega, by omega⟩
  | _ => simp [upB] at h
end H

set_option Elab.async false
set_option linter.all false
set_option maxRecDepth 100000
namespace H
open PySem PySem.Spec PyProof.Rows L2 Y
theorem hasB_cons {c : Nat} {cs : List Nat} {b : Int} {bs : List Int} : hasB (c :: cs) (b :: bs) = ((decide (c = 45) || decide (c = 48 + b.toNat)) && hasB cs bs) := by simp [hasB]
theorem hasB_map {α : Type} {f : α → Nat} {h : α → Int} {xs : List α} : hasB (xs.map f) (xs.map h) = xs.all fun j => decide (f j = 45) || decide (f j = 48 + (h j).toNat) := by
  unfold hasB
  rw [List.zip_map', List.all_map]
  rfl
theorem range_getD {α : Type} {xs : List α} {d : α} {m : Nat} (h : xs.length = m) : (List.range m).map (fun j => xs.getD j d) = xs := by
  subst h
  refine List.ext_getElem (by simp) fun i h1 h2 => ?_
  simp [List.getD_eq_getElem?_getD, List.getElem?_eq_getElem h2]
def stepP (L : List Int) (c : Nat) : List Int := if c = 45 then L.map (fun p => 2 * p) ++ L.map (fun p => 2 * p + 1) else L.map fun p => 2 * p + ((c : Int) - 48)
def placesI (cs : List Nat) : List Int := cs.foldl stepP [0]
theorem mem_step {L : List Int} {c : Nat} {q : Int} (hc : c = 45 ∨ c = 48 ∨ c = 49) : q ∈ stepP L c ↔ ∃ p ∈ L, ∃ b : Int, 0 ≤ b ∧ b < 2 ∧ (c = 45 ∨ c = 48 + b.toNat) ∧ q = 2 * p + b := by
  unfold stepP
  constructor
  · intro h
    split at h
    · rename_i e
      rcases List.mem_append.mp h with h | h
      · obtain ⟨p, hp, rfl⟩ := List.mem_map.mp h
        exact ⟨p, hp, 0, by omega, by omega, .inl e, by omega⟩
      · obtain ⟨p, hp, rfl⟩ := List.mem_map.mp h
        exact ⟨p, hp, 1, by omega, by omega, .inl e, by omega⟩
    · obtain ⟨p, hp, rfl⟩ := List.mem_map.mp h
      exact ⟨p, hp, (c : Int) - 48, by omega, by omega, .inr (by omega), by omega⟩
  · rintro ⟨p, hp, b, h0, h1, h2, rfl⟩
    split
    · rename_i e
      have : b = 0 ∨ b = 1 := by omega
      rcases this with rfl | rfl
      · exact List.mem_append.mpr (.inl (List.mem_map.mpr ⟨p, hp, by omega⟩))
      · exact List.mem_append.mpr (.inr (List.mem_map.mpr ⟨p, hp, rfl⟩))
    · rename_i e
      exact List.mem_map.mpr ⟨p, hp, by omega⟩
theorem mem_places_go : ∀ {cs : List Nat} {L : List Int} {p : Int}, (∀ c ∈ cs, c = 45 ∨ c = 48 ∨ c = 49) →
    (p ∈ cs.foldl stepP L ↔ ∃ q ∈ L, ∃ bs : List Int, IsSt cs.length bs ∧ hasB cs bs = true ∧ p = q * 2 ^ cs.length + placeI bs)
  | [], L, p, _ => by
    constructor
    · intro h
      exact ⟨p, h, [], ⟨rfl, by simp⟩, rfl, by simp [placeI]⟩
    · rintro ⟨q, hq, bs, hs, _, rfl⟩
      have : bs = [] := List.eq_nil_of_length_eq_zero hs.len
      subst this
      simpa [placeI] using hq
  | c :: cs, L, p, hc => by
    have ih := mem_places_go (cs := cs) (L := stepP L c) (p := p) fun x hx => hc x (by simp [hx])
    rw [List.foldl_cons, ih]
    have e : ∀ (q b : Int) (bs : List Int), bs.length = cs.length → (2 * q + b) * 2 ^ cs.length + placeI bs = q * 2 ^ (c :: cs).length + placeI (b :: bs) := fun q b bs hl => by
      rw [place_cons, hl, List.length_cons, Int.pow_succ]
      grind
    constructor
    · rintro ⟨q', hq', bs, hs, hb, rfl⟩
      obtain ⟨q, hq, b, h0, h1, h2, rfl⟩ := (mem_step (hc c (by simp))).mp hq'
      refine ⟨q, hq, b :: bs, ⟨by simp [hs.len], fun x hx => ?_⟩, ?_, e _ _ _ hs.len⟩
      · rcases List.mem_cons.mp hx with rfl | hx
        · exact ⟨h0, h1⟩
        · exact hs.bit x hx
      · rw [hasB_cons, hb]
        rcases h2 with h2 | h2 <;> simp [h2]
    · rintro ⟨q, hq, bs, hs, hb, rfl⟩
      cases bs with
      | nil => have := hs.len; simp at this
      | cons b bs =>
        have hb2 := hs.bit b (by simp)
        rw [hasB_cons, Bool.and_eq_true, Bool.or_eq_true, decide_eq_true_eq, decide_eq_true_eq] at hb
        have hl : bs.length = cs.length := by have := hs.len; simpa using this
        exact ⟨2 * q + b, (mem_step (hc c (by simp))).mpr ⟨q, hq, b, hb2.1, hb2.2, hb.1, rfl⟩, bs, ⟨hl, fun x hx => hs.bit x (by simp [hx])⟩, hb.2, (e _ _ _ hl).symm⟩
theorem mem_places {cs : List Nat} {p : Int} (hc : ∀ c ∈ cs, c = 45 ∨ c = 48 ∨ c = 49) : p ∈ placesI cs ↔ ∃ bs : List Int, IsSt cs.length bs ∧ hasB cs bs = true ∧ p = placeI bs := by
  unfold placesI
  rw [mem_places_go hc]
  constructor
  · rintro ⟨q, hq, bs, hs, hb, rfl⟩
    simp only [List.mem_cons, List.not_mem_nil, or_false] at hq
    subst hq
    exact ⟨bs, hs, hb, by omega⟩
  · rintro ⟨bs, hs, hb, rfl⟩
    exact ⟨0, by simp, bs, hs, hb, by omega⟩
theorem extend : ∀ (es : List Nat) (bs : List Int) (g : Nat → Int), es.Nodup → es.length = bs.length → ∃ h : Nat → Int, es.map h = bs ∧ ∀ j, j ∉ es → h j = g j
  | [], bs, g, _, hl => ⟨g, by rw [List.map_nil]; exact (List.eq_nil_of_length_eq_zero hl.symm).symm, fun _ _ => rfl⟩
  | e :: es, [], g, _, hl => by simp at hl
  | e :: es, b :: bs, g, hn, hl => by
    obtain ⟨hn1, hn2⟩ := List.nodup_cons.mp hn
    obtain ⟨h, h1, h2⟩ := extend es bs g hn2 (by simpa using hl)
    refine ⟨fun j => if j = e then b else h j, ?_, fun j hj => ?_⟩
    · rw [List.map_cons, if_pos rfl, ← h1]
      congr 1
      refine List.map_congr_left fun j hj => ?_
      show (if j = e then b else h j) = h j
      rw [if_neg fun q : j = e => hn1 (q ▸ hj)]
    · show (if j = e then b else h j) = g j
      rw [if_neg fun q => hj (by simp [q]), h2 j fun q => hj (by simp [q])]
def signsAt (f : List Nat) (es : List Int) : List Nat := es.map fun e => f.getD e.toNat 0
def bitsF (ns : List RuleT) (f : List Nat) (k : Nat) : List Int := setI ((placesI (signsAt f (ns.getD k ([], [])).1)).map fun p => (ns.getD k ([], [])).2.getD p.toNat 0)
structure EarsOk (m : Nat) (r : RuleT) : Prop where
  sub : ∃ es : List Nat, r.1 = es.map (fun j : Nat => (j : Int)) ∧ es.Nodup ∧ ∀ j ∈ es, j < m
theorem RuleOk.ears {m : Nat} {r : RuleT} (h : RuleOk m r) : EarsOk m r := by
  obtain ⟨es, e1, s⟩ := h.sub
  exact ⟨es, e1, s.nodup List.nodup_range, fun j hj => List.mem_range.mp (s.subset hj)⟩
theorem getD_sg {f : List Nat} (h : ∀ c ∈ f, c = 45 ∨ c = 48 ∨ c = 49) {j : Nat} (hj : j < f.length) : f.getD j 0 = 45 ∨ f.getD j 0 = 48 ∨ f.getD j 0 = 49 := by
  rw [List.getD_eq_getElem?_getD, List.getElem?_eq_getElem hj]
  exact h _ (List.getElem_mem hj)
theorem ought_mem {ns : List RuleT} {f : List Nat} {k : Nat} {b : Int} (ok : EarsOk ns.length (ns.getD k ([], []))) (hf : CaseOk ns.length f) :
    b ∈ bitsF ns f k ↔ ∃ st, IsSt ns.length st ∧ hasB f st = true ∧ oughtI ns st k = b := by
  obtain ⟨es, e1, hn, hlt⟩ := ok.sub
  have hsg : ∀ c ∈ signsAt f (ns.getD k ([], [])).1, c = 45 ∨ c = 48 ∨ c = 49 := fun c hc => by
    unfold signsAt at hc
    rw [e1, List.map_map] at hc
    obtain ⟨j, hj, rfl⟩ := List.mem_map.mp hc
    exact getD_sg hf.sg (by rw [hf.len]; exact hlt j hj)
  have es1 : signsAt f (ns.getD k ([], [])).1 = es.map fun j => f.getD j 0 := by
    unfold signsAt
    rw [e1, List.map_map]
    rfl
  have et : ∀ st : List Int, (ns.getD k ([], [])).1.map (fun e => st.getD e.toNat 0) = es.map fun j => st.getD j 0 := fun st => by
    rw [e1, List.map_map]
    rfl
  have ef : f = (List.range ns.length).map fun j => f.getD j 0 := (range_getD hf.len).symm
  unfold bitsF
  rw [setI_mem, List.mem_map]
  constructor
  · rintro ⟨p, hp, rfl⟩
    obtain ⟨bs, hs, hb, rfl⟩ := (mem_places hsg).mp hp
    rw [es1] at hs hb
    rw [List.length_map] at hs
    obtain ⟨h, h1, h2⟩ := extend es bs (fun j => if f.getD j 0 = 49 then 1 else 0) hn hs.len.symm
    have hbit : ∀ j, 0 ≤ h j ∧ h j < 2 := fun j => by
      by_cases hj : j ∈ es
      · exact hs.bit _ (by rw [← h1]; exact List.mem_map.mpr ⟨j, hj, rfl⟩)
      · rw [h2 j hj]
        split <;> omega
    have hst : ∀ j, j < ns.length → ((List.range ns.length).map h).getD j 0 = h j := fun j hj => by
      rw [List.getD_eq_getElem?_getD, List.getElem?_eq_getElem (by simpa using hj)]
      simp
    refine ⟨(List.range ns.length).map h, ⟨by simp, fun x hx => ?_⟩, ?_, ?_⟩
    · obtain ⟨j, _, rfl⟩ := List.mem_map.mp hx
      exact hbit j
    · rw [ef, hasB_map, List.all_eq_true]
      intro j hj
      have hj := List.mem_range.mp hj
      by_cases hje : j ∈ es
      · rw [← h1, hasB_map, List.all_eq_true] at hb
        exact hb j hje
      · rw [h2 j hje]
        rcases getD_sg hf.sg (j := j) (by rw [hf.len]; exact hj) with e | e | e <;> rw [e] <;> decide
    · unfold oughtI tellI
      rw [et]
      have : es.map (fun j => ((List.range ns.length).map h).getD j 0) = bs := by
        rw [← h1]
        exact List.map_congr_left fun j hj => hst j (hlt j hj)
      rw [this]
  · rintro ⟨st, hs, hb, rfl⟩
    refine ⟨placeI (es.map fun j => st.getD j 0), (mem_places hsg).mpr ⟨_, ⟨by rw [es1, List.length_map, List.length_map], fun x hx => ?_⟩, ?_, rfl⟩, ?_⟩
    · obtain ⟨j, _, rfl⟩ := List.mem_map.mp hx
      exact hs.get j
    · have e2 : st = (List.range ns.length).map fun j => st.getD j 0 := (range_getD hs.len).symm
      rw [ef, e2, hasB_map, List.all_eq_true] at hb
      rw [es1, hasB_map, List.all_eq_true]
      intro j hj
      exact hb j (List.mem_range.mpr (hlt j hj))
    · unfold oughtI tellI
      rw [et]
def insideI (m : Nat) (f : List Nat) : List (List Int) := (stands m).filter fun st => hasB f st
theorem mem_inside {m : Nat} {f : List Nat} {st : List Int} : st ∈ insideI m f ↔ IsSt m st ∧ hasB f st = true := by
  unfold insideI
  rw [List.mem_filter, mem_stands]
end H

set_option Elab.async false
set_option linter.all false
set_option maxRecDepth 100000
namespace H
open PySem PySem.Spec PyProof.Rows L2 Y
theorem s_signs : Str.ofString "01-" = tx [48, 49, 45] := by decide +kernel
theorem in_text {c : Nat} {l : List Nat} : inD (dt [c]) (dt l) = .ok (.bl (decide (c ∈ l))) := by
  have e : (tx [c]).length = 1 := rfl
  have e2 : (tx [c]).cps.getD 0 0 = c := rfl
  have e3 : (tx l).cps.toList = l := by simp [tx]
  show (match (if (tx [c]).length = 1 then some (decide ((tx [c]).cps.getD 0 0 ∈ (tx l).cps.toList)) else none) with | some b => R.ok (D.bl b) | none => .stk) = _
  rw [if_pos e, e2, e3]
theorem int_of_sg {c : Nat} (h : c = 48 ∨ c = 49) : intOfD [dt [c]] = .ok (.int ((c : Int) - 48)) := by
  rcases h with rfl | rfl <;> rfl
abbrev li (xs : List Int) : D := .lst (xs.map D.int)
theorem stepP_len {L : List Int} {c : Nat} : (stepP L c).length ≤ 2 * L.length := by
  unfold stepP
  split <;> simp <;> omega
theorem places_len_go : ∀ {cs : List Nat} {L : List Int}, (cs.foldl stepP L).length ≤ 2 ^ cs.length * L.length
  | [], L => by simp
  | c :: cs, L => by
    have h1 := places_len_go (cs := cs) (L := stepP L c)
    have h2 := stepP_len (L := L) (c := c)
    have h3 := Nat.mul_le_mul_left (2 ^ cs.length) h2
    rw [List.foldl_cons, List.length_cons, Nat.pow_succ, Nat.mul_assoc]
    exact Nat.le_trans h1 h3
theorem places_len {cs : List Nat} : (placesI cs).length ≤ 2 ^ cs.length := by
  have := places_len_go (cs := cs) (L := [0])
  simpa [placesI] using this
theorem three_bits : ∀ {xs : List Int}, xs.Pairwise (· < ·) → (∀ x ∈ xs, 0 ≤ x ∧ x < 2) → xs.length ≤ 2
  | [], _, _ => by simp
  | [_], _, _ => by simp
  | [_, _], _, _ => by simp
  | a :: b :: c :: r, h, hb => by
    have h1 := hb a (by simp)
    have h3 := hb c (by simp)
    rw [List.pairwise_cons] at h
    obtain ⟨h4, h5⟩ := h
    rw [List.pairwise_cons] at h5
    have h6 := h4 b (by simp)
    have h7 := h5.1 c (by simp)
    omega
theorem dedup_bits {xs : List Int} (h : ∀ x ∈ xs, 0 ≤ x ∧ x < 2) : (dedupI xs).length < 64 := by
  have := three_bits (setI_lt (xs := xs)) fun x hx => h x (setI_mem.mp hx)
  rw [setI_len] at this
  omega
theorem places_lt {cs : List Nat} (hc : ∀ c ∈ cs, c = 45 ∨ c = 48 ∨ c = 49) {p : Int} (h : p ∈ placesI cs) : 0 ≤ p ∧ p < 2 ^ cs.length := by
  obtain ⟨bs, hs, _, rfl⟩ := (mem_places hc).mp h
  have := placeI_lt hs.bit
  rwa [hs.len] at this
theorem NetOk.lk {ns : List RuleT} {most k : Nat} (h : NetOk ns most) (hk : k < ns.length) : RuleOk ns.length (ns.getD k ([], [])) := by
  rw [List.getD_eq_getElem?_getD, List.getElem?_eq_getElem hk]
  exact h.rule _ (List.getElem_mem hk)
end H

set_option Elab.async false
set_option linter.all false
set_option maxRecDepth 100000
namespace H
open PySem PySem.Spec PyProof.Rows L2 Y
theorem law_in_ok {m : Nat} {f : List Nat} {st : List Int} (hm : m ≤ 20) (hf : CaseOk m f) (hs : IsSt m st) : C.g__law_in [dt f, ti st] = .ok (.fr (.bl (hasB f st))) := by
  have fl := hf.len
  have sl := hs.len
  have it := it_dt (a := f)
  have pz : pairsD (f.map fun c => dt [c]) (st.map D.int) = (f.zip st).map fun p : Nat × Int => D.tup [dt [p.1], .int p.2] := pairsD_map
  have q := comp_map (tm := tmTup [2, 3]) (t := cYes) (e := C.e__law_in_1) (vs := [2, 3]) (ws := []) (ρ := [some (dt f), some (ti st), none, none]) (fun p : Nat × Int => D.tup [dt [p.1], .int p.2]) (fun p => D.bl (decide (p.1 = 45) || decide (p.1 = 48 + p.2.toNat))) (f.zip st) (fun p hp => by
    have h1 := hf.sg p.1 (List.of_mem_zip hp).1
    have h2 := hs.bit p.2 (List.of_mem_zip hp).2
    obtain ⟨c, b⟩ := p
    simp only at h1 h2 ⊢
    have n1 := eq_dt (a := [c]) (b := [45]) (sg1 (by omega)) (sg1 (by omega))
    simp only [turnC, C.e__law_in_1, s_dash]
    by_cases e : c = 45
    · subst e
      simp [n1]
    · have i2 := int_of_sg (c := c) (by omega)
      have e4 : decide ((c : Int) - 48 = b) = decide (c = 48 + b.toNat) := decide_eq_decide.mpr ⟨fun h => by omega, fun h => by omega⟩
      simp [n1, e, i2, e4])
  have e2 : ((f.zip st).map fun p => D.bl (decide (p.1 = 45) || decide (p.1 = 48 + p.2.toNat))) = ((f.zip st).map fun p => (decide (p.1 = 45) || decide (p.1 = 48 + p.2.toNat))).map D.bl := by rw [List.map_map]; rfl
  have e3 : allD [.lst ((f.zip st).map fun p => D.bl (decide (p.1 = 45) || decide (p.1 = 48 + p.2.toNat)))] = .ok (.bl (hasB f st)) := by
    rw [e2, d_all, List.all_map]
    rfl
  have z : szOk (min f.length st.length) = true := szOk_of (by omega)
  have pl := pairsD_len (f.map fun c => dt [c]) (st.map D.int)
  generalize ((f.zip st).map fun p => D.bl (decide (p.1 = 45) || decide (p.1 = 48 + p.2.toNat))) = X at q e3
  simp only [C.g__law_in, C.m__law_in]
  generalize C.e__law_in_1 = B at q ⊢
  simp [e_fnP, it, itD, pz, z, q, e3]
theorem law_inside_ok {m : Nat} {f : List Nat} (hm : m ≤ 20) (hf : CaseOk m f) : C.g__law_inside [dt f] = .ok (.fr (lti (insideI m f))) := by
  have fl := hf.len
  have q := comp_filter (tm := tmName 1) (t := C.t__law_inside_1) (e := C.e__law_inside_1) (vs := [1]) (ws := []) (ρ := [some (dt f), none]) ti (fun st => hasB f st) ti (stands m) (fun st hs => by
    have := law_in_ok hm hf (stands_st hs)
    simp only [turnC, C.t__law_inside_1, C.e__law_inside_1]
    cases e : hasB f st <;> rw [e] at this <;> simp [this])
  have ls := law_stands_ok hm
  have z : szOk (stands m).length = true := szOk_of (by
    rw [stands_len]
    exact Nat.le_trans (Nat.pow_le_pow_right (by omega) hm) (by omega))
  have zf : szOk f.length = true := szOk_of (by omega)
  simp only [C.g__law_inside, C.m__law_inside]
  generalize C.t__law_inside_1 = B at q ⊢
  generalize C.e__law_inside_1 = B2 at q ⊢
  have q : cCompL _ _ _ _ _ _ _ = .ok ((insideI m f).map ti, _) := q
  rw [fl] at zf
  simp [e_fnP, tx_len, zf, fl, ls, z, q]
end H

set_option Elab.async false
set_option linter.all false
set_option maxRecDepth 100000
namespace H
open PySem PySem.Spec PyProof.Rows L2 Y
theorem join_str : ∀ xs : List Nat, Str.join (tx []) (xs.map fun c => tx [c]) = tx xs
  | [] => rfl
  | [_] => rfl
  | x :: y :: r => by
    have := join_str (y :: r)
    simp only [List.map_cons] at this ⊢
    show tx [x] ++ tx [] ++ Str.join (tx []) (tx [y] :: r.map fun c => tx [c]) = _
    rw [this, tx_add, tx_add]
    rfl
theorem join_tx (xs : List Nat) : Txt.join (Str.ofString "") (xs.map fun c => tx [c]) = tx xs := by
  rw [s_none, TL.join_eq, join_str]
theorem join_dt {f : List Nat} (hl : f.length ≤ 10000) : joinD (.str (Str.ofString "")) (.lst (f.map fun c => dt [c])) = .ok (dt f) := by
  have z := sum_le (f := fun c : Nat => (tx [c]).length) (m := 1) (xs := f) fun x _ => by rw [tx_len]; simp
  have e : (Str.ofString "").length = 0 := by decide +kernel
  have e2 : ((f.map fun c : Nat => tx [c]).map (·.length)).sum = (f.map fun c : Nat => (tx [c]).length).sum := by rw [List.map_map]; rfl
  rw [joinD_lst, strs_of]
  simp only
  rw [if_pos, join_tx]
  rw [e, e2]
  omega
theorem foldl_rep {c : Nat} : ∀ (m : Nat) (a : List Nat), (List.replicate m #[c]).foldl (· ++ ·) a.toArray = (a ++ List.replicate m c).toArray
  | 0, a => by simp
  | m + 1, a => by
    have e : a.toArray ++ #[c] = (a ++ [c]).toArray := by simp
    rw [List.replicate_succ, List.foldl_cons, e, foldl_rep m (a ++ [c]), List.replicate_succ, List.append_assoc]
    rfl
theorem rep_tx {k : Int} {c : Nat} : repS k (tx [c]) = tx (List.replicate k.toNat c) := by
  unfold repS
  by_cases h : k < 1
  · rw [if_pos h, show k.toNat = 0 by omega]
    rfl
  · rw [if_neg h]
    have l : (tx [c]).length = 1 := rfl
    by_cases h1 : k = 1
    · subst h1
      rw [if_pos (by rfl)]
      rfl
    · rw [if_neg (by simp [h1, l])]
      have := foldl_rep (c := c) k.toNat []
      rw [List.nil_append] at this
      exact congrArg Str.mk this
end H

set_option Elab.async false
set_option linter.all false
set_option maxRecDepth 100000
namespace H
open PySem PySem.Spec PyProof.Rows L2 Y
inductive Pap where
  | rest | against (k : Nat) | split (k : Nat) (a b : Pap)
abbrev wRest : D := dt [114, 101, 115, 116]
abbrev wAg : D := dt [97, 103, 97, 105, 110, 115, 116]
abbrev wSplit : D := dt [115, 112, 108, 105, 116]
def Pap.d : Pap → D
  | .rest => .tup [wRest]
  | .against k => .tup [wAg, .int k]
  | .split k a b => .tup [wSplit, .int k, a.d, b.d]
def Pap.ok (m : Nat) : Pap → Prop
  | .rest => True
  | .against k => k < m
  | .split k a b => k < m ∧ a.ok m ∧ b.ok m
theorem j2 {a b : D} : atI [a, b] 0 = some a ∧ atI [a, b] 1 = some b := ⟨atI_of (j := 0) rfl rfl, atI_of (j := 1) rfl rfl⟩
def sign (f : List Nat) (k c : Nat) : List Nat := f.take k ++ c :: f.drop (k + 1)
theorem sign_ok {m k c : Nat} {f : List Nat} (hf : CaseOk m f) (hk : k < m) (hc : c = 45 ∨ c = 48 ∨ c = 49) : CaseOk m (sign f k c) := by
  have fl := hf.len
  refine ⟨by unfold sign; simp; omega, fun x hx => ?_⟩
  unfold sign at hx
  simp only [List.mem_append, List.mem_cons] at hx
  rcases hx with hx | rfl | hx
  · exact hf.sg x (List.mem_of_mem_take hx)
  · exact hc
  · exact hf.sg x (List.mem_of_mem_drop hx)
def dash (f : List Nat) : Nat := (f.filter fun c => decide (c = 45)).length
theorem dash_sign {k c : Nat} {f : List Nat} (hk : k < f.length) (h : f.getD k 0 = 45) (hc : c ≠ 45) : dash (sign f k c) + 1 = dash f := by
  have e : f = f.take k ++ 45 :: f.drop (k + 1) := by
    have h1 : f[k] = 45 := by
      rw [List.getD_eq_getElem?_getD, List.getElem?_eq_getElem hk] at h
      exact h
    rw [← h1, ← List.drop_eq_getElem_cons hk, List.take_append_drop]
  have e2 : dash f = dash (f.take k ++ 45 :: f.drop (k + 1)) := congrArg dash e
  rw [e2]
  unfold dash sign
  rw [List.filter_append, List.filter_append, List.filter_cons, List.filter_cons, if_neg (by simpa using hc), if_pos (by rfl), List.length_append, List.length_append, List.length_cons]
  omega
theorem with_sign_ok {m k c : Nat} {f : List Nat} (hm : m ≤ 20) (hf : CaseOk m f) (hk : k < m) : C.g_with_sign [dt f, .int k, dt [c]] = .ok (.fr (dt (sign f k c))) ∧ C.g__law_sign [dt f, .int k, dt [c]] = .ok (.fr (dt (sign f k c))) := by
  have fl := hf.len
  have s1 := slice_lo (l := f) (k := k) (by omega)
  have s2 := slice_up (l := f) (k := k + 1) (by omega)
  rw [show (((k + 1 : Nat)) : Int) = (k : Int) + 1 by omega] at s2
  have a1 := add_dt (a := f.take k) (b := [c]) (by rw [List.length_take]; simp; omega)
  have a2 := add_dt (a := f.take k ++ [c]) (b := f.drop (k + 1)) (by rw [List.length_append, List.length_take, List.length_drop]; simp; omega)
  have e : f.take k ++ [c] ++ f.drop (k + 1) = sign f k c := by unfold sign; rw [List.append_assoc]; rfl
  rw [e] at a2
  simp only [C.g_with_sign, C.m_with_sign, C.g__law_sign, C.m__law_sign]
  generalize sign f k c = w at a2 ⊢
  generalize f.take k ++ [c] = x at a1 a2
  generalize f.take k = y at a1 s1
  generalize f.drop (k + 1) = z at a2 s2
  have a1 : addD (D.str (tx y)) (D.str (tx [c])) = _ := a1
  have a2 : addD (D.str (tx x)) (D.str (tx z)) = _ := a2
  constructor <;> simp [e_fnP, s1, s2, a1, a2, -d_addS]
def both (x y : Option (List (List Int))) : Option (List (List Int)) := match x with
  | none => none
  | some a => match y with
    | none => none
    | some b => some (a ++ b)
end H

set_option Elab.async false
set_option linter.all false
set_option maxRecDepth 100000
namespace H
open PySem PySem.Spec PyProof.Rows L2 Y
theorem law_bits_ok {ns : List RuleT} {most k : Nat} {f : List Nat} (ok : NetOk ns most) (hm : most ≤ 11) (hf : CaseOk ns.length f) (hk : k < ns.length) : C.g__law_bits [dNet ns, dt f, .int k] = .ok (.fr (li (bitsF ns f k))) := by
  have hle := ok.le
  have g := ok.good (by omega)
  have rk := ok.lk hk
  have q := comp_map (tm := tmName 3) (t := cYes) (e := C.e__law_bits_1) (vs := [3]) (ws := []) (ρ := [some (dNet ns), some (dt f), some (.int k), none]) ti (fun st => D.int (oughtI ns st k)) (insideI ns.length f) (fun st hst => by
    have := law_ought_ok g (mem_inside.mp hst).1 hk
    simp only [turnC, C.e__law_bits_1]
    simp [this])
  have e2 : ((insideI ns.length f).map fun st => D.int (oughtI ns st k)) = ((insideI ns.length f).map fun st => oughtI ns st k).map D.int := by rw [List.map_map]; rfl
  rw [e2] at q
  have e3 : bitsF ns f k = setI ((insideI ns.length f).map fun st => oughtI ns st k) := by
    refine setI_of (by unfold bitsF; exact setI_lt) fun b => ?_
    rw [ought_mem rk.ears hf, List.mem_map]
    exact ⟨fun ⟨st, h1, h2, h3⟩ => ⟨st, mem_inside.mpr ⟨h1, h2⟩, h3⟩, fun ⟨st, h1, h3⟩ => ⟨st, (mem_inside.mp h1).1, (mem_inside.mp h1).2, h3⟩⟩
  have dl := dedup_bits (xs := (insideI ns.length f).map fun st => oughtI ns st k) fun x hx => by
    obtain ⟨st, _, rfl⟩ := List.mem_map.mp hx
    exact getD_bit rk.bit _
  have ll : (insideI ns.length f).length ≤ 2048 := by
    have := List.length_filter_le (fun st => hasB f st) (stands ns.length)
    rw [stands_len] at this
    have h2 : 2 ^ ns.length ≤ 2 ^ 11 := Nat.pow_le_pow_right (by omega) (by omega)
    unfold insideI
    omega
  have z : szOk (insideI ns.length f).length = true := szOk_of (by omega)
  have lin := law_inside_ok (by omega) hf
  rw [e3]
  simp only [C.g__law_bits, C.m__law_bits]
  generalize C.e__law_bits_1 = B at q ⊢
  generalize hX : ((insideI ns.length f).map fun st => oughtI ns st k) = X at *
  have lX : X.length ≤ 4000 := by rw [← hX, List.length_map]; omega
  simp [e_fnP, lin, z, q, lX, dl]
end H

set_option Elab.async false
set_option linter.all false
set_option maxRecDepth 100000
namespace H
open PySem PySem.Spec PyProof.Rows L2 Y
end H

set_option Elab.async false
set_option linter.all false
set_option maxRecDepth 100000
namespace H
open PySem PySem.Spec PyProof.Rows L2 Y
def bitOf (ns : List RuleT) (f : List Nat) (k : Nat) : Int := (bitsF ns f k).getD 0 0
def oneB (ns : List RuleT) (f : List Nat) (k : Nat) : Bool := decide (f.getD k 0 = 45) && decide ((bitsF ns f k).length = 1)
def toldI (ns : List RuleT) (f : List Nat) : List Nat := (List.range ns.length).filter (oneB ns f)
def sgOf (ns : List RuleT) (f : List Nat) (k : Nat) : Nat := 48 + (bitOf ns f k).toNat
def closeS (ns : List RuleT) (f : List Nat) (g : List Nat) (ks : List Nat) : List Nat := ks.foldl (fun g k => sign g k (sgOf ns f k)) g
theorem sign_getD {m : Nat} {f : List Nat} (hf : f.length = m) {k j c : Nat} (hk : k < m) : (sign f k c).getD j 0 = if j = k then c else f.getD j 0 := by
  unfold sign
  rw [List.getD_eq_getElem?_getD, List.getD_eq_getElem?_getD]
  have lt : (f.take k).length = k := by rw [List.length_take]; omega
  by_cases h1 : j < k
  · rw [List.getElem?_append_left (by omega), if_neg (by omega), List.getElem?_take_of_lt h1]
  · rw [List.getElem?_append_right (by omega), lt]
    by_cases h2 : j = k
    · subst h2
      rw [Nat.sub_self, if_pos rfl]
      rfl
    · rw [if_neg h2]
      obtain ⟨i, rfl⟩ := Nat.exists_eq_add_of_le (show k + 1 ≤ j by omega)
      rw [show k + 1 + i - k = i + 1 by omega, List.getElem?_cons_succ, List.getElem?_drop]
theorem bitOf_bit {ns : List RuleT} {most k : Nat} {f : List Nat} (ok : NetOk ns most) (hf : CaseOk ns.length f) (hk : k < ns.length) (h : (bitsF ns f k).length = 1) : (0 ≤ bitOf ns f k ∧ bitOf ns f k < 2) ∧ bitsF ns f k = [bitOf ns f k] := by
  have e : bitsF ns f k = [bitOf ns f k] := by
    unfold bitOf
    match q : bitsF ns f k with
    | [] => rw [q] at h; cases h
    | [x] => rfl
    | x :: y :: z => rw [q] at h; simp at h
  refine ⟨?_, e⟩
  have m : bitOf ns f k ∈ bitsF ns f k := by rw [e]; simp
  unfold bitsF at m
  rw [setI_mem, List.mem_map] at m
  obtain ⟨p, _, hp⟩ := m
  rw [← hp]
  exact getD_bit (ok.lk hk).bit _
theorem filter_snoc {p : Nat → Bool} {j : Nat} : (List.range (j + 1)).filter p = (List.range j).filter p ++ (if p j = true then [j] else []) := by
  rw [List.range_succ, List.filter_append]
  congr 1
  by_cases q : p j = true
  · rw [if_pos q, List.filter_cons, if_pos q]; rfl
  · rw [if_neg q, List.filter_cons, if_neg q]; rfl
theorem bitsF_two {ns : List RuleT} {most k : Nat} {f : List Nat} (ok : NetOk ns most) (hf : CaseOk ns.length f) (hk : k < ns.length) : (bitsF ns f k).length ≤ 2 := by
  unfold bitsF
  refine three_bits setI_lt fun x hx => ?_
  rw [setI_mem, List.mem_map] at hx
  obtain ⟨p, _, rfl⟩ := hx
  exact getD_bit (ok.lk hk).bit _
theorem closeS_ok {ns : List RuleT} {most : Nat} {f : List Nat} (ok : NetOk ns most) (hf : CaseOk ns.length f) : ∀ {ks : List Nat} {g : List Nat}, CaseOk ns.length g → ks.Nodup → (∀ k ∈ ks, k < ns.length ∧ oneB ns f k = true ∧ g.getD k 0 = 45) →
    CaseOk ns.length (closeS ns f g ks) ∧ dash (closeS ns f g ks) + ks.length = dash g
  | [], g, hg, _, _ => ⟨hg, rfl⟩
  | k :: ks, g, hg, hn, h => by
    obtain ⟨h1, h2, h3⟩ := h k (by simp)
    rw [List.nodup_cons] at hn
    have hb : (bitsF ns f k).length = 1 := by
      unfold oneB at h2
      rw [Bool.and_eq_true] at h2
      exact of_decide_eq_true h2.2
    obtain ⟨b1, _⟩ := bitOf_bit ok hf h1 hb
    have hc : sgOf ns f k = 48 ∨ sgOf ns f k = 49 := by unfold sgOf; omega
    have hs := sign_ok hg h1 (show sgOf ns f k = 45 ∨ sgOf ns f k = 48 ∨ sgOf ns f k = 49 by omega)
    obtain ⟨i1, i2⟩ := closeS_ok ok hf (ks := ks) hs hn.2 fun j hj => by
      obtain ⟨j1, j2, j3⟩ := h j (by simp [hj])
      refine ⟨j1, j2, ?_⟩
      rw [sign_getD hg.len h1, if_neg (show ¬ j = k from fun z => hn.1 (by rw [← z]; exact hj))]
      exact j3
    refine ⟨i1, ?_⟩
    have d := dash_sign (k := k) (c := sgOf ns f k) (f := g) (by rw [hg.len]; exact h1) h3 (by omega)
    show dash (closeS ns f (sign g k (sgOf ns f k)) ks) + (ks.length + 1) = dash g
    omega
theorem told_mem {ns : List RuleT} {f : List Nat} {k : Nat} : k ∈ toldI ns f ↔ k < ns.length ∧ oneB ns f k = true := by
  unfold toldI
  rw [List.mem_filter, List.mem_range]
theorem close_f {ns : List RuleT} {most : Nat} {f : List Nat} (ok : NetOk ns most) (hf : CaseOk ns.length f) : CaseOk ns.length (closeS ns f f (toldI ns f)) ∧ dash (closeS ns f f (toldI ns f)) + (toldI ns f).length = dash f :=
  closeS_ok ok hf hf ((List.filter_sublist).nodup List.nodup_range) fun k hk => by
    obtain ⟨h1, h2⟩ := told_mem.mp hk
    refine ⟨h1, h2, ?_⟩
    unfold oneB at h2
    rw [Bool.and_eq_true] at h2
    exact of_decide_eq_true h2.1
end H

set_option Elab.async false
set_option linter.all false
set_option maxRecDepth 100000
namespace H
open PySem PySem.Spec PyProof.Rows L2 Y
def addS (L : List (List Int)) (t : List Int) : List (List Int) := if t ∈ L then L else L ++ [t]
structure InS (m : Nat) (L : List (List Int)) : Prop where
  nd : L.Nodup
  st : ∀ x ∈ L, IsSt m x
theorem nodup_len {α : Type} [DecidableEq α] : ∀ {A B : List α}, A.Nodup → (∀ x ∈ A, x ∈ B) → A.length ≤ B.length
  | [], B, _, _ => by simp
  | x :: A, B, h, s => by
    obtain ⟨h1, h2⟩ := List.nodup_cons.mp h
    have hx := s x (by simp)
    have ih := nodup_len (A := A) (B := B.erase x) h2 fun y hy => (List.mem_erase_of_ne fun z : y = x => h1 (by rw [← z]; exact hy)).mpr (s y (by simp [hy]))
    rw [List.length_erase_of_mem hx] at ih
    have : 0 < B.length := List.length_pos_of_mem hx
    rw [List.length_cons]
    omega
theorem InS.len {m : Nat} {L : List (List Int)} (h : InS m L) : L.length ≤ 2 ^ m := by
  have := nodup_len h.nd (B := stands m) fun x hx => mem_stands.mpr (h.st x hx)
  rwa [stands_len] at this
theorem InS.add {m : Nat} {L : List (List Int)} {t : List Int} (h : InS m L) (ht : IsSt m t) : InS m (addS L t) := by
  unfold addS
  by_cases c : t ∈ L
  · rwa [if_pos c]
  · rw [if_neg c]
    refine ⟨List.nodup_append.mpr ⟨h.nd, by simp, fun a ha b hb z => ?_⟩, fun x hx => ?_⟩
    · rw [List.mem_singleton] at hb
      exact c (by rw [← hb, ← z]; exact ha)
    · rcases List.mem_append.mp hx with hx | hx
      · exact h.st x hx
      · rw [List.mem_singleton] at hx
        rw [hx]; exact ht
end H

set_option Elab.async false
set_option linter.all false
set_option maxRecDepth 100000
namespace H
open PySem PySem.Spec PyProof.Rows L2 Y
end H

set_option Elab.async false
set_option linter.all false
set_option maxRecDepth 100000
namespace H
open PySem PySem.Spec PyProof.Rows L2 Y
end H

set_option Elab.async false
set_option linter.all false
set_option maxRecDepth 100000
namespace H
open PySem PySem.Spec PyProof.Rows L2 Y
theorem alike_ints : ∀ {a b : List Int}, PySem.W.alikeAll (toPys (a.map D.int)) (toPys (b.map D.int)) = true
  | [], _ => by simp [toPys, PySem.W.alikeAll]
  | _ :: _, [] => by simp [toPys, PySem.W.alikeAll]
  | x :: xs, y :: ys => by
    have ih := alike_ints (a := xs) (b := ys)
    simp only [List.map_cons, toPys, toPy, PySem.W.alikeAll, PySem.W.alike, ih, Bool.and_self]
end H

set_option Elab.async false
set_option linter.all false
set_option maxRecDepth 100000
namespace H
open PySem PySem.Spec PyProof.Rows L2 Y
@[simp] theorem e_dget {a b : EM} {ρ : Y.Env} : cDGet a b ρ = (a ρ >>= fun p => b p.2 >>= fun q => (p.1.d q.2).nox >>= fun x => (q.1.d q.2).nox >>= fun y => (getDic x y).nox >>= fun o => match o with | some z => R.ok (.vl z, q.2) | none => .stk) := id rfl
end H

set_option Elab.async false
set_option linter.all false
set_option maxRecDepth 100000
namespace H
open PySem PySem.Spec PyProof.Rows L2 Y
end H

set_option Elab.async false
set_option linter.all false
set_option maxRecDepth 100000
namespace H
open PySem PySem.Spec PyProof.Rows L2 Y
theorem drawn_stand_ok {n : Int} {m : Nat} (hm : m ≤ 20) : ∃ (st : List Int) (n' : Int), C.g__law_drawn_stand [.lst [.int n], .int m] = .ok (.fr (ti st), [some (.lst [.int n']), none]) ∧ IsSt m st := by
  obtain ⟨st, n2, e, hl, hb⟩ := comp_ex (tm := tmName 2) (t := cYes) (e := C.e__law_drawn_stand_1) (vs := [2]) (ws := []) (fun j : Nat => D.int (j : Nat)) D.int (fun b : Int => [some (.lst [.int b]), some (.int m), none]) (fun x => 0 ≤ x ∧ x < 2) (List.range m) n (fun b j hj => by
    have tk := take_ok (n := b) (m := 2) (by omega) (by omega)
    refine ⟨b % 2, b / 2, ?_, by omega, by simp⟩
    simp only [turnC, C.e__law_drawn_stand_1]
    simp [tk])
  rw [List.length_range] at hl
  have rM : rngOk m = true := rngOk_of (by omega) (by omega)
  have zM : szOk m = true := szOk_of (by omega)
  refine ⟨st, n2, ?_, hl, hb⟩
  simp only [C.g__law_drawn_stand, C.m__law_drawn_stand]
  generalize C.e__law_drawn_stand_1 = B at e ⊢
  simp [e_fnD, rM, zM, e]
end H

set_option Elab.async false
set_option linter.all false
set_option maxRecDepth 100000
namespace H
open PySem PySem.Spec PyProof.Rows L2 Y
end H

set_option Elab.async false
set_option linter.all false
set_option maxRecDepth 100000
namespace H
open PySem PySem.Spec PyProof.Rows L2 Y
end H

set_option Elab.async false
set_option linter.all false
set_option maxRecDepth 100000
namespace H
open PySem PySem.Spec PyProof.Rows L2 Y
def dH (p : Nat × Int) : D := .tup [.int (p.1 : Nat), .int p.2]
abbrev HD (hs : List (Nat × Int)) : D := .ftu (hs.map dH)
structure HoldsOk (n : Nat) (hs : List (Nat × Int)) : Prop where
  up : hs.Pairwise fun a b => a.1 < b.1
  lt : ∀ p ∈ hs, p.1 < n
  bit : ∀ p ∈ hs, 0 ≤ p.2 ∧ p.2 < 2
theorem up_len : ∀ {hs : List (Nat × Int)} {m n : Nat}, hs.Pairwise (fun a b => a.1 < b.1) → (∀ p ∈ hs, m ≤ p.1 ∧ p.1 < n) → hs.length ≤ n - m
  | [], _, _, _, _ => by simp
  | p :: hs, m, n, h, hb => by
    obtain ⟨h1, h2⟩ := List.pairwise_cons.mp h
    have ih := up_len (m := p.1 + 1) (n := n) h2 fun q hq => ⟨h1 q hq, (hb q (by simp [hq])).2⟩
    have := hb p (by simp)
    rw [List.length_cons]
    omega
theorem HoldsOk.len {n : Nat} {hs : List (Nat × Int)} (h : HoldsOk n hs) : hs.length ≤ n := by
  have := up_len (m := 0) h.up fun p hp => ⟨Nat.zero_le _, h.lt p hp⟩
  omega
def bitAt (hs : List (Nat × Int)) (k : Nat) : Option Int := (hs.find? fun p => p.1 == k).map (·.2)
theorem bitAt_snoc {hs : List (Nat × Int)} {p : Nat × Int} {k : Nat} : bitAt (hs ++ [p]) k = match bitAt hs k with | some b => some b | none => if p.1 = k then some p.2 else none := by
  unfold bitAt
  rw [List.find?_append]
  cases c : hs.find? fun p => p.1 == k with
  | some q => rfl
  | none =>
    have : [p].find? (fun p => p.1 == k) = if p.1 = k then some p else none := by
      by_cases e : p.1 = k
      · simp [e]
      · have e2 : (p.1 == k) = false := by simpa using e
        simp [List.find?, e2, e]
    rw [this]
    by_cases e : p.1 = k <;> simp [e]
theorem bitAt_none {hs : List (Nat × Int)} {k : Nat} (h : ∀ p ∈ hs, p.1 ≠ k) : bitAt hs k = none := by
  unfold bitAt
  rw [Option.map_eq_none_iff, List.find?_eq_none]
  intro p hp
  simpa using h p hp
theorem bitAt_bit {n : Nat} {hs : List (Nat × Int)} (h : HoldsOk n hs) {k : Nat} {b : Int} (e : bitAt hs k = some b) : 0 ≤ b ∧ b < 2 := by
  unfold bitAt at e
  obtain ⟨p, e1, e2⟩ := Option.map_eq_some_iff.mp e
  have := h.bit p (List.mem_of_find?_eq_some e1)
  rw [← e2]
  exact this
def hRule (ns : List RuleT) (hs : List (Nat × Int)) (k : Nat) : RuleT := match bitAt hs k with | some b => ([], [b]) | none => ns.getD k ([], [])
def heldL (ns : List RuleT) (hs : List (Nat × Int)) : List RuleT := (List.range ns.length).map (hRule ns hs)
theorem heldL_len {ns : List RuleT} {hs : List (Nat × Int)} : (heldL ns hs).length = ns.length := by simp [heldL]
theorem heldL_get {ns : List RuleT} {hs : List (Nat × Int)} {i : Nat} (h : i < (heldL ns hs).length) : (heldL ns hs)[i] = hRule ns hs i := by simp [heldL]
theorem heldL_nil {ns : List RuleT} : heldL ns [] = ns := by
  refine List.ext_getElem (by simp [heldL]) fun i h1 h2 => ?_
  rw [heldL_get]
  show ns.getD i ([], []) = _
  rw [List.getD_eq_getElem?_getD, List.getElem?_eq_getElem h2]
  rfl
theorem heldL_snoc {ns : List RuleT} {hs : List (Nat × Int)} {p : Nat × Int} (hn : ∀ q ∈ hs, q.1 < p.1) : (heldL ns hs).set p.1 ([], [p.2]) = heldL ns (hs ++ [p]) := by
  refine List.ext_getElem (by simp [heldL]) fun i h1 h2 => ?_
  rw [List.getElem_set, heldL_get, heldL_get]
  unfold hRule
  rw [bitAt_snoc]
  by_cases c : p.1 = i
  · subst c
    rw [if_pos rfl, bitAt_none fun q hq => Nat.ne_of_lt (hn q hq)]
    simp
  · rw [if_neg c]
    cases e : bitAt hs i with
    | some b => rfl
    | none => simp [c]
theorem held_net {ns : List RuleT} {hs : List (Nat × Int)} {most : Nat} (ok : NetOk ns most) (h : HoldsOk ns.length hs) : NetOk (heldL ns hs) most := by
  refine ⟨by rw [heldL_len]; exact ok.pos, by rw [heldL_len]; exact ok.le, fun r hr => ?_⟩
  rw [heldL_len]
  obtain ⟨k, hk, rfl⟩ := List.mem_map.mp hr
  have hk := List.mem_range.mp hk
  unfold hRule
  cases e : bitAt hs k with
  | none => exact ok.lk hk
  | some b =>
    have hb := bitAt_bit h e
    exact ⟨by simp, ⟨[], rfl, List.nil_sublist _⟩, by simp, fun x hx => by simp at hx; subst hx; exact hb⟩
def lastH (hs : List (Nat × Int)) : Nat → Int
  | 0 => -1
  | i + 1 => ((hs.getD i (0, 0)).1 : Nat)
theorem last_lt {n : Nat} {hs : List (Nat × Int)} (h : HoldsOk n hs) : ∀ {i : Nat} (hi : i < hs.length), lastH hs i < ((hs[i]).1 : Nat)
  | 0, hi => by show (-1 : Int) < _; omega
  | i + 1, hi => by
    have e : lastH hs (i + 1) = ((hs[i]).1 : Nat) := by
      show ((hs.getD i (0, 0)).1 : Int) = _
      rw [List.getD_eq_getElem?_getD, List.getElem?_eq_getElem (by omega)]
      rfl
    have := List.pairwise_iff_getElem.mp h.up i (i + 1) (by omega) hi (by omega)
    omega
theorem are_holds_ok {N : List D} {hs : List (Nat × Int)} (h : HoldsOk N.length hs) (hn : N.length ≤ 1000) : C.g_are_holds [.tup N, HD hs] = .ok (.fr (.bl true)) := by
  have hl := h.len
  have lp := for_idx (tm := tmName 3) (body := C.b_are_holds_1) (vs := [3]) (ws := []) dH hs (fun i => [some (.tup N), some (HD hs), some (.int (lastH hs i)), none]) fun i hi => by
    refine ⟨by simp, ?_⟩
    have l1 := last_lt h hi
    have l2 := h.lt _ (List.getElem_mem hi)
    have l3 := h.bit _ (List.getElem_mem hi)
    have e : lastH hs (i + 1) = ((hs[i]).1 : Nat) := by
      show ((hs.getD i (0, 0)).1 : Int) = _
      rw [List.getD_eq_getElem?_getD, List.getElem?_eq_getElem hi]
      rfl
    rw [e]
    unfold dH
    generalize lastH hs i = la at *
    generalize (hs[i]).1 = k at *
    generalize (hs[i]).2 = b at *
    have a0 : atI [D.int (k : Nat), .int b] 0 = some (.int (k : Nat)) := rfl
    have a1 : atI [D.int (k : Nat), .int b] 1 = some (.int b) := rfl
    have u0 : (0 : Int) ≤ (k : Nat) ∧ ((k : Nat) : Int) < (N.length : Nat) := by omega
    have n2 : neD (.int 2) (.int 2) = .ok (.bl false) := by rw [neD_int]; rfl
    have zn : szOk N.length = true := szOk_of (by omega)
    simp only [turnF, C.b_are_holds_1]
    generalize HD hs = HH at *
    have u1 : decide ((0 : Int) ≤ (k : Nat) ∧ ((k : Nat) : Int) < (N.length : Nat)) = true := decide_eq_true u0
    have u2 : decide ((0 : Int) ≤ b ∧ b < 2) = true := decide_eq_true l3
    have l1' : ¬ ((k : Nat) : Int) ≤ la := by omega
    have iu := is_upto_int (i := (k : Nat)) (m := (N.length : Nat))
    have iu2 := is_upto_int (i := b) (m := 2)
    rw [u1] at iu
    rw [u2] at iu2
    simp [noDit, Y.isTup, ixD, a0, a1, iu, iu2, l1', n2, -is_upto_int]
  have zl : szOk hs.length = true := szOk_of (by omega)
  have lp : forL (tmName 3) C.b_are_holds_1 [3] [] (hs.map dH) [some (.tup N), some (.ftu (hs.map dH)), some (.int (-1)), none] = .ok (.nx, [some (.tup N), some (.ftu (hs.map dH)), some (.int (lastH hs hs.length)), none]) := lp
  have eH : HD hs = .ftu (hs.map dH) := rfl
  rw [eH]
  simp only [C.g_are_holds, C.m_are_holds]
  generalize C.b_are_holds_1 = B at *
  have zl2 : szOk (hs.map dH).length = true := by rw [List.length_map]; exact zl
  generalize hs.map dH = HH at *
  simp [e_fnP, noDit, Y.isTup, zl2, lp]
theorem look_at_holds_ok {N : List D} {hs : List (Nat × Int)} (h : HoldsOk N.length hs) (hn : N.length ≤ 1000) : C.g_look_at_holds [.tup N, HD hs] = .ok (.fr .non) := by
  have a := are_holds_ok h hn
  simp only [C.g_look_at_holds, C.m_look_at_holds]
  simp [e_fnP, a]
theorem held_net_ok {ns : List RuleT} {hs : List (Nat × Int)} (h : HoldsOk ns.length hs) (hn : ns.length ≤ 1000) : C.g_held_net [dNet ns, HD hs] = .ok (.fr (dNet (heldL ns hs))) := by
  have hl := h.len
  have la := look_at_holds_ok (N := ns.map dRule) (hs := hs) (by rw [List.length_map]; exact h) (by rw [List.length_map]; exact hn)
  have la : C.g_look_at_holds [dNet ns, HD hs] = _ := la
  have lp := for_idx (tm := tmTup [3, 4]) (body := C.b_held_net_1) (vs := [3, 4]) (ws := []) dH hs (fun i => [some (dNet ns), some (HD hs), some (.lst ((heldL ns (hs.take i)).map dRule)), none, none]) fun i hi => by
    refine ⟨by simp, ?_⟩
    have l2 := h.lt _ (List.getElem_mem hi)
    have et : hs.take (i + 1) = hs.take i ++ [hs[i]] := List.take_succ_eq_append_getElem hi
    rw [et, ← heldL_snoc (p := hs[i]) fun q hq => by
      obtain ⟨j, hj, rfl⟩ := List.getElem_of_mem hq
      rw [List.length_take] at hj
      rw [List.getElem_take]
      exact List.pairwise_iff_getElem.mp h.up j i (by omega) hi (by omega)]
    have ll : ((heldL ns (hs.take i)).map dRule).length = ns.length := by rw [List.length_map, heldL_len]
    have es : ((heldL ns (hs.take i)).set (hs[i]).1 ([], [(hs[i]).2])).map dRule = ((heldL ns (hs.take i)).map dRule).set (hs[i]).1 (.tup [.tup [], .tup [.int (hs[i]).2]]) := by rw [List.map_set]; rfl
    rw [es]
    unfold dH
    generalize (heldL ns (hs.take i)).map dRule = L at *
    generalize (hs[i]).1 = k at *
    generalize (hs[i]).2 = b at *
    have ix : ixN L.length (k : Nat) = some k := ixN_nat (by omega)
    generalize HD hs = HH at *
    generalize dNet ns = NN at *
    simp only [turnF, C.b_held_net_1]
    simp [ix]
  have lp : forL (tmTup [3, 4]) C.b_held_net_1 [3, 4] [] (hs.map dH) [some (dNet ns), some (.ftu (hs.map dH)), some (.lst ((heldL ns (hs.take 0)).map dRule)), none, none] = .ok (.nx, [some (dNet ns), some (.ftu (hs.map dH)), some (.lst ((heldL ns (hs.take hs.length)).map dRule)), none, none]) := lp
  rw [List.take_length, List.take_zero, heldL_nil] at lp
  have zl : szOk (hs.map dH).length = true := szOk_of (by rw [List.length_map]; omega)
  have ed : dNet (heldL ns hs) = .tup ((heldL ns hs).map dRule) := rfl
  have en : dNet ns = .tup (ns.map dRule) := rfl
  have eH : HD hs = .ftu (hs.map dH) := rfl
  rw [en] at la lp
  rw [eH] at la
  rw [ed, en, eH]
  simp only [C.g_held_net, C.m_held_net]
  generalize C.b_held_net_1 = B at *
  generalize (heldL ns hs).map dRule = LR at *
  generalize hs.map dH = HH at *
  generalize ns.map dRule = NR at *
  simp [e_fnP, la, zl, lp, shAt, chkO_ws]
theorem for_enumH {α : Type} {tm : GM} {body : SM} {vs ws : List Nat} (f : α → D) (xs : List α) (rho : Nat → Y.Env) (h : ∀ i (hi : i < xs.length), (∀ w ∈ ws, (rho (i + 1))[w]? = (rho i)[w]?) ∧ turnF tm body vs (.tup [.int (i : Nat), f xs[i]]) (rho i) = .ok (.nx, rho (i + 1))) :
    forL tm body vs ws (numD (xs.map f)) (rho 0) = .ok (.nx, rho xs.length) := by
  rw [numD_map]
  have lz : ((List.range xs.length).zip xs).length = xs.length := by rw [List.length_zip, List.length_range, Nat.min_self]
  have := for_idx (tm := tm) (body := body) (vs := vs) (ws := ws) (fun p : Nat × α => D.tup [.int (p.1 : Nat), f p.2]) ((List.range xs.length).zip xs) rho fun i hi => by
    have hi2 : i < xs.length := by rw [lz] at hi; exact hi
    rw [List.getElem_zip, List.getElem_range]
    exact h i hi2
  rw [lz] at this
  exact this
theorem prs_holds : ∀ {hs : List (Nat × Int)}, prsD (hs.map dH) = some (hs.map fun p => (.int (p.1 : Nat), .int p.2))
  | [] => rfl
  | p :: hs => by
    have ih := prs_holds (hs := hs)
    show (prsD (hs.map dH)).map _ = _
    rw [ih]
    rfl
theorem keys_holds : ∀ {hs : List (Nat × Int)}, keysOf (hs.map fun p => D.int (p.1 : Nat)) = some (hs.map fun p => (Sum.inl ((p.1 : Nat) : Int) : Key))
  | [] => rfl
  | p :: hs => by
    have ih := keys_holds (hs := hs)
    show (match keyOf (D.int (p.1 : Nat)) with | some k => (keysOf (hs.map fun q : Nat × Int => D.int (q.1 : Nat))).map (k :: ·) | none => none) = _
    rw [ih]
    rfl
theorem find_holds : ∀ {hs : List (Nat × Int)} {k : Nat}, findD (hs.map fun p => (Sum.inl ((p.1 : Nat) : Int) : Key)) (hs.map fun p => D.int p.2) (Sum.inl (k : Int)) = (bitAt hs k).map D.int
  | [], _ => rfl
  | p :: hs, k => by
    have ih := find_holds (hs := hs) (k := k)
    show (if (Sum.inl ((p.1 : Nat) : Int) : Key) = Sum.inl (k : Int) then some (D.int p.2) else findD (hs.map fun p => (Sum.inl ((p.1 : Nat) : Int) : Key)) (hs.map fun p => D.int p.2) (Sum.inl (k : Int))) = _
    rw [ih]
    unfold bitAt
    by_cases c : p.1 = k
    · simp [c]
    · have c2 : (p.1 == k) = false := by simpa using c
      have c3 : ¬ ((p.1 : Nat) : Int) = k := by omega
      simp [c3, List.find?_cons, c2]
theorem dict_holds {n : Nat} {hs : List (Nat × Int)} (h : HoldsOk n hs) : dictFD [HD hs] = .ok (.dik (hs.map fun p : Nat × Int => (Sum.inl ((p.1 : Nat) : Int) : Key)) (hs.map fun p => D.int p.2)) := by
  have nd : (hs.map fun p => (Sum.inl ((p.1 : Nat) : Int) : Key)).Nodup := List.pairwise_map.mpr (h.up.imp fun {a b} hab e => by
    have := Sum.inl.inj e
    omega)
  have e1 : (hs.map fun p : Nat × Int => ((D.int (p.1 : Nat), D.int p.2) : D × D)).map (·.1) = hs.map fun p => D.int (p.1 : Nat) := by rw [List.map_map]; rfl
  have e2 : (hs.map fun p : Nat × Int => ((D.int (p.1 : Nat), D.int p.2) : D × D)).map (·.2) = hs.map fun p => D.int p.2 := by rw [List.map_map]; rfl
  rw [d_dictF, prs_holds]
  dsimp only
  rw [e1, keys_holds]
  dsimp only
  rw [if_pos nd, e2]
theorem law_held_ok {ns : List RuleT} {hs : List (Nat × Int)} (h : HoldsOk ns.length hs) (hn : ns.length ≤ 1000) : C.g__law_held [dNet ns, HD hs] = .ok (.fr (dNet (heldL ns hs))) := by
  have dh := dict_holds h
  have gd : ∀ k : Nat, getDic (.dik (hs.map fun p : Nat × Int => (Sum.inl ((p.1 : Nat) : Int) : Key)) (hs.map fun p => D.int p.2)) (.int k) = .ok ((bitAt hs k).map D.int) := fun k => by
    show (match keyOf (D.int (k : Nat)) with | some k => R.ok (findD _ _ k) | none => .stk) = _
    show R.ok (findD _ _ (Sum.inl (k : Int))) = _
    rw [find_holds]
  generalize hB : D.dik (hs.map fun p : Nat × Int => (Sum.inl ((p.1 : Nat) : Int) : Key)) (hs.map fun p => D.int p.2) = BD at *
  have lp := for_enumH (tm := tmTup [4, 5]) (body := C.b__law_held_1) (vs := [4, 5]) (ws := []) dRule ns (fun i => [some (dNet ns), some (HD hs), some BD, some (.lst (((heldL ns hs).take i).map dRule)), none, none]) fun i hi => by
    refine ⟨by simp, ?_⟩
    have hi2 : i < (heldL ns hs).length := by rw [heldL_len]; exact hi
    have et : (heldL ns hs).take (i + 1) = (heldL ns hs).take i ++ [hRule ns hs i] := by rw [List.take_succ_eq_append_getElem hi2, heldL_get]
    rw [et, List.map_append]
    have zl : szOk (((heldL ns hs).take i).map dRule).length = true := szOk_of (by rw [List.length_map, List.length_take]; omega)
    have zl1 : szOk ((((heldL ns hs).take i).map dRule).length + 1) = true := szOk_of (by rw [List.length_map, List.length_take]; omega)
    have g := gd i
    have er : hRule ns hs i = match bitAt hs i with | some b => ([], [b]) | none => ns[i] := by
      unfold hRule
      have : ns.getD i ([], []) = ns[i] := by rw [List.getD_eq_getElem?_getD, List.getElem?_eq_getElem hi]; rfl
      rw [this]
    rw [er]
    generalize ((heldL ns hs).take i).map dRule = L at *
    generalize HD hs = HH at *
    generalize dNet ns = NN at *
    generalize ns[i] = r at *
    simp only [turnF, C.b__law_held_1]
    cases c : bitAt hs i with
    | none =>
      rw [c] at g
      have e1 : List.map dRule [r] = [dRule r] := rfl
      rw [e1]
      generalize dRule r = RD at *
      simp [g, zl1]
    | some b =>
      rw [c] at g
      have e1 : List.map dRule [(([], [b]) : RuleT)] = [.tup [.tup [], .tup [.int b]]] := rfl
      rw [e1]
      generalize dRule r = RD at *
      simp [g, zl1]
  have lp : forL (tmTup [4, 5]) C.b__law_held_1 [4, 5] [] (numD (ns.map dRule)) [some (dNet ns), some (HD hs), some BD, some (.lst []), none, none] = .ok (.nx, [some (dNet ns), some (HD hs), some BD, some (.lst (((heldL ns hs).take ns.length).map dRule)), none, none]) := lp
  rw [List.take_of_length_le (by rw [heldL_len]; exact Nat.le_refl _)] at lp
  have en : dNet ns = .tup (ns.map dRule) := rfl
  have ed : dNet (heldL ns hs) = .tup ((heldL ns hs).map dRule) := rfl
  rw [en] at lp
  rw [ed, en]
  have zn : szOk (numD (ns.map dRule)).length = true := szOk_of (by rw [numD_len, List.length_map]; omega)
  have it : itD (.tup (ns.map dRule)) = .ok (ns.map dRule) := rfl
  generalize hN : numD (ns.map dRule) = ND at *
  generalize HD hs = HH at *
  generalize (heldL ns hs).map dRule = LR at *
  simp only [C.g__law_held, C.m__law_held]
  generalize C.b__law_held_1 = B at *
  generalize ns.map dRule = NR at *
  simp [e_fnP, dh, it, hN, zn, lp, shAt, chkO_ws, -numD_len]
def hN (n : Int) (st : List Int) : Nat → List (Nat × Int) × Int
  | 0 => ([], n)
  | i + 1 => if (hN n st i).2 % 2 = 0 then ((hN n st i).1 ++ [(i, st.getD i 0)], (hN n st i).2 / 2) else ((hN n st i).1, (hN n st i).2 / 2)
theorem enum_holds {m : Nat} {st : List Int} (hs : IsSt m st) : ∃ hl : List (Nat × Int), numD (st.map D.int) = hl.map dH ∧ HoldsOk m hl := by
  refine ⟨(List.range st.length).zip st, numD_map, ⟨?_, fun p hp => ?_, fun p hp => ?_⟩⟩
  · rw [List.pairwise_iff_getElem]
    intro i j hi hj hij
    rw [List.getElem_zip, List.getElem_zip, List.getElem_range, List.getElem_range]
    exact hij
  · have := List.mem_range.mp (List.of_mem_zip hp).1
    rw [hs.len] at this
    exact this
  · exact hs.bit _ (List.of_mem_zip hp).2
end H

set_option Elab.async false
set_option linter.all false
set_option maxRecDepth 100000
namespace H
open PySem PySem.Spec PyProof.Rows L2 Y
end H

set_option Elab.async false
set_option linter.all false
set_option maxRecDepth 100000
set_option maxHeartbeats 2000000
namespace H
open PySem PySem.Spec PyProof.Rows L2 Y
end H

set_option Elab.async false
set_option linter.all false
set_option maxRecDepth 100000
namespace H
open PySem PySem.Spec PyProof.Rows L2 Y
abbrev Sq (XD : D) (X : List D) : Prop := XD = .tup X ∨ XD = .ftu X
theorem sq_it {XD : D} {X : List D} (h : Sq XD X) : itD XD = .ok X := by rcases h with rfl | rfl <;> rfl
def frH (n : Nat) (hs : List (Nat × Int)) : List Nat := hs.foldl (fun f p => sign f p.1 (48 + p.2.toNat)) (List.replicate n 45)
theorem frH_snoc {n : Nat} {hs : List (Nat × Int)} {p : Nat × Int} : frH n (hs ++ [p]) = sign (frH n hs) p.1 (48 + p.2.toNat) := by
  unfold frH
  rw [List.foldl_append]
  rfl
theorem frH_ok {n : Nat} : ∀ {hs : List (Nat × Int)} {f : List Nat}, CaseOk n f → (∀ p ∈ hs, p.1 < n ∧ 0 ≤ p.2 ∧ p.2 < 2) → CaseOk n (hs.foldl (fun f p => sign f p.1 (48 + p.2.toNat)) f)
  | [], _, hf, _ => hf
  | p :: hs, f, hf, h => by
    have b := h p (by simp)
    exact frH_ok (f := sign f p.1 (48 + p.2.toNat)) (sign_ok hf b.1 (show 48 + p.2.toNat = 45 ∨ 48 + p.2.toNat = 48 ∨ 48 + p.2.toNat = 49 by omega)) fun q hq => h q (by simp [hq])
theorem rep_case {n : Nat} : CaseOk n (List.replicate n 45) := ⟨by simp, fun c hc => .inl (List.mem_replicate.mp hc).2⟩
theorem dash_mul {n : Nat} (hn : n ≤ 1000) : mulD (.str "-") (.int n) = .ok (dt (List.replicate n 45)) := by
  have e : (Str.ofString "-") = tx [45] := rfl
  show mulD (.str (Str.ofString "-")) (.int n) = _
  rw [e, d_mulS, if_pos, rep_tx]
  · rfl
  · have : (tx [45]).length = 1 := rfl
    refine ⟨by omega, by omega, ?_⟩
    rw [this]
    exact szOk_of (by omega)
theorem frame_of_ok {ns : List RuleT} {hs : List (Nat × Int)} {XD : D} (hx : Sq XD (hs.map dH)) (h : HoldsOk ns.length hs) (hn : ns.length ≤ 20) : C.g_frame_of [dNet ns, XD] = .ok (.vl (dt (frH ns.length hs))) ∧ CaseOk ns.length (frH ns.length hs) := by
  have hl := h.len
  have iX := sq_it hx
  have okT : ∀ i, CaseOk ns.length (frH ns.length (hs.take i)) := fun i => frH_ok rep_case fun p hp => ⟨h.lt p (List.mem_of_mem_take hp), h.bit p (List.mem_of_mem_take hp)⟩
  refine ⟨?_, by have := okT hs.length; rwa [List.take_length] at this⟩
  have lp := for_idx (tm := tmTup [3, 4]) (body := C.b_frame_of_1) (vs := [3, 4]) (ws := []) dH hs (fun i => [some (dNet ns), some XD, some (dt (frH ns.length (hs.take i))), none, none]) fun i hi => by
    refine ⟨by simp, ?_⟩
    have l2 := h.lt _ (List.getElem_mem hi)
    have l3 := h.bit _ (List.getElem_mem hi)
    have et : hs.take (i + 1) = hs.take i ++ [hs[i]] := List.take_succ_eq_append_getElem hi
    have w := (with_sign_ok (c := 48 + (hs[i]).2.toNat) (by omega) (okT i) l2).1
    rw [et, frH_snoc]
    have sb : strOfD [.int (hs[i]).2] = .ok (dt [48 + (hs[i]).2.toNat]) := str_bit l3
    unfold dH
    generalize frH ns.length (hs.take i) = f at *
    generalize sign f (hs[i]).1 (48 + (hs[i]).2.toNat) = g at *
    generalize (hs[i]).1 = k at *
    generalize (hs[i]).2 = b at *
    generalize dNet ns = N at *
    simp only [turnF, C.b_frame_of_1]
    simp [sb, w]
  have lp : forL (tmTup [3, 4]) C.b_frame_of_1 [3, 4] [] (hs.map dH) [some (dNet ns), some XD, some (dt (List.replicate ns.length 45)), none, none] = .ok (.nx, [some (dNet ns), some XD, some (dt (frH ns.length (hs.take hs.length))), none, none]) := lp
  rw [List.take_length] at lp
  have zl : szOk (hs.map dH).length = true := szOk_of (by rw [List.length_map]; omega)
  have ln : lenD [dNet ns] = .ok (.int ns.length) := by simp
  have dm := dash_mul (n := ns.length) (by omega)
  simp only [C.g_frame_of, C.m_frame_of]
  generalize C.b_frame_of_1 = B at *
  generalize hs.map dH = HH at *
  generalize dNet ns = N at *
  generalize dt (List.replicate ns.length 45) = F0 at *
  generalize dt (frH ns.length hs) = F1 at *
  clear hx okT
  simp [e_fnP, ln, dm, iX, zl, lp, -d_mulS]
end H

set_option Elab.async false
set_option linter.all false
set_option maxRecDepth 100000
set_option maxHeartbeats 2000000
namespace H
open PySem PySem.Spec PyProof.Rows L2 Y
theorem nd_pair {x y : D} (h1 : Nd 1 x) (h2 : Nd 1 y) : Nd 2 (.tup [x, y]) := nd_tup (by simp) fun z hz => by
  simp only [List.mem_cons, List.not_mem_nil, or_false] at hz
  rcases hz with rfl | rfl <;> assumption
end H

set_option Elab.async false
set_option linter.all false
set_option maxRecDepth 100000
set_option maxHeartbeats 2000000
namespace H
open PySem PySem.Spec PyProof.Rows L2 Y
end H

set_option Elab.async false
set_option linter.all false
set_option maxRecDepth 100000
set_option maxHeartbeats 2000000
namespace H
open PySem PySem.Spec PyProof.Rows L2 Y
def bitsC (c : Nat) : List Int := if c = 45 then [0, 1] else [(c : Int) - 48]
def stepW (L : List Int) (c : Nat) : List Int := L.flatMap fun p => (bitsC c).map fun b => 2 * p + b
def placesW (cs : List Nat) : List Int := cs.foldl stepW [0]
theorem mem_stepW {L : List Int} {c : Nat} {q : Int} : q ∈ stepW L c ↔ q ∈ stepP L c := by
  unfold stepW stepP bitsC
  rw [List.mem_flatMap]
  by_cases e : c = 45
  · rw [if_pos e, if_pos e, List.mem_append, List.mem_map, List.mem_map]
    constructor
    · rintro ⟨p, hp, h⟩
      simp at h
      rcases h with rfl | rfl
      · exact .inl ⟨p, hp, by omega⟩
      · exact .inr ⟨p, hp, rfl⟩
    · rintro (⟨p, hp, rfl⟩ | ⟨p, hp, rfl⟩)
      · exact ⟨p, hp, by simp⟩
      · exact ⟨p, hp, by simp⟩
  · rw [if_neg e, if_neg e, List.mem_map]
    constructor
    · rintro ⟨p, hp, h⟩
      simp at h
      exact ⟨p, hp, by omega⟩
    · rintro ⟨p, hp, rfl⟩
      exact ⟨p, hp, by simp⟩
theorem stepP_congr {A B : List Int} {c : Nat} (h : ∀ q, q ∈ A ↔ q ∈ B) (q : Int) : q ∈ stepP A c ↔ q ∈ stepP B c := by
  rw [← mem_stepW, ← mem_stepW]
  unfold stepW
  rw [List.mem_flatMap, List.mem_flatMap]
  exact ⟨fun ⟨p, hp, z⟩ => ⟨p, (h p).mp hp, z⟩, fun ⟨p, hp, z⟩ => ⟨p, (h p).mpr hp, z⟩⟩
theorem fold_places : ∀ {cs : List Nat} {A B : List Int}, (∀ q, q ∈ A ↔ q ∈ B) → ∀ q, q ∈ cs.foldl stepW A ↔ q ∈ cs.foldl stepP B
  | [], _, _, h, q => h q
  | c :: cs, A, B, h, q => fold_places (cs := cs) (A := stepW A c) (B := stepP B c) (fun q => mem_stepW.trans (stepP_congr h q)) q
theorem mem_placesW {cs : List Nat} (q : Int) : q ∈ placesW cs ↔ q ∈ placesI cs := fold_places (fun _ => Iff.rfl) q
theorem bitsC_len {c : Nat} : (bitsC c).length ≤ 2 := by unfold bitsC; split <;> simp
theorem flatW_len {c : Nat} : ∀ {L : List Int}, (stepW L c).length ≤ 2 * L.length
  | [] => by simp [stepW]
  | p :: L => by
    have ih := flatW_len (c := c) (L := L)
    have e : stepW (p :: L) c = ((bitsC c).map fun b => 2 * p + b) ++ stepW L c := rfl
    have := bitsC_len (c := c)
    rw [e, List.length_append, List.length_map, List.length_cons]
    omega
theorem placesW_len {cs : List Nat} : (placesW cs).length ≤ 2 ^ cs.length := by
  have : ∀ (cs : List Nat) (A : List Int), (cs.foldl stepW A).length ≤ A.length * 2 ^ cs.length := fun cs => by
    induction cs with
    | nil => intro A; simp
    | cons c cs ih =>
      intro A
      have h := ih (stepW A c)
      have h2 := flatW_len (c := c) (L := A)
      rw [List.length_cons, Nat.pow_succ]
      show (cs.foldl stepW (stepW A c)).length ≤ _
      refine Nat.le_trans h ?_
      calc (stepW A c).length * 2 ^ cs.length ≤ (2 * A.length) * 2 ^ cs.length := Nat.mul_le_mul_right _ h2
        _ = A.length * (2 ^ cs.length * 2) := by rw [Nat.mul_comm 2, Nat.mul_assoc, Nat.mul_comm 2]
  have := this cs [0]
  rw [List.length_singleton, Nat.one_mul] at this
  exact this
theorem ix01 {c : Nat} (hc : c = 45 ∨ c = 48 ∨ c = 49) : ∃ k : Nat, indexD (.str "01-") (dt [c]) = .ok (.int (k : Nat)) ∧ ixD (.lst [.lst [.int 0], .lst [.int 1], .lst [.int 0, .int 1]]) (.int (k : Nat)) = .ok (li (bitsC c)) := by
  have key : ∀ (c k : Nat), Builtin.Str.occurrences (Str.ofString "01-") (tx [c]) 0 (Str.ofString "01-").length 1 = [k] → indexD (.str "01-") (dt [c]) = .ok (.int (k : Nat)) := fun c k o => by
    show (match Builtin.Str.occurrences (Str.ofString "01-") (tx [c]) 0 (Str.ofString "01-").length 1 with | i :: _ => R.ok (D.int (i : Nat)) | [] => .stk) = _
    rw [o]
  rcases hc with rfl | rfl | rfl
  · exact ⟨2, key 45 2 (by decide +kernel), rfl⟩
  · exact ⟨0, key 48 0 (by decide +kernel), rfl⟩
  · exact ⟨1, key 49 1 (by decide +kernel), rfl⟩
theorem law_placesW_ok {cs : List Nat} {T : D} (hl : cs.length ≤ 20) (hc : ∀ c ∈ cs, c = 45 ∨ c = 48 ∨ c = 49) (hT : itD T = .ok (cs.map fun c => dt [c])) : C.g__law_places_2 [T] = .ok (.vl (li (placesW cs))) := by
  have h := for_idx (tm := tmName 2) (body := C.b__law_places_2_2) (vs := [2, 3, 4, 5]) (ws := []) (fun c : Nat => dt [c]) cs (fun i => [some T, some (li (placesW (cs.take i))), none, none, none, none, none]) fun i hi => by
    refine ⟨by simp, ?_⟩
    have hx := hc _ (List.getElem_mem hi)
    have z1 : (placesW (cs.take i)).length ≤ 2 ^ 20 := Nat.le_trans placesW_len (Nat.pow_le_pow_right (by omega) (by rw [List.length_take]; omega))
    have e1 : placesW (cs.take (i + 1)) = stepW (placesW (cs.take i)) cs[i] := by
      rw [placesW, List.take_succ_eq_append_getElem hi, List.foldl_append]
      rfl
    rw [e1]
    generalize placesW (cs.take i) = L at z1
    generalize cs[i] = c at hx
    obtain ⟨k, x1, x2⟩ := ix01 hx
    have lb := bitsC_len (c := c)
    have lp := for_idx (tm := tmName 5) (body := C.b__law_places_2_1) (vs := [5]) (ws := []) D.int L (fun j => [some T, some (li L), some (dt [c]), some (li (bitsC c)), some (li (stepW (L.take j) c)), none, none]) fun j hj => by
      refine ⟨by simp, ?_⟩
      have e2 : stepW (L.take (j + 1)) c = stepW (L.take j) c ++ (bitsC c).map fun b => 2 * L[j] + b := by
        rw [stepW, List.take_succ_eq_append_getElem hj, List.flatMap_append]
        simp [stepW]
      rw [e2]
      have zl := flatW_len (c := c) (L := L.take j)
      rw [List.length_take] at zl
      have cm := comp_map (tm := tmName 6) (t := cYes) (e := C.e__law_places_2_1) (vs := [6]) (ws := []) (ρ := [some T, some (li L), some (dt [c]), some (li (bitsC c)), some (li (stepW (L.take j) c)), some (.int L[j]), none]) D.int (fun b => D.int (2 * L[j] + b)) (bitsC c) fun b hb => by
        have : mulOk 2 L[j] = true := mulOk_l (by decide)
        generalize stepW (L.take j) c = ST at *
        generalize L[j] = p at *
        simp only [turnC, C.e__law_places_2_1]
        simp [this]
      have e3 : ((bitsC c).map fun b => D.int (2 * L[j] + b)) = ((bitsC c).map fun b => 2 * L[j] + b).map D.int := by rw [List.map_map]; rfl
      rw [e3] at cm
      have e4 : li (stepW (L.take j) c ++ (bitsC c).map fun b => 2 * L[j] + b) = .lst ((stepW (L.take j) c).map D.int ++ ((bitsC c).map fun b => 2 * L[j] + b).map D.int) := by
        show D.lst _ = _
        rw [List.map_append]
      rw [e4]
      have zz : szOk ((((stepW (L.take j) c).map D.int).length + (((bitsC c).map fun b => 2 * L[j] + b).map D.int).length)) = true := szOk_of (by rw [List.length_map, List.length_map, List.length_map]; omega)
      have zb : szOk ((bitsC c).map D.int).length = true := szOk_of (by rw [List.length_map]; omega)
      have e5 : li (stepW (L.take j) c) = .lst ((stepW (L.take j) c).map D.int) := rfl
      have e6 : li (bitsC c) = .lst ((bitsC c).map D.int) := rfl
      rw [e5, e6] at cm ⊢
      generalize ((bitsC c).map fun b => 2 * L[j] + b).map D.int = NB at *
      generalize (bitsC c).map D.int = BB at *
      generalize (stepW (L.take j) c).map D.int = SS at *
      generalize L[j] = p at *
      generalize li L = LL at *
      generalize dt [c] = CC at *
      simp only [turnF, C.b__law_places_2_1]
      generalize C.e__law_places_2_1 = E1 at *
      simp [zb, cm, zz]
    rw [List.take_length] at lp
    have lp : forL (tmName 5) C.b__law_places_2_1 [5] [] (L.map D.int) [some T, some (li L), some (dt [c]), some (li (bitsC c)), some (.lst []), none, none] = .ok (.nx, [some T, some (li L), some (dt [c]), some (li (bitsC c)), some (.lst ((stepW L c).map D.int)), none, none]) := lp
    have zL : szOk (L.map D.int).length = true := szOk_of (by rw [List.length_map]; omega)
    have eL : li L = .lst (L.map D.int) := rfl
    have eS : li (stepW L c) = .lst ((stepW L c).map D.int) := rfl
    rw [eL] at lp
    rw [eL, eS]
    generalize (stepW L c).map D.int = SD at *
    generalize L.map D.int = LD at *
    generalize dt [c] = CC at *
    generalize li (bitsC c) = BC at *
    simp only [turnF, C.b__law_places_2_2]
    generalize C.b__law_places_2_1 = B1 at *
    simp [x1, x2, zL, lp, szOk_of]
  rw [List.take_length] at h
  have h : forL (tmName 2) C.b__law_places_2_2 [2, 3, 4, 5] [] (cs.map fun c => dt [c]) [some T, some (.lst [.int 0]), none, none, none, none, none] = .ok (.nx, [some T, some (li (placesW cs)), none, none, none, none, none]) := h
  have z : szOk (cs.map fun c => dt [c]).length = true := szOk_of (by rw [List.length_map]; omega)
  simp only [C.g__law_places_2, C.m__law_places_2]
  generalize C.b__law_places_2_2 = B at h ⊢
  generalize li (placesW cs) = PW at *
  generalize (cs.map fun c => dt [c]) = CS at *
  simp [e_fnP, hT, z, h, szOk_of]
end H

set_option Elab.async false
set_option linter.all false
set_option maxRecDepth 100000
set_option maxHeartbeats 2000000
namespace H
open PySem PySem.Spec PyProof.Rows L2 Y
def pourN (ns : List RuleT) : Nat → List Nat → List (List Nat) → List Nat × List (List Nat)
  | 0, f, L => (f, L)
  | n + 1, f, L => if (toldI ns f).isEmpty = true then (f, L) else pourN ns n (closeS ns f f (toldI ns f)) (L ++ [toldI ns f])
/-- what poured tells -/
def pourR (ns : List RuleT) (hs : List (Nat × Int)) : List Nat × List (List Nat) := pourN (heldL ns hs) (dash (frH ns.length hs) + 1) (frH ns.length hs) [hs.map (·.1)]
theorem dash_len8 {n : Nat} {f : List Nat} (h : CaseOk n f) : dash f ≤ n := by
  have : dash f ≤ f.length := List.length_filter_le _ _
  rw [h.len] at this
  exact this
theorem closeS_get {ns : List RuleT} {m : Nat} {f : List Nat} : ∀ {ks : List Nat} {g : List Nat}, g.length = m → (∀ k ∈ ks, k < m) → ∀ j, (closeS ns f g ks).getD j 0 = if j ∈ ks then sgOf ns f j else g.getD j 0
  | [], g, _, _, j => by simp [closeS]
  | k :: ks, g, hg, h, j => by
    have hk := h k (by simp)
    have lg : (sign g k (sgOf ns f k)).length = m := by
      unfold sign
      rw [List.length_append, List.length_take, List.length_cons, List.length_drop]
      omega
    have e : closeS ns f g (k :: ks) = closeS ns f (sign g k (sgOf ns f k)) ks := rfl
    rw [e, closeS_get lg (fun k hk => h k (by simp [hk])) j, sign_getD hg hk]
    by_cases c1 : j ∈ ks
    · simp [c1]
    · by_cases c2 : j = k
      · subst c2; simp
      · simp [c1, c2]
def o4f (o : Option D) : Nat → Option D
  | 0 => o
  | j + 1 => some (.int (j : Nat))
def o4h (hs : List (Nat × Int)) : Nat → Option D
  | 0 => none
  | i + 1 => some (.int ((hs.getD i (0, 0)).1 : Nat))
theorem chk_74 {a b c d o4 : Option D} : chkO [6] [] [a, b, c, d, o4, none, none, none, none] [a, b, c, d, none, none, none, none, none] = .ok () :=
  chkO_of ⟨.inr (.inl ⟨rfl, by decide⟩), .inr (.inl ⟨rfl, by decide⟩), .inr (.inl ⟨rfl, by decide⟩), .inr (.inl ⟨rfl, by decide⟩), .inl rfl, .inl rfl, .inl rfl, .inl rfl, .inl rfl, trivial⟩
end H

set_option Elab.async false
set_option linter.all false
set_option maxRecDepth 100000
set_option maxHeartbeats 2000000
namespace H
open PySem PySem.Spec PyProof.Rows L2 Y
end H

set_option Elab.async false
set_option linter.all false
set_option maxRecDepth 100000
set_option maxHeartbeats 2000000
namespace H
open PySem PySem.Spec PyProof.Rows L2 Y
theorem law_close76 {ns : List RuleT} {most m : Nat} {f : List Nat} (ok : NetOk ns most) (hm : most ≤ 11) (hf : CaseOk ns.length f) (r0 r1 o4 r6 : Option D) :
    forL (tmName 4) C.b__law_poured_2 [8] [] ((List.range ns.length).map fun j : Nat => D.int (j : Nat)) [r0, r1, some (dNet ns), some (dt f), o4, none, r6, some (dt f), none] = .ok (.nx, [r0, r1, some (dNet ns), some (dt f), o4f o4 ns.length, none, r6, some (dt (closeS ns f f (toldI ns f))), none]) := by
  have le := ok.le
  refine for_rng (n := ns.length) (fun j : Nat => D.int (j : Nat)) (fun j => [r0, r1, some (dNet ns), some (dt f), o4f o4 j, none, r6, some (dt (closeS ns f f ((List.range j).filter (oneB ns f)))), none]) fun j hj => ?_
  have b := law_bits_ok ok (by omega) hf hj
  have i1 := ix_dt (l := f) (k := j) (by have := hf.len; omega) (by have := hf.len; omega)
  have sg := getD_sg hf.sg (j := j) (by have := hf.len; omega)
  have e1 := eq_dt (a := [f.getD j 0]) (b := [45]) (sg1 (by omega)) (sg1 (by omega))
  refine ⟨by simp, ?_⟩
  have ef : (List.range (j + 1)).filter (oneB ns f) = (List.range j).filter (oneB ns f) ++ (if oneB ns f j = true then [j] else []) := filter_snoc
  obtain ⟨hg, _⟩ := closeS_ok ok hf (ks := (List.range j).filter (oneB ns f)) hf ((List.filter_sublist).nodup List.nodup_range) fun k hk => by
    obtain ⟨h1, h2⟩ := List.mem_filter.mp hk
    refine ⟨Nat.lt_trans (List.mem_range.mp h1) hj, h2, ?_⟩
    unfold oneB at h2
    rw [Bool.and_eq_true] at h2
    exact of_decide_eq_true h2.1
  have w := (with_sign_ok (m := ns.length) (c := sgOf ns f j) (by omega) hg hj).2
  have ec : closeS ns f f ((List.range j).filter (oneB ns f) ++ [j]) = sign (closeS ns f f ((List.range j).filter (oneB ns f))) j (sgOf ns f j) := by
    unfold closeS
    rw [List.foldl_append]
    rfl
  rw [ef]
  have eo : oneB ns f j = (decide (f.getD j 0 = 45) && decide ((bitsF ns f j).length = 1)) := rfl
  have at0 : (bitsF ns f j).length = 1 → atI ((bitsF ns f j).map D.int) 0 = some (.int (bitOf ns f j)) := fun q => by
    rw [(bitOf_bit ok hf hj q).2]
    exact atI_of (j := 0) rfl rfl
  have sb : (bitsF ns f j).length = 1 → strOfD [.int (bitOf ns f j)] = .ok (dt [sgOf ns f j]) := fun q => str_bit (bitOf_bit ok hf hj q).1
  have o5 : o4f o4 (j + 1) = some (.int (j : Nat)) := rfl
  rw [o5]
  simp only [turnF, C.b__law_poured_2, s_dash]
  rw [eo]
  have two := bitsF_two ok hf hj
  generalize (List.range j).filter (oneB ns f) = L at *
  generalize f.getD j 0 = c at *
  generalize o4f o4 j = o6 at *
  by_cases c1 : c = 45
  · subst c1
    by_cases c2 : (bitsF ns f j).length = 1
    · have at0 := at0 c2
      have sb := sb c2
      have c3 : ((bitsF ns f j).length : Int) = 1 := by omega
      simp [b, i1, e1, c2, c3, at0, sb, w, ec, szOk_of]
    · have c3 : ¬ ((bitsF ns f j).length : Int) = 1 := by omega
      have zb : szOk (bitsF ns f j).length = true := szOk_of (by omega)
      simp [b, i1, e1, c2, c3, zb, szOk_of]
  · simp [b, i1, e1, c1, szOk_of]
theorem law_goN76 {ns : List RuleT} {most : Nat} (ok : NetOk ns most) (hm : most ≤ 11) {N0 : D} (hN : lenD [N0] = .ok (.int ns.length)) {r1 : Option D} : ∀ (n : Nat) (f : List Nat) (L : List (List Nat)), dash f < n → CaseOk ns.length f → L.length + n ≤ 1000 →
    ∃ ρ, whileN (cTru (cC (.bl true))) C.b__law_poured_3 [7, 8] n [some N0, r1, some (dNet ns), some (dt f), none, none, some (.lst (L.map ln')), none, none] = .ok (.rt (.fr (.tup [dt (pourN ns n f L).1, .lst ((pourN ns n f L).2.map ln')])), ρ)
  | 0, f, _, hd, _, _ => by omega
  | n + 1, f, L, hd, hf, hL => by
    have le := ok.le
    obtain ⟨hc, hdc⟩ := close_f ok hf
    have lt := law_close76 (m := 0) ok hm hf (some N0) r1 none (some (.lst (L.map ln')))
    have ee := eq_dt (a := closeS ns f f (toldI ns f)) (b := f) hc.sgok hf.sgok
    have rm : rng1D [.int (ns.length : Nat)] = .ok ((List.range ns.length).map fun j : Nat => D.int (j : Nat)) := by rw [d_rng1, if_pos (rngOk_of (by omega) (by omega))]; rfl
    have zm : szOk ((List.range ns.length).map fun j : Nat => D.int (j : Nat)).length = true := szOk_of (by rw [List.length_map, List.length_range]; omega)
    have ep : pourN ns (n + 1) f L = if (toldI ns f).isEmpty = true then (f, L) else pourN ns n (closeS ns f f (toldI ns f)) (L ++ [toldI ns f]) := rfl
    rw [ep]
    generalize o4f none ns.length = o4 at *
    cases e : (toldI ns f).isEmpty with
    | true =>
      have e0 := List.isEmpty_iff.mp e
      rw [e0] at lt ee
      have e1 : closeS ns f f [] = f := rfl
      rw [e1] at lt ee
      rw [decide_eq_true rfl] at ee
      refine ⟨[some N0, r1, some (dNet ns), some (dt f), o4, none, none, some (dt f), none], ?_⟩
      rw [if_pos rfl]
      have b : C.b__law_poured_3 [some N0, r1, some (dNet ns), some (dt f), none, none, some (.lst (L.map ln')), none, none] = .ok (.rt (.fr (.tup [dt f, .lst (L.map ln')])), [some N0, r1, some (dNet ns), some (dt f), o4, none, none, some (dt f), none]) := by
        generalize L.map ln' = LM at *
        generalize ((List.range ns.length).map fun j : Nat => D.int (j : Nat)) = RG at *
        generalize dNet ns = N2 at *
        generalize dt f = F at *
        simp only [C.b__law_poured_3]
        generalize C.b__law_poured_2 = B at lt ⊢
        simp [hN, rm, zm, lt, ee, -d_rng1]
      unfold whileN
      simp [b]
    | false =>
      have hne : toldI ns f ≠ [] := fun z => by rw [z] at e; cases e
      have lp : 0 < (toldI ns f).length := List.length_pos_iff.mpr hne
      have lf : (toldI ns f).length ≤ ns.length := by
        have := List.length_filter_le (oneB ns f) (List.range ns.length)
        rw [List.length_range] at this
        exact this
      have ne : closeS ns f f (toldI ns f) ≠ f := fun z => by rw [z] at hdc; omega
      rw [decide_eq_false ne] at ee
      obtain ⟨ρ, w1⟩ := law_goN76 ok hm hN (r1 := r1) n (closeS ns f f (toldI ns f)) (L ++ [toldI ns f]) (by omega) hc (by rw [List.length_append, List.length_singleton]; omega)
      refine ⟨ρ, ?_⟩
      rw [if_neg Bool.false_ne_true]
      have zL : szOk ((L.map ln').length + 1) = true := szOk_of (by rw [List.length_map]; omega)
      have cm := comp_filter (tm := tmName 4) (t := C.t__law_poured_2) (e := C.e__law_poured_2) (vs := [4]) (ws := []) (ρ := [some N0, r1, some (dNet ns), some (dt f), none, none, some (.lst (L.map ln')), some (dt (closeS ns f f (toldI ns f))), none]) (fun k : Nat => D.int (k : Nat)) (oneB ns f) (fun k : Nat => D.int (k : Nat)) (List.range ns.length) fun k hk => by
        have hk := List.mem_range.mp hk
        have i1 := ix_dt (l := f) (k := k) (by have := hf.len; omega) (by have := hf.len; omega)
        have i2 := ix_dt (l := closeS ns f f (toldI ns f)) (k := k) (by have := hc.len; omega) (by have := hc.len; omega)
        have cg := closeS_get (ns := ns) (f := f) (ks := toldI ns f) (g := f) hf.len (fun k hk => (told_mem.mp hk).1) k
        have s1 := getD_sg hf.sg (j := k) (by have := hf.len; omega)
        have s2 := getD_sg hc.sg (j := k) (by have := hc.len; omega)
        have nq := ne_dt (a := [f.getD k 0]) (b := [(closeS ns f f (toldI ns f)).getD k 0]) (sg1 (by omega)) (sg1 (by omega))
        have eb : (!decide ([f.getD k 0] = [(closeS ns f f (toldI ns f)).getD k 0])) = oneB ns f k := by
          rw [cg]
          by_cases c : k ∈ toldI ns f
          · have c2 := (told_mem.mp c).2
            rw [if_pos c, c2]
            have c3 : f.getD k 0 = 45 := by
              unfold oneB at c2
              rw [Bool.and_eq_true] at c2
              exact of_decide_eq_true c2.1
            have : ¬ [f.getD k 0] = [sgOf ns f k] := fun z => by
              have z := List.cons.inj z
              unfold sgOf at z
              omega
            rw [decide_eq_false this]
            rfl
          · rw [if_neg c, decide_eq_true rfl]
            cases q : oneB ns f k with
            | false => rfl
            | true => exact absurd (told_mem.mpr ⟨hk, q⟩) c
        rw [eb] at nq
        generalize oneB ns f k = q at *
        generalize dt [f.getD k 0] = A1 at *
        generalize dt [(closeS ns f f (toldI ns f)).getD k 0] = A2 at *
        generalize dt (closeS ns f f (toldI ns f)) = A3 at *
        generalize L.map ln' = LM at *
        generalize dNet ns = N2 at *
        generalize dt f = F at *
        simp only [turnC, C.t__law_poured_2, C.e__law_poured_2]
        cases q <;> simp [i1, i2, nq]
      have eT : ((List.range ns.length).filter (oneB ns f)).map (fun k : Nat => D.int (k : Nat)) = (toldI ns f).map fun k : Nat => D.int (k : Nat) := rfl
      rw [eT] at cm
      have b : C.b__law_poured_3 [some N0, r1, some (dNet ns), some (dt f), none, none, some (.lst (L.map ln')), none, none] = .ok (.nx, [some N0, r1, some (dNet ns), some (dt (closeS ns f f (toldI ns f))), none, none, some (.lst ((L ++ [toldI ns f]).map ln')), some (dt (closeS ns f f (toldI ns f))), none]) := by
        have eA : (L ++ [toldI ns f]).map ln' = L.map ln' ++ [.lst ((toldI ns f).map fun k : Nat => D.int (k : Nat))] := by rw [List.map_append]; rfl
        rw [eA]
        generalize (toldI ns f).map (fun k : Nat => D.int (k : Nat)) = TT at *
        generalize dt (closeS ns f f (toldI ns f)) = A3 at *
        generalize L.map ln' = LM at *
        generalize ((List.range ns.length).map fun j : Nat => D.int (j : Nat)) = RG at *
        generalize dNet ns = N2 at *
        generalize dt f = F at *
        simp only [C.b__law_poured_3]
        generalize C.b__law_poured_2 = B at lt ⊢
        generalize C.t__law_poured_2 = T2 at *
        generalize C.e__law_poured_2 = E2 at *
        simp [hN, rm, zm, lt, ee, cm, zL, -d_rng1]
      have eA : (L ++ [toldI ns f]).map ln' = L.map ln' ++ [ln' (toldI ns f)] := by rw [List.map_append]; rfl
      rw [eA] at w1
      unfold whileN
      simp [b]
      exact w1
theorem law_poured76_ok {ns : List RuleT} {hs : List (Nat × Int)} {most : Nat} (ok : NetOk ns most) (hm : most ≤ 8) (h : HoldsOk ns.length hs) : C.g__law_poured [dNet ns, HD hs] = .ok (.fr (.tup [dt (pourR ns hs).1, .lst ((pourR ns hs).2.map ln')])) := by
  have le := ok.le
  have hl := h.len
  have hd := law_held_ok h (by omega)
  have ok2 := held_net ok h
  have ll := heldL_len (ns := ns) (hs := hs)
  have okT : ∀ i, CaseOk ns.length (frH ns.length (hs.take i)) := fun i => frH_ok rep_case fun p hp => ⟨h.lt p (List.mem_of_mem_take hp), h.bit p (List.mem_of_mem_take hp)⟩
  have fc : CaseOk ns.length (frH ns.length hs) := by have := okT hs.length; rwa [List.take_length] at this
  have fc2 : CaseOk (heldL ns hs).length (frH ns.length hs) := by rw [ll]; exact fc
  have ln : lenD [dNet ns] = .ok (.int ns.length) := by simp
  have lp := for_idx (tm := tmTup [4, 5]) (body := C.b__law_poured_1) (vs := [5]) (ws := []) dH hs (fun i => [some (dNet ns), some (HD hs), some (dNet (heldL ns hs)), some (dt (frH ns.length (hs.take i))), o4h hs i, none, none, none, none]) fun i hi => by
    refine ⟨by simp, ?_⟩
    have l2 := h.lt _ (List.getElem_mem hi)
    have l3 := h.bit _ (List.getElem_mem hi)
    have et : hs.take (i + 1) = hs.take i ++ [hs[i]] := List.take_succ_eq_append_getElem hi
    have w := (with_sign_ok (c := 48 + (hs[i]).2.toNat) (by omega) (okT i) l2).2
    have eo : o4h hs (i + 1) = some (.int ((hs[i]).1 : Nat)) := by
      show some (D.int ((hs.getD i (0, 0)).1 : Nat)) = _
      rw [List.getD_eq_getElem?_getD, List.getElem?_eq_getElem hi]
      rfl
    rw [et, frH_snoc, eo]
    have sb : strOfD [.int (hs[i]).2] = .ok (dt [48 + (hs[i]).2.toNat]) := str_bit l3
    unfold dH
    generalize frH ns.length (hs.take i) = f at *
    generalize sign f (hs[i]).1 (48 + (hs[i]).2.toNat) = g at *
    generalize (hs[i]).1 = k at *
    generalize (hs[i]).2 = b at *
    generalize dNet (heldL ns hs) = N2 at *
    generalize dNet ns = N at *
    generalize o4h hs i = o4 at *
    generalize HD hs = HX at *
    simp only [turnF, C.b__law_poured_1]
    simp [sb, w]
  rw [List.take_length] at lp
  have lp : forL (tmTup [4, 5]) C.b__law_poured_1 [5] [] (hs.map dH) [some (dNet ns), some (HD hs), some (dNet (heldL ns hs)), some (dt (List.replicate ns.length 45)), none, none, none, none, none] = .ok (.nx, [some (dNet ns), some (HD hs), some (dNet (heldL ns hs)), some (dt (frH ns.length hs)), o4h hs hs.length, none, none, none, none]) := lp
  have cm := comp_map (tm := tmTup [4, 5]) (t := cYes) (e := C.e__law_poured_1) (vs := [4, 5]) (ws := []) (ρ := [some (dNet ns), some (HD hs), some (dNet (heldL ns hs)), some (dt (frH ns.length hs)), none, none, none, none, none]) dH (fun p => D.int (p.1 : Nat)) hs fun p hp => by
    simp only [turnC, C.e__law_poured_1]
    unfold dH
    simp
  have dn := dash_len8 fc
  obtain ⟨ρ, w⟩ := law_goN76 ok2 (by omega) (N0 := dNet ns) (by rw [ll]; exact ln) (r1 := some (HD hs)) (dash (frH ns.length hs) + 1) (frH ns.length hs) [hs.map (·.1)] (by omega) fc2 (by rw [List.length_singleton]; omega)
  have w := sWhile_of w
  have e0 : [hs.map (·.1)].map ln' = [.lst (hs.map fun p => D.int (p.1 : Nat))] := by
    show [ln' (hs.map (·.1))] = _
    have : ln' (hs.map (·.1)) = D.lst (hs.map fun p => D.int (p.1 : Nat)) := by
      show D.lst ((hs.map (·.1)).map fun k : Nat => D.int (k : Nat)) = _
      rw [List.map_map]; rfl
    rw [this]
  rw [e0] at w
  have eR : pourN (heldL ns hs) (dash (frH ns.length hs) + 1) (frH ns.length hs) [hs.map (·.1)] = pourR ns hs := rfl
  rw [eR] at w
  have zl : szOk (hs.map dH).length = true := szOk_of (by rw [List.length_map]; omega)
  have dm := dash_mul (n := ns.length) (by omega)
  have eH : HD hs = .ftu (hs.map dH) := rfl
  rw [eH] at hd lp cm w ⊢
  simp only [C.g__law_poured, C.m__law_poured]
  generalize C.b__law_poured_3 = B3 at *
  generalize C.b__law_poured_1 = B1 at *
  generalize C.e__law_poured_1 = E1 at *
  generalize dNet (heldL ns hs) = N2 at *
  generalize dNet ns = N at *
  generalize hs.map (fun p => D.int (p.1 : Nat)) = KS at *
  generalize hs.map dH = HH at *
  generalize dt (List.replicate ns.length 45) = F0 at *
  generalize dt (frH ns.length hs) = F at *
  generalize dt (pourR ns hs).1 = G at *
  generalize (pourR ns hs).2.map ln' = L' at *
  generalize o4h hs hs.length = o4 at *
  clear okT
  simp [e_fnP, hd, ln, dm, zl, lp, cm, w, chk_74, shAt, chkO_ws, szOk_of, -d_mulS]
end H

set_option Elab.async false
set_option linter.all false
set_option maxRecDepth 100000
set_option maxHeartbeats 2000000
namespace H
open PySem PySem.Spec PyProof.Rows L2 Y
theorem placesT_ok {cs : List Nat} {T : D} (hl : cs.length ≤ 20) (hc : ∀ c ∈ cs, c = 45 ∨ c = 48 ∨ c = 49) (iT : itD T = .ok (cs.map fun c => dt [c])) : C.g_places_in [T] = .ok (.vl (li (placesI cs))) := by
  have h := for_idx (tm := tmName 2) (body := C.b_places_in_1) (vs := [2]) (ws := []) (fun c : Nat => dt [c]) cs (fun i => [some T, some (li (placesI (cs.take i))), none, none]) (fun i hi => by
    refine ⟨by simp, ?_⟩
    have hx := hc _ (List.getElem_mem hi)
    have z1 : (placesI (cs.take i)).length ≤ 2 ^ 20 := Nat.le_trans places_len (Nat.pow_le_pow_right (by omega) (by rw [List.length_take]; omega))
    have e1 : placesI (cs.take (i + 1)) = stepP (placesI (cs.take i)) cs[i] := by
      rw [placesI, List.take_succ_eq_append_getElem hi, List.foldl_append]
      rfl
    rw [e1]
    generalize placesI (cs.take i) = L at z1
    generalize cs[i] = c at hx
    have zL : szOk L.length = true := szOk_of (by omega)
    have zLL : szOk (L.length + L.length) = true := szOk_of (by omega)
    have q1 : ∀ ρ0 ρ1 ρ2, cCompL (tmName 3) cYes C.e_places_in_1 [3] [] (L.map D.int) [ρ0, ρ1, ρ2, none] = .ok (L.map fun p => D.int (2 * p), [ρ0, ρ1, ρ2, none]) := fun ρ0 ρ1 ρ2 =>
      comp_map D.int (fun p => D.int (2 * p)) L fun x _ => by
        have : mulOk 2 x = true := mulOk_l (by decide)
        simp [turnC, C.e_places_in_1, this]
    have q2 : ∀ ρ0 ρ1 ρ2, cCompL (tmName 3) cYes C.e_places_in_2 [3] [] (L.map D.int) [ρ0, ρ1, ρ2, none] = .ok (L.map fun p => D.int (2 * p + 1), [ρ0, ρ1, ρ2, none]) := fun ρ0 ρ1 ρ2 =>
      comp_map D.int (fun p => D.int (2 * p + 1)) L fun x _ => by
        have : mulOk 2 x = true := mulOk_l (by decide)
        simp [turnC, C.e_places_in_2, this]
    have ne := eq_dt (a := [c]) (b := [45]) (sg1 (by omega)) (sg1 (by omega))
    by_cases e : c = 45
    · subst e
      simp only [turnF, C.b_places_in_1, s_dash]
      generalize C.e_places_in_1 = B1 at q1 ⊢
      generalize C.e_places_in_2 = B2 at q2 ⊢
      simp [ne, zL, zLL, q1, q2, stepP]
      rfl
    · have q3 : ∀ ρ0 ρ1, cCompL (tmName 3) cYes C.e_places_in_3 [3] [] (L.map D.int) [ρ0, ρ1, some (dt [c]), none] = .ok (L.map fun p => D.int (2 * p + ((c : Int) - 48)), [ρ0, ρ1, some (dt [c]), none]) := fun ρ0 ρ1 =>
        comp_map D.int (fun p => D.int (2 * p + ((c : Int) - 48))) L fun x _ => by
          have : mulOk 2 x = true := mulOk_l (by decide)
          have i1 := int_of_sg (c := c) (by omega)
          simp [turnC, C.e_places_in_3, this, i1]
      simp only [turnF, C.b_places_in_1, s_dash]
      generalize C.e_places_in_3 = B3 at q3 ⊢
      simp [ne, e, zL, q3, stepP])
  rw [List.take_length] at h
  have h : forL _ _ _ _ _ [some T, some (li (placesI [])), none, none] = _ := h
  have z : szOk cs.length = true := szOk_of (by omega)
  simp only [C.g_places_in, C.m_places_in]
  generalize C.b_places_in_1 = B at h ⊢
  have e0 : li (placesI []) = .lst [.int 0] := rfl
  rw [e0] at h
  simp [e_fnP, iT, z, h]
theorem bits_forT_ok {r : RuleT} {cs : List Nat} {T : D} (iT : itD T = .ok (cs.map fun c => dt [c])) (h : RuleLk r) (hl : cs.length = r.1.length) (hc : ∀ c ∈ cs, c = 45 ∨ c = 48 ∨ c = 49) :
    C.g_bits_for [dRule r, T] = .ok (.fr (li (setI ((placesI cs).map fun p => r.2.getD p.toNat 0)))) := by
  have l8 := h.len
  have pl := placesT_ok (cs := cs) (T := T) (by omega) hc iT
  have ll : (placesI cs).length ≤ 256 := Nat.le_trans places_len (Nat.le_trans (Nat.pow_le_pow_right (by omega) (by omega : cs.length ≤ 8)) (by omega))
  have q := comp_map (tm := tmName 2) (t := cYes) (e := C.e_bits_for_1) (vs := [2]) (ws := []) (ρ := [some (dRule r), some T, none]) D.int (fun p => D.int (r.2.getD p.toNat 0)) (placesI cs) (fun p hp => by
    have b := places_lt hc hp
    have a := atI_mapI (xs := r.2) b.1 (by rw [h.tab, ← hl]; exact_mod_cast b.2)
    simp only [turnC, C.e_bits_for_1]
    simp [ixD, atI_of (i := 1) (j := 1), a, -List.getD_eq_getElem?_getD])
  have e2 : ((placesI cs).map fun p => D.int (r.2.getD p.toNat 0)) = ((placesI cs).map fun p => r.2.getD p.toNat 0).map D.int := by rw [List.map_map]; rfl
  rw [e2] at q
  have dl := dedup_bits (xs := (placesI cs).map fun p => r.2.getD p.toNat 0) fun x hx => by
    obtain ⟨p, _, rfl⟩ := List.mem_map.mp hx
    exact getD_bit h.bit _
  have z : szOk (placesI cs).length = true := szOk_of (by omega)
  simp only [C.g_bits_for, C.m_bits_for]
  generalize C.e_bits_for_1 = B at q ⊢
  generalize hX : ((placesI cs).map fun p => r.2.getD p.toNat 0) = X at *
  have lX : X.length ≤ 4000 := by rw [← hX, List.length_map]; omega
  simp [e_fnP, pl, z, q, lX, dl]

def isSg (c : Nat) : Bool := decide (c ∈ [48, 49, 45])
theorem isSg_iff {c : Nat} : isSg c = true ↔ c = 45 ∨ c = 48 ∨ c = 49 := by
  unfold isSg
  rw [decide_eq_true_eq]
  simp only [List.mem_cons, List.not_mem_nil, or_false]
  omega
def bitsL (r : RuleT) (l : List Nat) : List Int := setI ((placesI l).map fun p => r.2.getD p.toNat 0)
def fitsB (f : List Nat) (p : Nat × Int) : Bool := decide (p.1 = 45) || decide (p.1 = f.getD p.2.toNat 0)
def rowS (ns : List RuleT) (f : List Nat) (k : Nat) (l : List Nat) : Option Int :=
  if f.getD k 0 = 45 ∧ l.length = (ns.getD k ([], [])).1.length ∧ l.all isSg = true ∧ (l.zip (ns.getD k ([], [])).1).all (fitsB f) = true ∧ (bitsL (ns.getD k ([], [])) l).length = 1 then some ((bitsL (ns.getD k ([], [])) l).getD 0 0) else none
def optH : Option Int → Hd
  | none => .fr .non
  | some b => .vl (.int b)
theorem bit_by_ok {ns : List RuleT} {most k : Nat} {f l : List Nat} (ok : NetOk ns most) (hm : most ≤ 20) (hf : CaseOk ns.length f) (hk : k < ns.length) (hl : l.length ≤ 1000) (hs : SgOk l) : C.g_bit_by [dNet ns, dt f, .tup [.int (k : Nat), dt l]] = .ok (optH (rowS ns f k l)) := by
  have le := ok.le
  have fl := hf.len
  have rk := ok.lk hk
  have lk := rk.lk
  have a := net_at hk
  have g := (ok.good (by omega)).at hk
  have ix : ixD (dNet ns) (.int (k : Nat)) = .ok (dRule (ns.getD k ([], []))) := by
    show (match atI (ns.map dRule) (k : Int) with | some d => R.ok d | none => .stk) = _
    rw [a]
  unfold rowS
  generalize ns.getD k ([], []) = r at *
  have u0 : decide ((0 : Int) ≤ (k : Nat) ∧ ((k : Nat) : Int) < (ns.length : Nat)) = true := decide_eq_true (by omega)
  have iu := is_upto_int (i := (k : Nat)) (m := (ns.length : Nat))
  rw [u0] at iu
  have n22 : neD (.int 2) (.int 2) = .ok (.bl false) := by rw [neD_int]; rfl
  have b0 : ∀ x y : D, ixD (.tup [x, y]) (.int 0) = .ok x := fun _ _ => rfl
  have b1 : ∀ x y : D, ixD (.tup [x, y]) (.int 1) = .ok y := fun _ _ => rfl
  have r0 : ixD (dRule r) (.int 0) = .ok (ti r.1) := rfl
  have ln : lenD [dNet ns] = .ok (.int ns.length) := by simp
  have i1 := ix_dt (l := f) (k := k) (by omega) (by omega)
  have sg := getD_sg hf.sg (j := k) (by omega)
  have e1 := ne_dt (a := [f.getD k 0]) (b := [45]) (sg1 (by omega)) (sg1 (by omega))
  have lL : lenD [dt l] = .ok (.int l.length) := by
    have : lenD [.str (tx l)] = .ok (.int (tx l).length) := by simp [tx_len, szOk_of (show l.length ≤ 16777216 by omega)]
    rw [tx_len] at this
    exact this
  have lE : lenD [ti r.1] = .ok (.int r.1.length) := by simp
  have l8 := lk.len
  have it := it_dt (a := l)
  have zl : szOk (l.map fun c => dt [c]).length = true := szOk_of (by rw [List.length_map]; omega)
  have isS : Y.isStr (dt l) = true := rfl
  have ndT : ∀ x y : D, noDit (.tup [x, y]) = true := fun _ _ => rfl
  have isT : ∀ x y : D, Y.isTup (.tup [x, y]) = true := fun _ _ => rfl
  have ndS : noDit (dt l) = true := rfl
  have c1 := comp_map (tm := tmName 5) (t := cYes) (e := C.e_bit_by_1) (vs := [5]) (ws := []) (ρ := [some (dNet ns), some (dt f), some (.tup [.int (k : Nat), dt l]), some (ti r.1), none, none, none]) (fun c : Nat => dt [c]) (fun c => D.bl (isSg c)) l fun c hc => by
    have := in_text (c := c) (l := [48, 49, 45])
    generalize dNet ns = N at *
    generalize dt f = F at *
    generalize dt l = LL at *
    generalize ti r.1 = T1 at *
    simp only [turnC, C.e_bit_by_1, s_signs]
    simp only [show decide (c ∈ [48, 49, 45]) = isSg c from rfl] at this
    simp [this]
  have e2 : (l.map fun c => D.bl (isSg c)) = (l.map isSg).map D.bl := by rw [List.map_map]; rfl
  rw [e2] at c1
  have al := d_all (xs := l.map isSg)
  rw [List.all_map] at al
  have al : allD [.lst ((l.map isSg).map D.bl)] = .ok (.bl (l.all isSg)) := al
  by_cases q1 : f.getD k 0 = 45
  · by_cases q2 : l.length = r.1.length
    · by_cases q3 : l.all isSg = true
      · have hsg : ∀ c ∈ l, c = 45 ∨ c = 48 ∨ c = 49 := fun c hc => isSg_iff.mp (List.all_eq_true.mp q3 c hc)
        have c2 := comp_map (tm := tmTup [5, 6]) (t := cYes) (e := C.e_bit_by_2) (vs := [5, 6]) (ws := []) (ρ := [some (dNet ns), some (dt f), some (.tup [.int (k : Nat), dt l]), some (ti r.1), none, none, none]) (fun p : Nat × Int => D.tup [dt [p.1], .int p.2]) (fun p => D.bl (fitsB f p)) (l.zip r.1) fun p hp => by
          have h1 := hs p.1 (List.of_mem_zip hp).1
          have h2 := g.2.1 p.2 (List.of_mem_zip hp).2
          have i2 := ix_dt (l := f) (k := p.2.toNat) (by omega) (by omega)
          rw [show ((p.2.toNat : Nat) : Int) = p.2 by omega] at i2
          have s2 := getD_sg hf.sg (j := p.2.toNat) (by omega)
          have x1 := eq_dt (a := [p.1]) (b := [45]) (sg1 h1) (sg1 (by omega))
          have x2 := eq_dt (a := [p.1]) (b := [f.getD p.2.toNat 0]) (sg1 h1) (sg1 (by omega))
          unfold fitsB
          generalize f.getD p.2.toNat 0 = w at *
          generalize dNet ns = N at *
          generalize dt f = F at *
          generalize dt l = LL at *
          generalize ti r.1 = T1 at *
          simp only [turnC, C.e_bit_by_2, s_dash]
          obtain ⟨pc, pe⟩ := p
          dsimp only at *
          by_cases z1 : pc = 45
          · subst z1
            rw [decide_eq_true rfl] at x1
            simp [x1]
          · have z2 : ¬ [pc] = [45] := by simpa using z1
            rw [decide_eq_false z2] at x1
            simp [x1, x2, z1, i2]
        have e3 : ((l.zip r.1).map fun p => D.bl (fitsB f p)) = ((l.zip r.1).map (fitsB f)).map D.bl := by rw [List.map_map]; rfl
        rw [e3] at c2
        have al2 := d_all (xs := (l.zip r.1).map (fitsB f))
        rw [List.all_map] at al2
        have al2 : allD [.lst (((l.zip r.1).map (fitsB f)).map D.bl)] = .ok (.bl ((l.zip r.1).all (fitsB f))) := al2
        have pz : pairsD (l.map fun c => dt [c]) (r.1.map D.int) = (l.zip r.1).map fun p : Nat × Int => D.tup [dt [p.1], .int p.2] := pairsD_map
        have zz : szOk ((l.zip r.1).map fun p : Nat × Int => D.tup [dt [p.1], .int p.2]).length = true := szOk_of (by rw [List.length_map, List.length_zip]; omega)
        have iE : itD (ti r.1) = .ok (r.1.map D.int) := rfl
        have bf := bits_forT_ok (r := r) (cs := l) (T := dt l) it lk q2 hsg
        have eb : setI ((placesI l).map fun p => r.2.getD p.toNat 0) = bitsL r l := rfl
        rw [eb] at bf
        have lb : lenD [li (bitsL r l)] = .ok (.int (bitsL r l).length) := by simp
        have at0 : (bitsL r l).length = 1 → ixD (li (bitsL r l)) (.int 0) = .ok (.int ((bitsL r l).getD 0 0)) := fun z => by
          match hb : bitsL r l, z with
          | [x], _ => rfl
        have z1 : szOk (bitsL r l).length = true := szOk_of (by
          have := three_bits (xs := bitsL r l) setI_lt fun x hx => by
            have hx := setI_mem.mp hx
            obtain ⟨p, _, rfl⟩ := List.mem_map.mp hx
            exact getD_bit lk.bit _
          omega)
        rw [q1, decide_eq_true rfl] at e1
        generalize hB : (bitsL r l) = BL at *
        clear hB
        have eLI : li BL = .lst (BL.map D.int) := rfl
        simp only [C.g_bit_by, C.m_bit_by, s_dash]
        generalize C.e_bit_by_1 = E1 at *
        generalize C.e_bit_by_2 = E2 at *
        rw [q1] at i1
        cases q4 : (l.zip r.1).all (fitsB f) with
        | false =>
          rw [q4] at al2
          rw [if_neg (fun z => by cases z.2.2.2.1)]
          generalize ((l.zip r.1).map (fitsB f)).map D.bl = FB at *
          generalize (l.zip r.1).map (fun p : Nat × Int => D.tup [dt [p.1], .int p.2]) = ZP at *
          generalize (l.map isSg).map D.bl = SB at *
          generalize (l.map fun c => dt [c]) = LC at *
          generalize r.1.map D.int = R1 at *
          generalize li BL = LB at *
          generalize dRule r = RR at *
          generalize ti r.1 = T1 at *
          generalize dNet ns = N at *
          generalize dt f = F at *
          generalize dt l = LL at *
          simp [e_fnP, ndT, isT, n22, b0, b1, iu, ln, isS, ndS, ix, r0, i1, e1, lL, lE, q2, it, zl, c1, al, q3, iE, pz, zz, c2, al2, optH, -is_upto_int]
        | true =>
          rw [q4] at al2
          by_cases q5 : BL.length = 1
          · rw [if_pos ⟨q1, q2, q3, rfl, q5⟩]
            have at0 := at0 q5
            have q6 : (BL.length : Int) = 1 := by omega
            generalize ((l.zip r.1).map (fitsB f)).map D.bl = FB at *
            generalize (l.zip r.1).map (fun p : Nat × Int => D.tup [dt [p.1], .int p.2]) = ZP at *
            generalize (l.map isSg).map D.bl = SB at *
            generalize (l.map fun c => dt [c]) = LC at *
            generalize r.1.map D.int = R1 at *
            generalize li BL = LB at *
            generalize dRule r = RR at *
            generalize ti r.1 = T1 at *
            generalize dNet ns = N at *
            generalize dt f = F at *
            generalize dt l = LL at *
            simp [e_fnP, ndT, isT, n22, b0, b1, iu, ln, isS, ndS, ix, r0, i1, e1, lL, lE, q2, it, zl, c1, al, q3, iE, pz, zz, c2, al2, bf, lb, q6, at0, optH, -is_upto_int]
          · rw [if_neg (fun z => q5 z.2.2.2.2)]
            have q6 : ¬ (BL.length : Int) = 1 := by omega
            generalize ((l.zip r.1).map (fitsB f)).map D.bl = FB at *
            generalize (l.zip r.1).map (fun p : Nat × Int => D.tup [dt [p.1], .int p.2]) = ZP at *
            generalize (l.map isSg).map D.bl = SB at *
            generalize (l.map fun c => dt [c]) = LC at *
            generalize r.1.map D.int = R1 at *
            generalize li BL = LB at *
            generalize dRule r = RR at *
            generalize ti r.1 = T1 at *
            generalize dNet ns = N at *
            generalize dt f = F at *
            generalize dt l = LL at *
            simp [e_fnP, ndT, isT, n22, b0, b1, iu, ln, isS, ndS, ix, r0, i1, e1, lL, lE, q2, it, zl, c1, al, q3, iE, pz, zz, c2, al2, bf, lb, q6, optH, -is_upto_int]
      · rw [if_neg (fun z => q3 z.2.2.1)]
        have q3 : l.all isSg = false := by simpa using q3
        rw [q3] at al
        rw [q1, decide_eq_true rfl] at e1
        rw [q1] at i1
        simp only [C.g_bit_by, C.m_bit_by, s_dash]
        generalize C.e_bit_by_1 = E1 at *
        generalize (l.map isSg).map D.bl = SB at *
        generalize (l.map fun c => dt [c]) = LC at *
        generalize dRule r = RR at *
        generalize ti r.1 = T1 at *
        generalize dNet ns = N at *
        generalize dt f = F at *
        generalize dt l = LL at *
        simp [e_fnP, ndT, isT, n22, b0, b1, iu, ln, isS, ndS, ix, r0, i1, e1, lL, lE, q2, it, zl, c1, al, optH, -is_upto_int]
    · rw [if_neg (fun z => q2 z.2.1)]
      have q2 : ¬ (l.length : Int) = (r.1.length : Nat) := by omega
      rw [q1, decide_eq_true rfl] at e1
      rw [q1] at i1
      simp only [C.g_bit_by, C.m_bit_by, s_dash]
      generalize C.e_bit_by_1 = E1 at *
      generalize dRule r = RR at *
      generalize ti r.1 = T1 at *
      generalize dNet ns = N at *
      generalize dt f = F at *
      generalize dt l = LL at *
      simp [e_fnP, ndT, isT, n22, b0, b1, iu, ln, isS, ndS, ix, r0, i1, e1, lL, lE, q2, optH, -is_upto_int]
  · rw [if_neg (fun z => q1 z.1)]
    have q7 : ¬ [f.getD k 0] = [45] := by simpa using q1
    rw [decide_eq_false q7] at e1
    generalize f.getD k 0 = fk at *
    simp only [C.g_bit_by, C.m_bit_by, s_dash]
    generalize C.e_bit_by_1 = E1 at *
    generalize dRule r = RR at *
    generalize ti r.1 = T1 at *
    generalize dNet ns = N at *
    generalize dt f = F at *
    generalize dt l = LL at *
    simp [e_fnP, ndT, isT, n22, b0, b1, iu, ln, isS, ndS, ix, r0, i1, e1, lL, lE, optH, -is_upto_int]
end H

set_option Elab.async false
set_option linter.all false
set_option maxRecDepth 100000
set_option maxHeartbeats 2000000
namespace H
open PySem PySem.Spec PyProof.Rows L2 Y
def bitsW (r : RuleT) (l : List Nat) : List Int := (placesW l).map fun p => r.2.getD p.toNat 0
theorem bitsW_mem {r : RuleT} {l : List Nat} (x : Int) : x ∈ bitsL r l ↔ x ∈ bitsW r l := by
  unfold bitsL bitsW
  rw [setI_mem, List.mem_map, List.mem_map]
  exact ⟨fun ⟨p, hp, e⟩ => ⟨p, (mem_placesW p).mpr hp, e⟩, fun ⟨p, hp, e⟩ => ⟨p, (mem_placesW p).mp hp, e⟩⟩
theorem stepW_ne {L : List Int} {c : Nat} (h : L ≠ []) : stepW L c ≠ [] := by
  cases L with
  | nil => exact absurd rfl h
  | cons p L =>
    have e : stepW (p :: L) c = ((bitsC c).map fun b => 2 * p + b) ++ stepW L c := rfl
    rw [e]
    unfold bitsC
    split <;> simp
theorem placesW_ne {l : List Nat} : placesW l ≠ [] := by
  have : ∀ (l : List Nat) (A : List Int), A ≠ [] → l.foldl stepW A ≠ [] := fun l => by
    induction l with
    | nil => intro A h; exact h
    | cons c l ih => intro A h; exact ih _ (stepW_ne h)
  exact this l [0] (by simp)
theorem one_min {X : List Int} {n : Int} {ms : List Int} (hp : X.Pairwise (· < ·)) (h : ∀ x, x ∈ X ↔ x ∈ n :: ms) : (minI n ms = maxI n ms ↔ X.length = 1) ∧ (X.length = 1 → X.getD 0 0 = n) := by
  have mn : n ∈ X := (h n).mpr (by simp)
  constructor
  · constructor
    · intro e
      have all : ∀ x ∈ X, x = n := fun x hx => by
        have h1 := minI_le (n := n) (ms := ms) ((h x).mp hx)
        have h2 := maxI_le (n := n) (ms := ms) ((h x).mp hx)
        have h3 := minI_le (n := n) (ms := ms) (y := n) (by simp)
        have h4 := maxI_le (n := n) (ms := ms) (y := n) (by simp)
        omega
      match X, hp, all, mn with
      | [x], _, _, _ => rfl
      | x :: y :: z, hp, all, _ =>
        have h1 := all x (by simp)
        have h2 := all y (by simp)
        have h3 := (List.pairwise_cons.mp hp).1 y (by simp)
        omega
    · intro e
      match X, e, h with
      | [x], _, h =>
        have a1 := minI_mem (n := n) (ms := ms)
        have a2 := maxI_mem (n := n) (ms := ms)
        have b1 : minI n ms = x := by simpa using (h _).mpr a1
        have b2 : maxI n ms = x := by simpa using (h _).mpr a2
        omega
  · intro e
    match X, e, mn with
    | [x], _, mn =>
      have : n = x := by simpa using mn
      simp [this]
theorem law_upto_int {a m : Int} : C.g__law_upto [.int a, .int m] = .ok (.fr (.bl (decide (0 ≤ a ∧ a < m)))) := by
  simp only [C.g__law_upto, C.m__law_upto]
  by_cases h1 : 0 ≤ a
  · by_cases h2 : a < m <;> simp [e_fnP, noDit, Y.isInt, Y.isBl, h1, h2]
  · simp [e_fnP, noDit, Y.isInt, Y.isBl, h1]
theorem row_bit_ok {ns : List RuleT} {most k : Nat} {f l : List Nat} (ok : NetOk ns most) (hm : most ≤ 20) (hf : CaseOk ns.length f) (hk : k < ns.length) (hl : l.length ≤ 1000) (hs : SgOk l) : C.g__law_row_bit [dNet ns, dt f, .tup [.int (k : Nat), dt l]] = .ok (optH (rowS ns f k l)) := by
  have le := ok.le
  have fl := hf.len
  have rk := ok.lk hk
  have lk := rk.lk
  have a := net_at hk
  have g := (ok.good (by omega)).at hk
  have ix : ixD (dNet ns) (.int (k : Nat)) = .ok (dRule (ns.getD k ([], []))) := by
    show (match atI (ns.map dRule) (k : Int) with | some d => R.ok d | none => .stk) = _
    rw [a]
  unfold rowS
  generalize ns.getD k ([], []) = r at *
  have ed : dRule r = .tup [ti r.1, ti r.2] := rfl
  rw [ed] at ix
  have u0 : decide ((0 : Int) ≤ (k : Nat) ∧ ((k : Nat) : Int) < (ns.length : Nat)) = true := decide_eq_true (by omega)
  have iu := law_upto_int (a := (k : Nat)) (m := (ns.length : Nat))
  rw [u0] at iu
  have n22 : neD (.int 2) (.int 2) = .ok (.bl false) := by rw [neD_int]; rfl
  have b0 : ∀ x y : D, ixD (.tup [x, y]) (.int 0) = .ok x := fun _ _ => rfl
  have b1 : ∀ x y : D, ixD (.tup [x, y]) (.int 1) = .ok y := fun _ _ => rfl
  have ln : lenD [dNet ns] = .ok (.int ns.length) := by simp
  have i1 := ix_dt (l := f) (k := k) (by omega) (by omega)
  have sg := getD_sg hf.sg (j := k) (by omega)
  have e1 := ne_dt (a := [f.getD k 0]) (b := [45]) (sg1 (by omega)) (sg1 (by omega))
  have lL : lenD [dt l] = .ok (.int l.length) := by
    have : lenD [.str (tx l)] = .ok (.int (tx l).length) := by simp [tx_len, szOk_of (show l.length ≤ 16777216 by omega)]
    rw [tx_len] at this
    exact this
  have lE : lenD [ti r.1] = .ok (.int r.1.length) := by simp
  have l8 := lk.len
  have it := it_dt (a := l)
  have zl : szOk (l.map fun c => dt [c]).length = true := szOk_of (by rw [List.length_map]; omega)
  have isS : Y.isStr (dt l) = true := rfl
  have ndS : noDit (dt l) = true := rfl
  have ndT : ∀ x y : D, noDit (.tup [x, y]) = true := fun _ _ => rfl
  have isT : ∀ x y : D, Y.isTup (.tup [x, y]) = true := fun _ _ => rfl
  have c1 := comp_filter (tm := tmName 5) (t := C.t__law_row_bit_1) (e := C.e__law_row_bit_1) (vs := [5]) (ws := []) (ρ := [some (dNet ns), some (dt f), some (.tup [.int (k : Nat), dt l]), some (ti r.1), some (ti r.2), none, none, none, none]) (fun c : Nat => dt [c]) (fun c => !isSg c) (fun c : Nat => dt [c]) l fun c hc => by
    have q : ninD (dt [c]) (dt [48, 49, 45]) = .ok (.bl (!isSg c)) := by
      have := in_text (c := c) (l := [48, 49, 45])
      unfold inD at this
      unfold ninD
      cases e : inB (dt [c]) (dt [48, 49, 45]) with
      | none => rw [e] at this; cases this
      | some b => rw [e] at this; cases this; rfl
    generalize isSg c = s at *
    generalize dNet ns = N at *
    generalize dt f = F at *
    generalize dt l = LL at *
    generalize ti r.1 = T1 at *
    generalize ti r.2 = T2 at *
    simp only [turnC, C.t__law_row_bit_1, C.e__law_row_bit_1, s_signs]
    cases s <;> simp [q]
  have ne : neD (.lst ((l.filter fun c => !isSg c).map fun c => dt [c])) (.lst []) = .ok (.bl (!l.all isSg)) := by
    have f1 : Fit 2 (.lst ((l.filter fun c => !isSg c).map fun c => dt [c])) := fun d hd => by
      obtain ⟨c, hc, rfl⟩ := List.mem_map.mp hd
      exact fit_dt (sg1 (hs c (List.mem_filter.mp hc).1))
    refine (neD_of (n := 2) f1 fit_nil).trans ?_
    rw [eqP_lst, eqPs_nil]
    congr 2
    rw [Bool.eq_iff_iff, Bool.not_eq_true', Bool.not_eq_true', ← Bool.not_eq_true, ← Bool.not_eq_true, List.isEmpty_iff, List.all_eq_true, List.map_eq_nil_iff, List.filter_eq_nil_iff]
    constructor
    · intro h z
      exact h fun c hc => by simpa using z c hc
    · intro h z
      exact h fun c hc => by simpa using z c hc
  have i3 : ∀ X : List D, itD (.tup X) = .ok X := fun _ => rfl
  by_cases q1 : f.getD k 0 = 45
  · by_cases q2 : l.length = r.1.length
    · by_cases q3 : l.all isSg = true
      · have hsg : ∀ c ∈ l, c = 45 ∨ c = 48 ∨ c = 49 := fun c hc => isSg_iff.mp (List.all_eq_true.mp q3 c hc)
        obtain ⟨ρ', lp⟩ := for_all (tm := tmTup [5, 6]) (body := C.b__law_row_bit_1) (vs := [5, 6]) (ws := []) (fun p : Nat × Int => D.tup [dt [p.1], .int p.2]) (fitsB f) (.fr .non) (l.zip r.1) [some (dNet ns), some (dt f), some (.tup [.int (k : Nat), dt l]), some (ti r.1), some (ti r.2), none, none, none, none]
          (fun p hp hq => by
            have h1 := hs p.1 (List.of_mem_zip hp).1
            have h2 := g.2.1 p.2 (List.of_mem_zip hp).2
            have i2 := ix_dt (l := f) (k := p.2.toNat) (by omega) (by omega)
            rw [show ((p.2.toNat : Nat) : Int) = p.2 by omega] at i2
            have s2 := getD_sg hf.sg (j := p.2.toNat) (by omega)
            have x1 := ne_dt (a := [p.1]) (b := [45]) (sg1 h1) (sg1 (by omega))
            have x2 := ne_dt (a := [p.1]) (b := [f.getD p.2.toNat 0]) (sg1 h1) (sg1 (by omega))
            unfold fitsB at hq
            obtain ⟨pc, pe⟩ := p
            dsimp only at *
            generalize f.getD pe.toNat 0 = w at *
            generalize dNet ns = N at *
            generalize dt f = F at *
            generalize dt l = LL at *
            generalize ti r.1 = T1 at *
            generalize ti r.2 = T2 at *
            simp only [turnF, C.b__law_row_bit_1, s_dash]
            by_cases z1 : pc = 45
            · subst z1
              rw [decide_eq_true rfl] at x1
              simp [x1]
            · have z2 : ¬ [pc] = [45] := by simpa using z1
              have z3 : pc = w := by simpa [z1] using hq
              subst z3
              rw [decide_eq_false z2] at x1
              rw [decide_eq_true rfl] at x2
              simp [x1, x2, i2])
          (fun p hp hq => by
            have h1 := hs p.1 (List.of_mem_zip hp).1
            have h2 := g.2.1 p.2 (List.of_mem_zip hp).2
            have i2 := ix_dt (l := f) (k := p.2.toNat) (by omega) (by omega)
            rw [show ((p.2.toNat : Nat) : Int) = p.2 by omega] at i2
            have s2 := getD_sg hf.sg (j := p.2.toNat) (by omega)
            have x1 := ne_dt (a := [p.1]) (b := [45]) (sg1 h1) (sg1 (by omega))
            have x2 := ne_dt (a := [p.1]) (b := [f.getD p.2.toNat 0]) (sg1 h1) (sg1 (by omega))
            unfold fitsB at hq
            obtain ⟨pc, pe⟩ := p
            dsimp only at *
            refine ⟨[some (dNet ns), some (dt f), some (.tup [.int (k : Nat), dt l]), some (ti r.1), some (ti r.2), some (dt [pc]), some (.int pe), none, none], ?_⟩
            generalize f.getD pe.toNat 0 = w at *
            generalize dNet ns = N at *
            generalize dt f = F at *
            generalize dt l = LL at *
            generalize ti r.1 = T1 at *
            generalize ti r.2 = T2 at *
            simp only [turnF, C.b__law_row_bit_1, s_dash]
            have z0 : ¬ pc = 45 ∧ ¬ pc = w := by simpa using hq
            have z2 : ¬ [pc] = [45] := by simpa using z0.1
            have z3 : ¬ [pc] = [w] := by simpa using z0.2
            rw [decide_eq_false z2] at x1
            rw [decide_eq_false z3] at x2
            simp [x1, x2, i2])
        have pw := law_placesW_ok (cs := l) (T := dt l) (by omega) hsg it
        have eP : li (placesW l) = .lst ((placesW l).map D.int) := rfl
        rw [eP] at pw
        have c2 := comp_map (tm := tmName 8) (t := cYes) (e := C.e__law_row_bit_2) (vs := [8]) (ws := []) (ρ := [some (dNet ns), some (dt f), some (.tup [.int (k : Nat), dt l]), some (ti r.1), some (ti r.2), none, none, none, none]) D.int (fun p => D.int (r.2.getD p.toNat 0)) (placesW l) fun p hp => by
          have b := places_lt hsg ((mem_placesW p).mp hp)
          have a := atI_mapI (xs := r.2) b.1 (by rw [lk.tab, ← q2]; exact_mod_cast b.2)
          have et : ti r.2 = .tup (r.2.map D.int) := rfl
          rw [et]
          generalize ti r.1 = T1 at *
          generalize r.2.map D.int = R2 at *
          generalize dNet ns = N at *
          generalize dt f = F at *
          generalize dt l = LL at *
          simp only [turnC, C.e__law_row_bit_2]
          simp [ixD, a, -List.getD_eq_getElem?_getD]
        have e4 : ((placesW l).map fun p => D.int (r.2.getD p.toNat 0)) = (bitsW r l).map D.int := by unfold bitsW; rw [List.map_map]; rfl
        rw [e4] at c2
        have zP : szOk ((placesW l).map D.int).length = true := szOk_of (by
          have h1 := placesW_len (cs := l)
          have h2 : 2 ^ l.length ≤ 2 ^ 8 := Nat.pow_le_pow_right (by omega) (by omega)
          rw [List.length_map]
          omega)
        obtain ⟨n, ms, eB⟩ : ∃ n ms, bitsW r l = n :: ms := by
          cases h : bitsW r l with
          | nil =>
            unfold bitsW at h
            exact absurd (List.map_eq_nil_iff.mp h) placesW_ne
          | cons n ms => exact ⟨n, ms, rfl⟩
        obtain ⟨o1, o2⟩ := one_min (X := bitsL r l) (n := n) (ms := ms) setI_lt fun x => by rw [← eB]; exact bitsW_mem x
        rw [eB] at c2
        have mn : minSD [.lst ((n :: ms).map D.int)] = .ok (.int (minI n ms)) := d_minS (ints_map (n :: ms))
        have mx : maxSD [.lst ((n :: ms).map D.int)] = .ok (.int (maxI n ms)) := d_maxS (ints_map (n :: ms))
        have x0 : ixD (.lst ((n :: ms).map D.int)) (.int 0) = .ok (.int n) := by
          have a0 : atI ((n :: ms).map D.int) 0 = some (.int n) := atI_of (j := 0) rfl rfl
          show (match atI ((n :: ms).map D.int) 0 with | some d => R.ok d | none => .stk) = _
          rw [a0]
        have nq : neD (.int (minI n ms)) (.int (maxI n ms)) = .ok (.bl (!decide (minI n ms = maxI n ms))) := by rw [neD_int]
        have pz : pairsD (l.map fun c => dt [c]) (r.1.map D.int) = (l.zip r.1).map fun p : Nat × Int => D.tup [dt [p.1], .int p.2] := pairsD_map
        have zz : szOk ((l.zip r.1).map fun p : Nat × Int => D.tup [dt [p.1], .int p.2]).length = true := szOk_of (by rw [List.length_map, List.length_zip]; omega)
        have iE : itD (ti r.1) = .ok (r.1.map D.int) := rfl
        rw [q3] at ne
        rw [q1, decide_eq_true rfl] at e1
        rw [q1] at i1
        generalize (n :: ms).map D.int = BD at *
        generalize minI n ms = m1 at *
        generalize maxI n ms = m2 at *
        generalize hX : bitsL r l = X at *
        cases q4 : (l.zip r.1).all (fitsB f) with
        | false =>
          rw [q4, if_neg Bool.false_ne_true] at lp
          rw [if_neg (fun z => by cases z.2.2.2.1)]
          simp only [C.g__law_row_bit, C.m__law_row_bit, s_dash]
          generalize C.t__law_row_bit_1 = TT1 at *
          generalize C.e__law_row_bit_1 = E1 at *
          generalize C.b__law_row_bit_1 = B1 at *
          generalize C.e__law_row_bit_2 = E2 at *
          generalize (l.filter fun c => !isSg c).map (fun c => dt [c]) = FL at *
          generalize (l.zip r.1).map (fun p : Nat × Int => D.tup [dt [p.1], .int p.2]) = ZP at *
          generalize (l.map fun c => dt [c]) = LC at *
          generalize (placesW l).map D.int = PD at *
          generalize r.1.map D.int = R1 at *
          generalize ti r.1 = T1 at *
          generalize ti r.2 = T2 at *
          generalize dNet ns = N at *
          generalize dt f = F at *
          generalize dt l = LL at *
          simp [e_fnP, ndT, isT, n22, b0, b1, iu, ln, isS, ndS, ix, i1, e1, lL, lE, q2, it, zl, c1, ne, iE, pz, zz, lp, optH]
        | true =>
          rw [q4, if_pos rfl] at lp
          by_cases q5 : m1 = m2
          · have q6 := o1.mp q5
            rw [if_pos ⟨q1, q2, q3, rfl, q6⟩, o2 q6]
            rw [decide_eq_true q5] at nq
            simp only [C.g__law_row_bit, C.m__law_row_bit, s_dash]
            generalize C.t__law_row_bit_1 = TT1 at *
            generalize C.e__law_row_bit_1 = E1 at *
            generalize C.b__law_row_bit_1 = B1 at *
            generalize C.e__law_row_bit_2 = E2 at *
            generalize (l.filter fun c => !isSg c).map (fun c => dt [c]) = FL at *
            generalize (l.zip r.1).map (fun p : Nat × Int => D.tup [dt [p.1], .int p.2]) = ZP at *
            generalize (l.map fun c => dt [c]) = LC at *
            generalize (placesW l).map D.int = PD at *
            generalize r.1.map D.int = R1 at *
            generalize ti r.1 = T1 at *
            generalize ti r.2 = T2 at *
            generalize dNet ns = N at *
            generalize dt f = F at *
            generalize dt l = LL at *
            simp [e_fnP, ndT, isT, n22, b0, b1, iu, ln, isS, ndS, ix, i1, e1, lL, lE, q2, it, zl, c1, ne, iE, pz, zz, lp, pw, zP, c2, mn, mx, nq, x0, optH]
          · rw [if_neg (fun z => q5 (o1.mpr z.2.2.2.2))]
            rw [decide_eq_false q5] at nq
            simp only [C.g__law_row_bit, C.m__law_row_bit, s_dash]
            generalize C.t__law_row_bit_1 = TT1 at *
            generalize C.e__law_row_bit_1 = E1 at *
            generalize C.b__law_row_bit_1 = B1 at *
            generalize C.e__law_row_bit_2 = E2 at *
            generalize (l.filter fun c => !isSg c).map (fun c => dt [c]) = FL at *
            generalize (l.zip r.1).map (fun p : Nat × Int => D.tup [dt [p.1], .int p.2]) = ZP at *
            generalize (l.map fun c => dt [c]) = LC at *
            generalize (placesW l).map D.int = PD at *
            generalize r.1.map D.int = R1 at *
            generalize ti r.1 = T1 at *
            generalize ti r.2 = T2 at *
            generalize dNet ns = N at *
            generalize dt f = F at *
            generalize dt l = LL at *
            simp [e_fnP, ndT, isT, n22, b0, b1, iu, ln, isS, ndS, ix, i1, e1, lL, lE, q2, it, zl, c1, ne, iE, pz, zz, lp, pw, zP, c2, mn, mx, nq, optH]
      · rw [if_neg (fun z => q3 z.2.2.1)]
        have q3 : l.all isSg = false := by simpa using q3
        rw [q3] at ne
        rw [q1, decide_eq_true rfl] at e1
        rw [q1] at i1
        simp only [C.g__law_row_bit, C.m__law_row_bit, s_dash]
        generalize C.t__law_row_bit_1 = TT1 at *
        generalize C.e__law_row_bit_1 = E1 at *
        generalize (l.filter fun c => !isSg c).map (fun c => dt [c]) = FL at *
        generalize (l.map fun c => dt [c]) = LC at *
        generalize ti r.1 = T1 at *
        generalize ti r.2 = T2 at *
        generalize dNet ns = N at *
        generalize dt f = F at *
        generalize dt l = LL at *
        simp [e_fnP, ndT, isT, n22, b0, b1, iu, ln, isS, ndS, ix, i1, e1, lL, lE, q2, it, zl, c1, ne, optH]
    · rw [if_neg (fun z => q2 z.2.1)]
      have q2 : ¬ (l.length : Int) = (r.1.length : Nat) := by omega
      rw [q1, decide_eq_true rfl] at e1
      rw [q1] at i1
      simp only [C.g__law_row_bit, C.m__law_row_bit, s_dash]
      generalize C.t__law_row_bit_1 = TT1 at *
      generalize C.e__law_row_bit_1 = E1 at *
      generalize ti r.1 = T1 at *
      generalize ti r.2 = T2 at *
      generalize dNet ns = N at *
      generalize dt f = F at *
      generalize dt l = LL at *
      simp [e_fnP, ndT, isT, n22, b0, b1, iu, ln, isS, ndS, ix, i1, e1, lL, lE, q2, optH]
  · rw [if_neg (fun z => q1 z.1)]
    have q7 : ¬ [f.getD k 0] = [45] := by simpa using q1
    rw [decide_eq_false q7] at e1
    generalize f.getD k 0 = fk at *
    simp only [C.g__law_row_bit, C.m__law_row_bit, s_dash]
    generalize C.t__law_row_bit_1 = TT1 at *
    generalize C.e__law_row_bit_1 = E1 at *
    generalize ti r.1 = T1 at *
    generalize ti r.2 = T2 at *
    generalize dNet ns = N at *
    generalize dt f = F at *
    generalize dt l = LL at *
    simp [e_fnP, ndT, isT, n22, b0, b1, iu, ln, isS, ndS, ix, i1, e1, lL, lE, optH]
end H

set_option Elab.async false
set_option linter.all false
set_option maxRecDepth 100000
set_option maxHeartbeats 4000000
namespace H
open PySem PySem.Spec PyProof.Rows L2 Y
def Rw (d : D) : Prop := Nd 2 d ∧ ∀ x s, d = .tup [x, .str s] → ∃ l, s = tx l ∧ SgOk l ∧ l.length ≤ 1000
def rowR (ns : List RuleT) (f : List Nat) : D → Option Int
  | .tup [.int a, .str s] => if 0 ≤ a ∧ a < ns.length then rowS ns f a.toNat s.cps.toList else none
  | _ => none
theorem tx_back {l : List Nat} : (tx l).cps.toList = l := by simp [tx]
theorem row_any {ns : List RuleT} {most : Nat} {f : List Nat} {d : D} (ok : NetOk ns most) (hm : most ≤ 20) (hf : CaseOk ns.length f) (h : Rw d) :
    C.g_bit_by [dNet ns, dt f, d] = .ok (optH (rowR ns f d)) ∧ C.g__law_row_bit [dNet ns, dt f, d] = .ok (optH (rowR ns f d)) := by
  obtain ⟨nd, hs⟩ := h
  have stop : ∀ (q : rowR ns f d = none), C.g_bit_by [dNet ns, dt f, d] = .ok (.fr .non) → C.g__law_row_bit [dNet ns, dt f, d] = .ok (.fr .non) → C.g_bit_by [dNet ns, dt f, d] = .ok (optH (rowR ns f d)) ∧ C.g__law_row_bit [dNet ns, dt f, d] = .ok (optH (rowR ns f d)) := fun q h1 h2 => by
    rw [q]; exact ⟨h1, h2⟩
  have ln : lenD [dNet ns] = .ok (.int ns.length) := by simp
  cases d with
  | dit _ _ => cases nd.1
  | ftu _ => cases nd.1
  | tup xs =>
    obtain ⟨_, hx⟩ := nd.tup
    match xs, hx with
    | [], _ =>
      generalize dNet ns = N at *
      generalize dt f = F at *
      exact stop rfl (by simp only [C.g_bit_by, C.m_bit_by]; simp [e_fnP, noDit, Y.isTup, neD_int]) (by simp only [C.g__law_row_bit, C.m__law_row_bit]; simp [e_fnP, noDit, Y.isTup, neD_int])
    | [x], _ =>
      have q : rowR ns f (.tup [x]) = none := by unfold rowR; simp
      generalize dNet ns = N at *
      generalize dt f = F at *
      exact stop q (by simp only [C.g_bit_by, C.m_bit_by]; simp [e_fnP, noDit, Y.isTup, neD_int]) (by simp only [C.g__law_row_bit, C.m__law_row_bit]; simp [e_fnP, noDit, Y.isTup, neD_int])
    | x :: y :: z :: w, _ =>
      have ne3 : ¬ ((w.length : Int) + 1 + 1 + 1 = 2) := by omega
      have q : rowR ns f (.tup (x :: y :: z :: w)) = none := by unfold rowR; simp
      generalize dNet ns = N at *
      generalize dt f = F at *
      exact stop q (by simp only [C.g_bit_by, C.m_bit_by]; simp [e_fnP, noDit, Y.isTup, neD_int, ne3]) (by simp only [C.g__law_row_bit, C.m__law_row_bit]; simp [e_fnP, noDit, Y.isTup, neD_int, ne3])
    | [x, y], hx =>
      have n1 := hx x (by simp)
      have n2 := hx y (by simp)
      have n22 : neD (.int 2) (.int 2) = .ok (.bl false) := by rw [neD_int]; rfl
      have b0 : ∀ x y : D, ixD (.tup [x, y]) (.int 0) = .ok x := fun _ _ => rfl
      have b1 : ∀ x y : D, ixD (.tup [x, y]) (.int 1) = .ok y := fun _ _ => rfl
      have ndT : ∀ x y : D, noDit (.tup [x, y]) = true := fun _ _ => rfl
      have isT : ∀ x y : D, Y.isTup (.tup [x, y]) = true := fun _ _ => rfl
      have u1 := upto_any (m := ns.length) n1.no
      have v1 : C.g__law_upto [x, .int ns.length] = .ok (.fr (.bl (upB ns.length x))) := by
        cases x with
        | int a => exact law_upto_int
        | dit _ _ => cases n1.1
        | ftu _ => cases n1.1
        | _ => simp only [C.g__law_upto, C.m__law_upto]; simp [e_fnP, noDit, Y.isInt, Y.isBl, upB]
      cases c1 : upB ns.length x with
      | false =>
        rw [c1] at u1 v1
        have q : rowR ns f (.tup [x, y]) = none := by
          cases x with
          | int a =>
            have c1 : ¬ (0 ≤ a ∧ a < ns.length) := by simpa [upB] using c1
            cases y <;> simp [rowR, c1]
          | _ => cases y <;> simp [rowR]
        generalize dNet ns = N at *
        generalize dt f = F at *
        exact stop q (by simp only [C.g_bit_by, C.m_bit_by]; simp [e_fnP, ndT, isT, n22, b0, b1, ln, u1]) (by simp only [C.g__law_row_bit, C.m__law_row_bit]; simp [e_fnP, ndT, isT, n22, b0, b1, ln, v1])
      | true =>
        rw [c1] at u1 v1
        obtain ⟨k, rfl, hk⟩ := upB_nat c1
        have ndY := n2.no
        cases c2 : Y.isStr y with
        | false =>
          have q : rowR ns f (.tup [.int (k : Nat), y]) = none := by
            cases y <;> simp [rowR, Y.isStr] at c2 ⊢
          generalize dNet ns = N at *
          generalize dt f = F at *
          exact stop q (by simp only [C.g_bit_by, C.m_bit_by]; simp [e_fnP, ndT, isT, n22, b0, b1, ln, u1, ndY, c2, -is_upto_int]) (by simp only [C.g__law_row_bit, C.m__law_row_bit]; simp [e_fnP, ndT, isT, n22, b0, b1, ln, v1, ndY, c2])
        | true =>
          cases y with
          | str s =>
            obtain ⟨l, rfl, h1, h2⟩ := hs _ s rfl
            have e : rowR ns f (.tup [.int (k : Nat), .str (tx l)]) = rowS ns f k l := by
              show (if 0 ≤ ((k : Nat) : Int) ∧ ((k : Nat) : Int) < ns.length then rowS ns f ((k : Nat) : Int).toNat (tx l).cps.toList else none) = _
              rw [if_pos ⟨by omega, by omega⟩, tx_back]
              rfl
            rw [e]
            exact ⟨bit_by_ok ok hm hf hk h2 h1, row_bit_ok ok hm hf hk h2 h1⟩
          | _ => cases c2
  | _ =>
    generalize dNet ns = N at *
    generalize dt f = F at *
    exact stop rfl (by simp only [C.g_bit_by, C.m_bit_by]; simp [e_fnP, noDit, Y.isTup]) (by simp only [C.g__law_row_bit, C.m__law_row_bit]; simp [e_fnP, noDit, Y.isTup])
end H

set_option Elab.async false
set_option linter.all false
set_option maxRecDepth 100000
set_option maxHeartbeats 4000000
namespace H
open PySem PySem.Spec PyProof.Rows L2 Y
def rowK : D → Nat
  | .tup (.int a :: _) => a.toNat
  | _ => 0
theorem rowS_bit {ns : List RuleT} {most k : Nat} {f l : List Nat} {b : Int} (ok : NetOk ns most) (hk : k < ns.length) (h : rowS ns f k l = some b) : 0 ≤ b ∧ b < 2 := by
  have lk := (ok.lk hk).lk
  unfold rowS at h
  split at h
  · rename_i c
    cases h
    have e1 := c.2.2.2.2
    generalize ns.getD k ([], []) = r at *
    match hX : bitsL r l, e1 with
    | [x], _ =>
      have m : x ∈ bitsL r l := by rw [hX]; simp
      unfold bitsL at m
      obtain ⟨p, _, e⟩ := List.mem_map.mp (setI_mem.mp m)
      have := getD_bit lk.bit p.toNat
      rw [e] at this
      simpa using this
  · cases h
theorem row_some {ns : List RuleT} {most : Nat} {f : List Nat} {d : D} {b : Int} (ok : NetOk ns most) (h : rowR ns f d = some b) : ixD d (.int 0) = .ok (.int (rowK d : Nat)) ∧ rowK d < ns.length ∧ 0 ≤ b ∧ b < 2 := by
  unfold rowR at h
  split at h
  · rename_i a s
    split at h
    · rename_i c
      have hk : a.toNat < ns.length := by omega
      refine ⟨?_, hk, rowS_bit ok hk h⟩
      show R.ok (D.int a) = _
      have : ((rowK (.tup [.int a, .str s]) : Nat) : Int) = a := by
        show ((a.toNat : Nat) : Int) = a
        omega
      rw [this]
    · cases h
  · cases h
def runP (ns : List RuleT) : List D → List Nat → Option (List Nat)
  | [], f => some f
  | d :: ds, f => match rowR ns f d with
    | none => none
    | some b => runP ns ds (sign f (rowK d) (48 + b.toNat))
theorem runP_ok {ns : List RuleT} {most : Nat} (ok : NetOk ns most) : ∀ {rows : List D} {f g : List Nat}, CaseOk ns.length f → runP ns rows f = some g → CaseOk ns.length g
  | [], f, g, hf, h => by cases h; exact hf
  | d :: ds, f, g, hf, h => by
    unfold runP at h
    cases e : rowR ns f d with
    | none => rw [e] at h; cases h
    | some b =>
      rw [e] at h
      obtain ⟨_, hk, hb⟩ := row_some ok e
      exact runP_ok ok (sign_ok hf hk (show 48 + b.toNat = 45 ∨ 48 + b.toNat = 48 ∨ 48 + b.toNat = 49 by omega)) h
theorem shown_loop {ns : List RuleT} {most : Nat} (ok : NetOk ns most) (hm : most ≤ 20) {r0 r1 r2 : Option D} : ∀ {rows : List D} {f : List Nat}, CaseOk ns.length f → (∀ d ∈ rows, Rw d) → ∃ ρ', forL (tmName 5) C.b_shown_pour_1 [5, 6] [] rows [r0, r1, r2, some (dNet ns), some (dt f), none, none, none] = match runP ns rows f with
    | some g => .ok (.nx, [r0, r1, r2, some (dNet ns), some (dt g), none, none, none])
    | none => .ok (.rt (.fr .non), ρ')
  | [], f, _, _ => ⟨[], rfl⟩
  | d :: ds, f, hf, h => by
    have le := ok.le
    obtain ⟨h1, _⟩ := row_any (d := d) ok hm hf (h d (by simp))
    cases e : rowR ns f d with
    | none =>
      rw [e] at h1
      have h1 : C.g_bit_by [dNet ns, dt f, d] = .ok (.fr .non) := h1
      have er : runP ns (d :: ds) f = none := by unfold runP; rw [e]
      rw [er]
      refine ⟨[r0, r1, r2, some (dNet ns), some (dt f), some d, some .non, none], for_rt ?_⟩
      generalize dNet ns = N at *
      generalize dt f = F at *
      simp only [turnF, C.b_shown_pour_1]
      simp [h1, Y.isNon]
    | some b =>
      rw [e] at h1
      have h1 : C.g_bit_by [dNet ns, dt f, d] = .ok (.vl (.int b)) := h1
      obtain ⟨ix, hk, hb⟩ := row_some ok e
      have er : runP ns (d :: ds) f = runP ns ds (sign f (rowK d) (48 + b.toNat)) := by
        show (match rowR ns f d with | none => none | some b => runP ns ds (sign f (rowK d) (48 + b.toNat))) = _
        rw [e]
      rw [er]
      have w := (with_sign_ok (c := 48 + b.toNat) (by omega) hf hk).1
      have sb : strOfD [.int b] = .ok (dt [48 + b.toNat]) := str_bit hb
      obtain ⟨ρ', ih⟩ := shown_loop ok hm (r0 := r0) (r1 := r1) (r2 := r2) (rows := ds) (sign_ok hf hk (show 48 + b.toNat = 45 ∨ 48 + b.toNat = 48 ∨ 48 + b.toNat = 49 by omega)) fun d hd => h d (by simp [hd])
      have turn : turnF (tmName 5) C.b_shown_pour_1 [5, 6] d [r0, r1, r2, some (dNet ns), some (dt f), none, none, none] = .ok (.nx, [r0, r1, r2, some (dNet ns), some (dt (sign f (rowK d) (48 + b.toNat))), none, none, none]) := by
        clear ih
        generalize sign f (rowK d) (48 + b.toNat) = g at *
        generalize rowK d = k at *
        generalize dNet ns = N at *
        generalize dt f = F at *
        simp only [turnF, C.b_shown_pour_1]
        simp [h1, Y.isNon, ix, sb, w]
      refine ⟨ρ', ?_⟩
      cases c : runP ns ds (sign f (rowK d) (48 + b.toNat)) with
      | some g => rw [c] at ih; exact for_cons turn (by simp) ih
      | none => rw [c] at ih; exact for_cons turn (by simp) ih
theorem right_loop {ns : List RuleT} {most : Nat} (ok : NetOk ns most) (hm : most ≤ 20) {r1 r2 : Option D} : ∀ {rows : List D} {f : List Nat}, CaseOk ns.length f → (∀ d ∈ rows, Rw d) → ∃ ρ', forL (tmName 6) C.b__law_pour_right_2 [5, 6] [] rows [some (dNet ns), r1, r2, some (dt f), none, none, none, none] = match runP ns rows f with
    | some g => .ok (.nx, [some (dNet ns), r1, r2, some (dt g), none, none, none, none])
    | none => .ok (.rt (.fr .non), ρ')
  | [], f, _, _ => ⟨[], rfl⟩
  | d :: ds, f, hf, h => by
    have le := ok.le
    obtain ⟨_, h1⟩ := row_any (d := d) ok hm hf (h d (by simp))
    cases e : rowR ns f d with
    | none =>
      rw [e] at h1
      have h1 : C.g__law_row_bit [dNet ns, dt f, d] = .ok (.fr .non) := h1
      have er : runP ns (d :: ds) f = none := by unfold runP; rw [e]
      rw [er]
      refine ⟨[some (dNet ns), r1, r2, some (dt f), none, some .non, some d, none], for_rt ?_⟩
      generalize dNet ns = N at *
      generalize dt f = F at *
      simp only [turnF, C.b__law_pour_right_2]
      simp [h1, Y.isNon]
    | some b =>
      rw [e] at h1
      have h1 : C.g__law_row_bit [dNet ns, dt f, d] = .ok (.vl (.int b)) := h1
      obtain ⟨ix, hk, hb⟩ := row_some ok e
      have er : runP ns (d :: ds) f = runP ns ds (sign f (rowK d) (48 + b.toNat)) := by
        show (match rowR ns f d with | none => none | some b => runP ns ds (sign f (rowK d) (48 + b.toNat))) = _
        rw [e]
      rw [er]
      have w := (with_sign_ok (c := 48 + b.toNat) (by omega) hf hk).2
      have sb : strOfD [.int b] = .ok (dt [48 + b.toNat]) := str_bit hb
      obtain ⟨ρ', ih⟩ := right_loop ok hm (r1 := r1) (r2 := r2) (rows := ds) (sign_ok hf hk (show 48 + b.toNat = 45 ∨ 48 + b.toNat = 48 ∨ 48 + b.toNat = 49 by omega)) fun d hd => h d (by simp [hd])
      have turn : turnF (tmName 6) C.b__law_pour_right_2 [5, 6] d [some (dNet ns), r1, r2, some (dt f), none, none, none, none] = .ok (.nx, [some (dNet ns), r1, r2, some (dt (sign f (rowK d) (48 + b.toNat))), none, none, none, none]) := by
        clear ih
        generalize sign f (rowK d) (48 + b.toNat) = g at *
        generalize rowK d = k at *
        generalize dNet ns = N at *
        generalize dt f = F at *
        simp only [turnF, C.b__law_pour_right_2]
        simp [h1, Y.isNon, ix, sb, w]
      refine ⟨ρ', ?_⟩
      cases c : runP ns ds (sign f (rowK d) (48 + b.toNat)) with
      | some g => rw [c] at ih; exact for_cons turn (by simp) ih
      | none => rw [c] at ih; exact for_cons turn (by simp) ih
end H

set_option Elab.async false
set_option linter.all false
set_option maxRecDepth 100000
set_option maxHeartbeats 4000000
namespace H
open PySem PySem.Spec PyProof.Rows L2 Y
def endP : Option (List Nat) → D
  | none => .non
  | some g => if 45 ∈ g then .non else ti (g.map fun c : Nat => ((c : Nat) : Int) - 48)
theorem tail_comp {g : List Nat} {n : Nat} (hg : CaseOk n g) (hd : 45 ∉ g) (e : EM) (v : Nat) (ρ : Y.Env) (he : ∀ c, (c = 48 ∨ c = 49) → turnC (tmName v) cYes e [v] (dt [c]) ρ = .ok (some (.int ((c : Int) - 48)), ρ)) :
    cCompL (tmName v) cYes e [v] [] (g.map fun c => dt [c]) ρ = .ok ((g.map fun c : Nat => ((c : Nat) : Int) - 48).map D.int, ρ) := by
  have c := comp_map (tm := tmName v) (t := cYes) (e := e) (vs := [v]) (ws := []) (ρ := ρ) (fun c : Nat => dt [c]) (fun c : Nat => D.int ((c : Int) - 48)) g fun c hc => he c (by
    rcases hg.sg c hc with rfl | h | h
    · exact absurd hc hd
    · exact .inl h
    · exact .inr h)
  rw [c, List.map_map]
  rfl
theorem shown_pour_ok {ns : List RuleT} {hs : List (Nat × Int)} {most : Nat} {rows : List D} (ok : NetOk ns most) (hm : most ≤ 8) (h : HoldsOk ns.length hs) (hr : ∀ d ∈ rows, Rw d) (hl : rows.length ≤ 1000000) :
    C.g_shown_pour [dNet ns, HD hs, .lst rows] = .ok (.fr (endP (runP (heldL ns hs) rows (frH ns.length hs)))) := by
  have le := ok.le
  have hd := held_net_ok h (by omega)
  have ok2 := held_net ok h
  have ll := heldL_len (ns := ns) (hs := hs)
  obtain ⟨fo, fc⟩ := frame_of_ok (XD := HD hs) (.inr rfl) h (by omega)
  have fc2 : CaseOk (heldL ns hs).length (frH ns.length hs) := by rw [ll]; exact fc
  obtain ⟨ρ', lp⟩ := shown_loop ok2 (by omega) (r0 := some (dNet ns)) (r1 := some (HD hs)) (r2 := some (.lst rows)) fc2 hr
  have zl : szOk rows.length = true := szOk_of (by omega)
  have isL : Y.isLst (.lst rows) = true := rfl
  have ndL : noDit (.lst rows) = true := rfl
  cases e : runP (heldL ns hs) rows (frH ns.length hs) with
  | none =>
    rw [e] at lp
    dsimp only at lp
    simp only [C.g_shown_pour, C.m_shown_pour]
    generalize C.b_shown_pour_1 = B at *
    generalize dNet (heldL ns hs) = N2 at *
    generalize dNet ns = N at *
    generalize dt (frH ns.length hs) = F at *
    generalize HD hs = HX at *
    simp [e_fnP, hd, ndL, isL, fo, zl, lp, endP]
  | some g =>
    rw [e] at lp
    dsimp only at lp
    have gc := runP_ok ok2 fc2 e
    have iN := in_text (c := 45) (l := g)
    have it := it_dt (a := g)
    have zg : szOk (g.map fun c => dt [c]).length = true := szOk_of (by rw [List.length_map, gc.len, ll]; omega)
    by_cases c : 45 ∈ g
    · rw [decide_eq_true c] at iN
      simp only [C.g_shown_pour, C.m_shown_pour, s_dash]
      generalize C.b_shown_pour_1 = B at *
      generalize dNet (heldL ns hs) = N2 at *
      generalize dNet ns = N at *
      generalize dt (frH ns.length hs) = F at *
      generalize HD hs = HX at *
      have eE : endP (some g) = .non := by show (if 45 ∈ g then _ else _) = _; rw [if_pos c]
      rw [eE]
      generalize dt g = G at *
      simp [e_fnP, hd, ndL, isL, fo, zl, lp, iN]
    · rw [decide_eq_false c] at iN
      have cm := tail_comp gc c C.e_shown_pour_1 7 [some (dNet ns), some (HD hs), some (.lst rows), some (dNet (heldL ns hs)), some (dt g), none, none, none] fun c hc => by
        have i1 := int_of_sg hc
        generalize dNet (heldL ns hs) = N2 at *
        generalize dNet ns = N at *
        generalize HD hs = HX at *
        generalize dt g = G at *
        simp only [turnC, C.e_shown_pour_1]
        simp [i1]
      have eE : endP (some g) = .tup ((g.map fun c : Nat => ((c : Nat) : Int) - 48).map D.int) := by show (if 45 ∈ g then _ else _) = _; rw [if_neg c]
      rw [eE]
      simp only [C.g_shown_pour, C.m_shown_pour, s_dash]
      generalize C.b_shown_pour_1 = B at *
      generalize C.e_shown_pour_1 = E1 at *
      generalize dNet (heldL ns hs) = N2 at *
      generalize dNet ns = N at *
      generalize dt (frH ns.length hs) = F at *
      generalize HD hs = HX at *
      generalize (g.map fun c : Nat => ((c : Nat) : Int) - 48).map D.int = TT at *
      generalize (g.map fun c => dt [c]) = GC at *
      generalize dt g = G at *
      simp [e_fnP, hd, ndL, isL, fo, zl, lp, iN, it, zg, cm]
theorem shown_pour_no {ns : List RuleT} {hs : List (Nat × Int)} {most : Nat} {d : D} (ok : NetOk ns most) (hm : most ≤ 8) (h : HoldsOk ns.length hs) (nd : noDit d = true) (nl : Y.isLst d = false) :
    C.g_shown_pour [dNet ns, HD hs, d] = .ok (.fr .non) := by
  have le := ok.le
  have hd := held_net_ok h (by omega)
  generalize dNet (heldL ns hs) = N2 at *
  generalize dNet ns = N at *
  generalize HD hs = HX at *
  simp only [C.g_shown_pour, C.m_shown_pour]
  simp [e_fnP, hd, nd, nl]
theorem pour_right_no {N HX : D} {d : D} (nd : noDit d = true) (nl : Y.isLst d = false) : C.g__law_pour_right [N, HX, d] = .ok (.fr .non) := by
  simp only [C.g__law_pour_right, C.m__law_pour_right]
  simp [e_fnP, nd, nl]
theorem pour_right_ok {ns2 : List RuleT} {m : Nat} {hs : List (Nat × Int)} {most : Nat} {rows : List D} (ok2 : NetOk ns2 most) (hm : most ≤ 8) (lm : ns2.length = m) (h : HoldsOk m hs) (hr : ∀ d ∈ rows, Rw d) (hl : rows.length ≤ 1000000) :
    C.g__law_pour_right [dNet ns2, HD hs, .lst rows] = .ok (.fr (endP (runP ns2 rows (frH m hs)))) := by
  subst lm
  have le := ok2.le
  have hln := h.len
  have okT : ∀ i, CaseOk ns2.length (frH ns2.length (hs.take i)) := fun i => frH_ok rep_case fun p hp => ⟨h.lt p (List.mem_of_mem_take hp), h.bit p (List.mem_of_mem_take hp)⟩
  have fc : CaseOk ns2.length (frH ns2.length hs) := by have := okT hs.length; rwa [List.take_length] at this
  have ln : lenD [dNet ns2] = .ok (.int ns2.length) := by simp
  have lp0 := for_idx (tm := tmTup [4, 5]) (body := C.b__law_pour_right_1) (vs := [4, 5]) (ws := []) dH hs (fun i => [some (dNet ns2), some (HD hs), some (.lst rows), some (dt (frH ns2.length (hs.take i))), none, none, none, none]) fun i hi => by
    refine ⟨by simp, ?_⟩
    have l2 := h.lt _ (List.getElem_mem hi)
    have l3 := h.bit _ (List.getElem_mem hi)
    have et : hs.take (i + 1) = hs.take i ++ [hs[i]] := List.take_succ_eq_append_getElem hi
    have w := (with_sign_ok (c := 48 + (hs[i]).2.toNat) (by omega) (okT i) l2).2
    rw [et, frH_snoc]
    have sb : strOfD [.int (hs[i]).2] = .ok (dt [48 + (hs[i]).2.toNat]) := str_bit l3
    unfold dH
    generalize frH ns2.length (hs.take i) = f at *
    generalize sign f (hs[i]).1 (48 + (hs[i]).2.toNat) = g at *
    generalize (hs[i]).1 = k at *
    generalize (hs[i]).2 = b at *
    generalize dNet ns2 = N at *
    generalize HD hs = HX at *
    simp only [turnF, C.b__law_pour_right_1]
    simp [sb, w]
  rw [List.take_length] at lp0
  have lp0 : forL (tmTup [4, 5]) C.b__law_pour_right_1 [4, 5] [] (hs.map dH) [some (dNet ns2), some (HD hs), some (.lst rows), some (dt (List.replicate ns2.length 45)), none, none, none, none] = .ok (.nx, [some (dNet ns2), some (HD hs), some (.lst rows), some (dt (frH ns2.length hs)), none, none, none, none]) := lp0
  obtain ⟨ρ', lp⟩ := right_loop ok2 (by omega) (r1 := some (HD hs)) (r2 := some (.lst rows)) fc hr
  have zl : szOk rows.length = true := szOk_of (by omega)
  have zh : szOk (hs.map dH).length = true := szOk_of (by rw [List.length_map]; omega)
  have isL : Y.isLst (.lst rows) = true := rfl
  have ndL : noDit (.lst rows) = true := rfl
  have dm := dash_mul (n := ns2.length) (by omega)
  have eH : HD hs = .ftu (hs.map dH) := rfl
  have sd : (Str.ofString "-") = tx [45] := rfl
  cases e : runP ns2 rows (frH ns2.length hs) with
  | none =>
    rw [e] at lp
    dsimp only at lp
    rw [eH] at lp lp0 ⊢
    simp only [C.g__law_pour_right, C.m__law_pour_right]
    generalize C.b__law_pour_right_1 = B1 at *
    generalize C.b__law_pour_right_2 = B2 at *
    generalize dNet ns2 = N at *
    generalize dt (frH ns2.length hs) = F at *
    generalize dt (List.replicate ns2.length 45) = F0 at *
    generalize hs.map dH = HH at *
    simp [e_fnP, ndL, isL, ln, dm, zh, lp0, zl, lp, endP, -d_mulS]
  | some g =>
    rw [e] at lp
    dsimp only at lp
    have gc := runP_ok ok2 fc e
    have iN := in_text (c := 45) (l := g)
    have iN : inD (.str "-") (dt g) = .ok (.bl (decide (45 ∈ g))) := iN
    have it := it_dt (a := g)
    have zg : szOk (g.map fun c => dt [c]).length = true := szOk_of (by rw [List.length_map, gc.len]; omega)
    by_cases c : 45 ∈ g
    · rw [decide_eq_true c] at iN
      have eE : endP (some g) = .non := by show (if 45 ∈ g then _ else _) = _; rw [if_pos c]
      rw [eE]
      rw [eH] at lp lp0 ⊢
      simp only [C.g__law_pour_right, C.m__law_pour_right]
      generalize C.b__law_pour_right_1 = B1 at *
      generalize C.b__law_pour_right_2 = B2 at *
      generalize dNet ns2 = N at *
      generalize dt (frH ns2.length hs) = F at *
      generalize dt (List.replicate ns2.length 45) = F0 at *
      generalize hs.map dH = HH at *
      generalize dt g = G at *
      simp [e_fnP, ndL, isL, ln, dm, zh, lp0, zl, lp, iN, -d_mulS]
    · rw [decide_eq_false c] at iN
      have cm := tail_comp gc c C.e__law_pour_right_1 7 [some (dNet ns2), some (HD hs), some (.lst rows), some (dt g), none, none, none, none] fun c hc => by
        have i1 := int_of_sg hc
        generalize dNet ns2 = N at *
        generalize HD hs = HX at *
        generalize dt g = G at *
        simp only [turnC, C.e__law_pour_right_1]
        simp [i1]
      have eE : endP (some g) = .tup ((g.map fun c : Nat => ((c : Nat) : Int) - 48).map D.int) := by show (if 45 ∈ g then _ else _) = _; rw [if_neg c]
      rw [eE]
      rw [eH] at lp lp0 cm ⊢
      simp only [C.g__law_pour_right, C.m__law_pour_right]
      generalize C.b__law_pour_right_1 = B1 at *
      generalize C.b__law_pour_right_2 = B2 at *
      generalize C.e__law_pour_right_1 = E1 at *
      generalize dNet ns2 = N at *
      generalize dt (frH ns2.length hs) = F at *
      generalize dt (List.replicate ns2.length 45) = F0 at *
      generalize hs.map dH = HH at *
      generalize (g.map fun c : Nat => ((c : Nat) : Int) - 48).map D.int = TT at *
      generalize (g.map fun c => dt [c]) = GC at *
      generalize dt g = G at *
      simp [e_fnP, ndL, isL, ln, dm, zh, lp0, zl, lp, iN, it, zg, cm, -d_mulS]
end H

set_option Elab.async false
set_option linter.all false
set_option maxRecDepth 100000
set_option maxHeartbeats 4000000
namespace H
open PySem PySem.Spec PyProof.Rows L2 Y
def Txt (s : Str) : Prop := ∃ l, s = tx l ∧ SgOk l ∧ l.length ≤ 1000
theorem txt_of {s : Str} (h : (s.cps.toList.all fun c => decide (c < 1114112)) = true) (hl : s.cps.toList.length ≤ 1000) : Txt s := by
  refine ⟨s.cps.toList, ?_, fun c hc => ?_, hl⟩
  · cases s
    simp [tx]
  · exact of_decide_eq_true (List.all_eq_true.mp h c hc)
def PT (d : D) : Prop := (∃ rows, d = .lst rows ∧ (∀ x ∈ rows, Rw x) ∧ rows.length ≤ 1000000) ∨ (noDit d = true ∧ Y.isLst d = false)
structure Oq (d : D) : Prop where
  nd : Nd 3 d
  txt : ∀ s, d = .str s → Txt s
  rw : Rw d
  pt : PT d
theorem rw_flat {d : D} (h : Nd 2 d) (h2 : ∀ x s, d ≠ .tup [x, .str s]) : Rw d := ⟨h, fun x s e => absurd e (h2 x s)⟩
theorem pt_flat {d : D} (h : noDit d = true) (h2 : Y.isLst d = false) : PT d := .inr ⟨h, h2⟩
theorem oq_flat {d : D} (h : Nd 3 d) (h1 : ∀ s, d ≠ .str s) (h2 : ∀ x s, d ≠ .tup [x, .str s]) (h3 : Y.isLst d = false) : Oq d := ⟨h, fun s e => absurd e (h1 s), rw_flat h.down h2, pt_flat h.no h3⟩
theorem oq_str {s : Str} (h : (s.cps.toList.all fun c => decide (c < 1114112)) = true) (hl : s.cps.toList.length ≤ 1000) : Oq (.str s) := ⟨nd_str, fun t e => by cases e; exact txt_of h hl, rw_flat nd_str fun _ _ => by simp, pt_flat rfl rfl⟩
theorem oq_lst1 {x : D} (h : Rw x) : Oq (.lst [x]) := ⟨nd_lst, fun s e => (by cases e), rw_flat nd_lst fun _ _ e => (by cases e), .inl ⟨_, rfl, fun y hy => (by rw [List.mem_singleton.mp hy]; exact h), by simp⟩⟩
theorem oq_lst2 {x z : D} (h : Rw x) (h2 : Rw z) : Oq (.lst [x, z]) := ⟨nd_lst, fun s e => (by cases e), rw_flat nd_lst fun _ _ e => (by cases e), .inl ⟨_, rfl, fun y hy => by
  simp only [List.mem_cons, List.not_mem_nil, or_false] at hy
  rcases hy with rfl | rfl <;> assumption, by simp⟩⟩
theorem odd_oq {n : Int} : ∃ (d : D) (n' : Int), C.g__law_odd [.lst [.int n]] = .ok (.vl d, [some (.lst [.int n'])]) ∧ Oq d := by
  have tk := take_ok (n := n) (m := 27) (by omega) (by omega)
  obtain ⟨d, e, hd⟩ := atI_any (i := n % 27) (p := Oq) (L := [.non, .bl true, .bl false, .int (-1), .int 0, .int 1, .int 2, .int 9, .str "", .str "0", .str "-", .tup [], .tup [.int 0], .tup [.int 1], .tup [.bl true], .lst [.int 0], .dik [] [], .tup [.non], .int 1000000000000000000000000000000000000000,
    .tup [.tup [], .tup [.int 0]], .tup [.tup [.int 0], .tup [.int 0, .int 1]], .tup [.int 0, .int 1], .lst [.tup [], .tup [.int 1]], .str "0-1", .tup [.str "rest"], .tup [.tup [.int 0, .int 1]], .tup [.int 2]]) (by omega) (by simp; omega) (by
      intro x hx
      simp only [List.mem_cons, List.not_mem_nil, or_false] at hx
      rcases hx with h|h|h|h|h|h|h|h|h|h|h|h|h|h|h|h|h|h|h|h|h|h|h|h|h|h|h <;> subst h <;> first
        | exact oq_str (by decide +kernel) (by decide +kernel)
        | exact oq_lst2 (rw_flat (by simp [Nd, noDit]) (by simp)) (rw_flat (by simp [Nd, noDit]) (by simp))
        | exact oq_lst1 (rw_flat (by simp [Nd, noDit]) (by simp))
        | exact oq_flat (by simp [Nd, noDit]) (by simp) (by simp) rfl)
  refine ⟨d, n / 27, ?_, hd⟩
  simp only [C.g__law_odd, C.m__law_odd]
  simp [e_fnD, tk, e, szOk_of]
def dR (p : Nat × List Nat) : D := .tup [.int (p.1 : Nat), dt p.2]
structure RowsOk (n : Nat) (P : List (Nat × List Nat)) : Prop where
  len : P.length ≤ 100
  lt : ∀ p ∈ P, p.1 < n
  sg : ∀ p ∈ P, SgOk p.2 ∧ p.2.length ≤ 100
theorem rw_row {k : Nat} {l : List Nat} (h : SgOk l) (hl : l.length ≤ 1000) : Rw (.tup [.int (k : Nat), dt l]) := ⟨nd_pair nd_int nd_str, fun x s e => by
  cases e
  exact ⟨l, rfl, h, hl⟩⟩
theorem rw_odd1 {d : D} (h : Oq d) {k : Nat} : Rw (.tup [.int (k : Nat), d]) := ⟨nd_pair nd_int h.nd.down.down, fun x s e => by
  cases e
  exact h.txt s rfl⟩
theorem rw_odd2 {d : D} (h : Oq d) {l : List Nat} (hs : SgOk l) (hl : l.length ≤ 1000) : Rw (.tup [d, dt l]) := ⟨nd_pair h.nd.down.down nd_str, fun x s e => by
  cases e
  exact ⟨l, rfl, hs, hl⟩⟩
end H

set_option Elab.async false
set_option linter.all false
set_option maxRecDepth 100000
set_option maxHeartbeats 4000000
namespace H
open PySem PySem.Spec PyProof.Rows L2 Y
theorem add_lst {x y : List D} (h : x.length + y.length ≤ 1000000) : addD (.lst x) (.lst y) = .ok (.lst (x ++ y)) := by
  show (if szOk (x.length + y.length) = true then R.ok (D.lst (x ++ y)) else .stk) = _
  rw [if_pos (szOk_of (by omega))]
theorem s012 : (Str.ofString "01-2") = tx [48, 49, 45, 50] := by decide +kernel
theorem law_other_ok {n : Int} {ns : List RuleT} {P : List (Nat × List Nat)} (hn : 1 ≤ ns.length ∧ ns.length ≤ 20) (h : RowsOk ns.length P) :
    ∃ (hd : Hd) (d : D) (n' : Int), C.g__law_other_3 [.lst [.int n], dNet ns, .lst (P.map dR)] = .ok (hd, [some (.lst [.int n']), none, none]) ∧ (hd = .fr d ∨ hd = .vl d) ∧ PT d := by
  have ln : lenD [dNet ns] = .ok (.int ns.length) := by simp
  have fe : Fit 3 (.lst (P.map dR)) := fun d hd => by
    obtain ⟨p, hp, rfl⟩ := List.mem_map.mp hd
    intro x hx
    have hx : x = .int (p.1 : Nat) ∨ x = dt p.2 := by simpa [dR] using hx
    rcases hx with rfl | rfl
    · trivial
    · exact fit_dt (h.sg p hp).1
  have eq := eqD_of (n := 3) fe (fit_nil (n := 2))
  rw [eqP_lst, eqPs_nil] at eq
  have hl := h.len
  have tk1 := take_ok (n := n) (m := (ns.length : Nat)) (by omega) (by omega)
  cases hP : P with
  | nil =>
    obtain ⟨j, hj⟩ : ∃ j : Nat, n % (ns.length : Nat) = j := ⟨(n % (ns.length : Nat)).toNat, by
      have : 0 ≤ n % ((ns.length : Nat) : Int) := Int.emod_nonneg _ (by omega)
      omega⟩
    rw [hj] at tk1
    have e0 : (D.str (Str.ofString "")) = dt [] := rfl
    rw [hP] at eq
    refine ⟨.fr (.lst [.tup [.int (j : Nat), dt []]]), .lst [.tup [.int (j : Nat), dt []]], n / (ns.length : Nat), ?_, .inl rfl, .inl ⟨_, rfl, fun x hx => by rw [List.mem_singleton.mp hx]; exact rw_row (by simp [SgOk]) (by simp), by simp⟩⟩
    have eq : eqD (.lst []) (.lst []) = .ok (.bl true) := eq
    simp only [C.g__law_other_3, C.m__law_other_3]
    generalize dNet ns = N at *
    simp [e_fnD, eq, ln, tk1, szOk_of]
    rfl
  | cons p0 P0 =>
    have hlp : 0 < P.length := by rw [hP]; simp
    rw [← hP]
    have eq : eqD (.lst (P.map dR)) (.lst []) = .ok (.bl false) := by rw [eq, hP]; rfl
    have tw := take_ok (n := n) (m := (P.length : Nat)) (by omega) (by omega)
    obtain ⟨w, hw⟩ : ∃ w : Nat, n % (P.length : Nat) = w := ⟨(n % (P.length : Nat)).toNat, by
      have : 0 ≤ n % ((P.length : Nat) : Int) := Int.emod_nonneg _ (by omega)
      omega⟩
    have hwl : w < P.length := by
      have : n % ((P.length : Nat) : Int) < P.length := Int.emod_lt_of_pos _ (by omega)
      omega
    rw [hw] at tw
    generalize n / (P.length : Nat) = n1 at *
    have tt := take_ok (n := n1) (m := (P.length : Nat)) (by omega) (by omega)
    obtain ⟨t, ht⟩ : ∃ t : Nat, n1 % (P.length : Nat) = t := ⟨(n1 % (P.length : Nat)).toNat, by
      have : 0 ≤ n1 % ((P.length : Nat) : Int) := Int.emod_nonneg _ (by omega)
      omega⟩
    rw [ht] at tt
    generalize n1 / (P.length : Nat) = n2 at *
    have hm := List.getElem_mem hwl
    have hk := h.lt _ hm
    obtain ⟨hs, hsl⟩ := h.sg _ hm
    have ix : ixD (.lst (P.map dR)) (.int (w : Nat)) = .ok (.tup [.int ((P[w]).1 : Nat), dt (P[w]).2]) := by
      have : atI (P.map dR) (w : Nat) = some (dR P[w]) := by
        refine atI_nat ?_
        rw [List.getElem?_map, List.getElem?_eq_getElem hwl]
        rfl
      show (match atI (P.map dR) (w : Int) with | some d => R.ok d | none => .stk) = _
      rw [this]
      rfl
    have lP : lenD [.lst (P.map dR)] = .ok (.int P.length) := by rw [d_lenL, List.length_map]
    have iP : ∀ x ∈ P.map dR, Rw x := fun x hx => by
      obtain ⟨p, hp, rfl⟩ := List.mem_map.mp hx
      exact rw_row (h.sg p hp).1 (by have := (h.sg p hp).2; omega)
    have lP2 : (P.map dR).length ≤ 100 := by rw [List.length_map]; exact hl
    generalize (P[w]).1 = k at *
    generalize (P[w]).2 = s at *
    have lS : lenD [dt s] = .ok (.int s.length) := by
      have : lenD [.str (tx s)] = .ok (.int (tx s).length) := by simp [tx_len, szOk_of (show s.length ≤ 16777216 by omega)]
      rw [tx_len] at this
      exact this
    have tp := take_ok (n := n2) (m := (s.length : Int) + 1) (by omega) (by omega)
    obtain ⟨pl, hp⟩ : ∃ pl : Nat, n2 % ((s.length : Int) + 1) = pl := ⟨(n2 % ((s.length : Int) + 1)).toNat, by
      have : 0 ≤ n2 % ((s.length : Int) + 1) := Int.emod_nonneg _ (by omega)
      omega⟩
    rw [hp] at tp
    generalize n2 / ((s.length : Int) + 1) = n3 at *
    have t4 := take_ok (n := n3) (m := 4) (by omega) (by omega)
    obtain ⟨q, hq, hq4⟩ : ∃ q : Nat, n3 % 4 = q ∧ q < 4 := ⟨(n3 % 4).toNat, by omega, by omega⟩
    rw [hq] at t4
    generalize n3 / 4 = n4 at *
    have i4 := ix_dt (l := [48, 49, 45, 50]) (k := q) (by simpa using hq4) (by simp)
    obtain ⟨c, hc, hcs⟩ : ∃ c : Nat, [48, 49, 45, 50].getD q 0 = c ∧ c < 1000 := ⟨_, rfl, by
      rcases (by omega : q = 0 ∨ q = 1 ∨ q = 2 ∨ q = 3) with rfl | rfl | rfl | rfl <;> decide⟩
    rw [hc] at i4
    have i4 : ixD (.str (tx [48, 49, 45, 50])) (.int (q : Nat)) = .ok (dt [c]) := i4
    obtain ⟨odd, n5, ho, oq⟩ := odd_oq (n := n4)
    have tj := take_ok (n := n5) (m := (ns.length : Nat)) (by omega) (by omega)
    obtain ⟨j, hj⟩ : ∃ j : Nat, n5 % (ns.length : Nat) = j := ⟨(n5 % (ns.length : Nat)).toNat, by
      have : 0 ≤ n5 % ((ns.length : Nat) : Int) := Int.emod_nonneg _ (by omega)
      omega⟩
    rw [hj] at tj
    generalize n5 / (ns.length : Nat) = n6 at *
    -- texts
    have x1 := slice_lo (l := s) (k := pl) (by omega)
    have x2 := slice_up (l := s) (k := pl + 1) (by omega)
    have x2 : sliceD (dt s) (some ((pl : Int) + 1)) none = .ok (dt (s.drop (pl + 1))) := x2
    have x3 := slice_up (l := s) (k := 1) (by omega)
    have x3 : sliceD (dt s) (some 1) none = .ok (dt (s.drop 1)) := x3
    have y1 := add_dt (a := s.take pl) (b := [c]) (by rw [List.length_take]; simp; omega)
    have y2 := add_dt (a := s.take pl ++ [c]) (b := s.drop (pl + 1)) (by rw [List.length_append, List.length_take, List.length_drop]; simp; omega)
    have y3 := add_dt (a := s) (b := [45]) (by simp; omega)
    have y4 := dash_mul (n := s.length) (by omega)
    have g1 : SgOk (s.take pl ++ [c] ++ s.drop (pl + 1)) ∧ (s.take pl ++ [c] ++ s.drop (pl + 1)).length ≤ 1000 := by
      refine ⟨fun z hz => ?_, by rw [List.length_append, List.length_append, List.length_take, List.length_drop]; simp; omega⟩
      rcases List.mem_append.mp hz with hz | hz
      · rcases List.mem_append.mp hz with hz | hz
        · exact hs z (List.mem_of_mem_take hz)
        · rw [List.mem_singleton.mp hz]; omega
      · exact hs z (List.mem_of_mem_drop hz)
    have g2 : SgOk (s ++ [45]) ∧ (s ++ [45]).length ≤ 1000 := ⟨fun z hz => by
      rcases List.mem_append.mp hz with hz | hz
      · exact hs z hz
      · rw [List.mem_singleton.mp hz]; omega, by rw [List.length_append]; simp; omega⟩
    have g3 : SgOk (List.replicate s.length 45) ∧ (List.replicate s.length 45).length ≤ 1000 := ⟨fun z hz => by rw [(List.mem_replicate.mp hz).2]; omega, by simp; omega⟩
    have g4 : SgOk (s.drop 1) ∧ (s.drop 1).length ≤ 1000 := ⟨fun z hz => hs z (List.mem_of_mem_drop hz), by rw [List.length_drop]; omega⟩
    -- the rows
    obtain ⟨RW, hRW⟩ : ∃ RW, [D.tup [.int (k : Nat), dt (s.take pl ++ [c] ++ s.drop (pl + 1))], .tup [.int (j : Nat), dt s], .tup [.int (k : Nat), dt (s ++ [45])], .tup [.int (k : Nat), odd], .tup [odd, dt s], odd, .lst [.int (k : Nat), dt s], .tup [.int (k : Nat), dt s, .int 0], .tup [.int (k : Nat)], .tup [.int (k : Nat), dt (List.replicate s.length 45)], .tup [.int (k : Nat), dt (s.drop 1)]] = RW := ⟨_, rfl⟩
    have lRW : RW.length = 11 := by rw [← hRW]; rfl
    have iRW : ∀ x ∈ RW, Rw x := fun x hx => by
      rw [← hRW] at hx
      simp only [List.mem_cons, List.not_mem_nil, or_false] at hx
      rcases hx with rfl | rfl | rfl | rfl | rfl | rfl | rfl | rfl | rfl | rfl | rfl
      · exact rw_row g1.1 g1.2
      · exact rw_row hs (by omega)
      · exact rw_row g2.1 g2.2
      · exact rw_odd1 oq
      · exact rw_odd2 oq hs (by omega)
      · exact oq.rw
      · exact rw_flat nd_lst fun _ _ e => (by cases e)
      · exact rw_flat (nd_tup (by simp) fun y hy => by
          simp only [List.mem_cons, List.not_mem_nil, or_false] at hy
          rcases hy with rfl | rfl | rfl <;> first | exact nd_int | exact nd_str) fun _ _ e => (by cases e)
      · exact rw_flat (nd_tup (by simp) fun y hy => by rw [List.mem_singleton.mp hy]; exact nd_int) fun _ _ e => (by cases e)
      · exact rw_row g3.1 g3.2
      · exact rw_row g4.1 g4.2
    -- the papers
    generalize P.map dR = PD at *
    have kA := cutD_len (xs := PD) (a := none) (b := some (w : Int))
    have kB := cutD_len (xs := PD) (a := some ((w : Int) + 1)) (b := none)
    have kC := cutD_len (xs := PD) (a := some (w : Int)) (b := some ((w : Int) + 1))
    have iA : ∀ x ∈ Y.cutD PD none (some (w : Int)), Rw x := fun x hx => iP _ (cutD_mem hx)
    have iB : ∀ x ∈ Y.cutD PD (some ((w : Int) + 1)) none, Rw x := fun x hx => iP _ (cutD_mem hx)
    have iC : ∀ x ∈ Y.cutD PD (some (w : Int)) (some ((w : Int) + 1)), Rw x := fun x hx => iP _ (cutD_mem hx)
    have s1 : sliceD (.lst PD) none (some (w : Int)) = .ok (.lst (Y.cutD PD none (some (w : Int)))) := rfl
    have s2 : sliceD (.lst PD) (some ((w : Int) + 1)) none = .ok (.lst (Y.cutD PD (some ((w : Int) + 1)) none)) := rfl
    have s3 : sliceD (.lst PD) (some (w : Int)) (some ((w : Int) + 1)) = .ok (.lst (Y.cutD PD (some (w : Int)) (some ((w : Int) + 1)))) := rfl
    generalize Y.cutD PD none (some (w : Int)) = A at *
    generalize Y.cutD PD (some ((w : Int) + 1)) none = B at *
    generalize Y.cutD PD (some (w : Int)) (some ((w : Int) + 1)) = Cc at *
    have a1 := add_lst (x := A) (y := B) (by omega)
    have a2 := add_lst (x := PD) (y := Cc) (by omega)
    have iAB : ∀ x ∈ A ++ B, Rw x := fun x hx => (List.mem_append.mp hx).elim (iA x) (iB x)
    have lAB : (A ++ B).length ≤ 200 := by rw [List.length_append]; omega
    have iPC : ∀ x ∈ PD ++ Cc, Rw x := fun x hx => (List.mem_append.mp hx).elim (iP x) (iC x)
    have lPC : (PD ++ Cc).length ≤ 200 := by rw [List.length_append]; omega
    have a5 : ∀ r : D, addD (.lst A) (.lst [r]) = .ok (.lst (A ++ [r])) := fun r => add_lst (by simp; omega)
    have a6 : ∀ r : D, addD (.lst (A ++ [r])) (.lst B) = .ok (.lst (A ++ [r] ++ B)) := fun r => add_lst (by rw [List.length_append]; simp; omega)
    have iARB : ∀ r ∈ RW, ∀ x ∈ A ++ [r] ++ B, Rw x := fun r hr x hx => (List.mem_append.mp hx).elim (fun z => (List.mem_append.mp z).elim (iA x) fun z => by rw [List.mem_singleton.mp z]; exact iRW r hr) (iB x)
    have lARB : ∀ r : D, (A ++ [r] ++ B).length ≤ 1000000 := fun r => by rw [List.length_append, List.length_append]; simp; omega
    generalize A ++ B = AB at *
    generalize PD ++ Cc = PC at *
    have kE := cutD_len (xs := AB) (a := none) (b := some (t : Int))
    have kF := cutD_len (xs := AB) (a := some (t : Int)) (b := none)
    have iE : ∀ x ∈ Y.cutD AB none (some (t : Int)), Rw x := fun x hx => iAB _ (cutD_mem hx)
    have iF : ∀ x ∈ Y.cutD AB (some (t : Int)) none, Rw x := fun x hx => iAB _ (cutD_mem hx)
    have s4 : sliceD (.lst AB) none (some (t : Int)) = .ok (.lst (Y.cutD AB none (some (t : Int)))) := rfl
    have s5 : sliceD (.lst AB) (some (t : Int)) none = .ok (.lst (Y.cutD AB (some (t : Int)) none)) := rfl
    generalize Y.cutD AB none (some (t : Int)) = E1 at *
    generalize Y.cutD AB (some (t : Int)) none = E2 at *
    have a3 := add_lst (x := E1) (y := Cc) (by omega)
    have a4 := add_lst (x := E1 ++ Cc) (y := E2) (by rw [List.length_append]; omega)
    have iEC : ∀ x ∈ E1 ++ Cc ++ E2, Rw x := fun x hx => (List.mem_append.mp hx).elim (fun z => (List.mem_append.mp z).elim (iE x) (iC x)) (iF x)
    have lEC : (E1 ++ Cc ++ E2).length ≤ 1000000 := by rw [List.length_append, List.length_append]; omega
    generalize E1 ++ Cc ++ E2 = ECE at *
    generalize E1 ++ Cc = EC at *
    have rv : revD (.lst PD) = .ok (.lst PD.reverse) := rfl
    have iR : ∀ x ∈ PD.reverse, Rw x := fun x hx => iP x (List.mem_reverse.mp hx)
    have lR : PD.reverse.length ≤ 100 := by rw [List.length_reverse]; exact lP2
    generalize PD.reverse = RV at *
    have tpl : tupleD [.lst PD] = .ok (.tup PD) := rfl
    -- the loop
    have lp := for_idx (tm := tmName 13) (body := C.b__law_other_3_1) (vs := [13]) (ws := []) (fun d : D => d) RW (fun i => [some (.lst [.int n6]), some (dNet ns), some (.lst PD), some (.int (w : Nat)), some (.int (t : Nat)), some (.int (k : Nat)), some (dt s), some (.int (pl : Nat)), some (dt [c]), some odd, some (.lst RW), some (.lst ([.lst AB, .lst PC, .tup PD, odd, .lst RV, .lst ECE] ++ (RW.take i).map fun r => .lst (A ++ [r] ++ B))), some (.lst AB), none]) fun i hi => by
      refine ⟨by simp, ?_⟩
      rw [List.take_succ_eq_append_getElem hi, List.map_append]
      have e1 : [RW[i]].map (fun r => D.lst (A ++ [r] ++ B)) = [D.lst (A ++ [RW[i]] ++ B)] := rfl
      rw [e1, ← List.append_assoc]
      have q1 := a5 RW[i]
      have q2 := a6 RW[i]
      have zz : szOk (([D.lst AB, .lst PC, .tup PD, odd, .lst RV, .lst ECE] ++ (RW.take i).map fun r => D.lst (A ++ [r] ++ B)).length + 1) = true := szOk_of (by rw [List.length_append, List.length_map, List.length_take]; simp; omega)
      generalize [D.lst AB, .lst PC, .tup PD, odd, .lst RV, .lst ECE] ++ (RW.take i).map (fun r => D.lst (A ++ [r] ++ B)) = LL at *
      generalize RW[i] = r at *
      generalize A ++ [r] ++ B = ARB at *
      generalize A ++ [r] = AR at *
      generalize dNet ns = N at *
      generalize dt s = S at *
      generalize dt [c] = Cd at *
      clear hRW
      simp only [turnF, C.b__law_other_3_1]
      simp [s1, s2, q1, q2, zz, -d_slL]
    rw [List.take_length, List.map_id'] at lp
    have lp : forL (tmName 13) C.b__law_other_3_1 [13] [] RW [some (.lst [.int n6]), some (dNet ns), some (.lst PD), some (.int (w : Nat)), some (.int (t : Nat)), some (.int (k : Nat)), some (dt s), some (.int (pl : Nat)), some (dt [c]), some odd, some (.lst RW), some (.lst [.lst AB, .lst PC, .tup PD, odd, .lst RV, .lst ECE]), some (.lst AB), none] = .ok (.nx, [some (.lst [.int n6]), some (dNet ns), some (.lst PD), some (.int (w : Nat)), some (.int (t : Nat)), some (.int (k : Nat)), some (dt s), some (.int (pl : Nat)), some (dt [c]), some odd, some (.lst RW), some (.lst ([.lst AB, .lst PC, .tup PD, odd, .lst RV, .lst ECE] ++ RW.map fun r => .lst (A ++ [r] ++ B))), some (.lst AB), none]) := lp
    have iPL : ∀ x ∈ [D.lst AB, .lst PC, .tup PD, odd, .lst RV, .lst ECE] ++ RW.map fun r => D.lst (A ++ [r] ++ B), PT x := fun x hx => by
      rcases List.mem_append.mp hx with hx | hx
      · simp only [List.mem_cons, List.not_mem_nil, or_false] at hx
        rcases hx with rfl | rfl | rfl | rfl | rfl | rfl
        · exact .inl ⟨_, rfl, iAB, by omega⟩
        · exact .inl ⟨_, rfl, iPC, by omega⟩
        · exact .inr ⟨rfl, rfl⟩
        · exact oq.pt
        · exact .inl ⟨_, rfl, iR, by omega⟩
        · exact .inl ⟨_, rfl, iEC, lEC⟩
      · obtain ⟨r, hr, rfl⟩ := List.mem_map.mp hx
        exact .inl ⟨_, rfl, iARB r hr, lARB r⟩
    have lPL : ([D.lst AB, .lst PC, .tup PD, odd, .lst RV, .lst ECE] ++ RW.map fun r => D.lst (A ++ [r] ++ B)).length = 17 := by rw [List.length_append, List.length_map, lRW]; rfl
    have zRW : szOk RW.length = true := szOk_of (by omega)
    generalize [D.lst AB, .lst PC, .tup PD, odd, .lst RV, .lst ECE] ++ RW.map (fun r => D.lst (A ++ [r] ++ B)) = PLL at *
    have t17 := take_ok (n := n6) (m := 17) (by omega) (by omega)
    obtain ⟨d, ed, hT⟩ := atI_any (i := n6 % 17) (p := PT) (L := PLL) (by omega) (by rw [lPL]; omega) iPL
    have ixl : ixD (.lst PLL) (.int (n6 % 17)) = .ok d := by
      show (match atI PLL (n6 % 17) with | some d => R.ok d | none => .stk) = _
      rw [ed]
    have lnL : lenD [.lst PLL] = .ok (.int 17) := by rw [d_lenL, lPL]; rfl
    generalize n6 % 17 = v at *
    generalize n6 / 17 = n7 at *
    refine ⟨.vl d, d, n7, ?_, .inr rfl, hT⟩
    have y4 : mulD (.str "-") (.int s.length) = .ok (dt (List.replicate s.length 45)) := y4
    have y3 : addD (dt s) (.str "-") = .ok (dt (s ++ [45])) := y3
    clear iPL iARB lARB iRW g1 g2 g3 g4
    generalize dt (s.take pl ++ [c] ++ s.drop (pl + 1)) = U1 at *
    generalize dt (s.take pl ++ [c]) = U2 at *
    generalize dt (s.take pl) = U3 at *
    generalize dt (s.drop (pl + 1)) = U4 at *
    generalize dt (s ++ [45]) = U5 at *
    generalize dt (List.replicate s.length 45) = U6 at *
    generalize dt (s.drop 1) = U7 at *
    generalize dNet ns = N at *
    generalize dt s = S at *
    generalize dt [c] = Cd at *
    simp only [C.g__law_other_3, C.m__law_other_3, s012]
    generalize C.b__law_other_3_1 = LB at *
    simp [e_fnD, eq, ln, lP, tw, tt, ix, lS, tp, t4, i4, ho, x1, x2, x3, y1, y2, y3, y4, tj, s1, s2, s3, s4, s5, a1, a2, a3, a4, rv, tpl, hRW, zRW, lp, lnL, t17, ixl, shAt, chkO_ws, szOk_of, -d_slL, -d_mulS, -d_addS]
end H

set_option Elab.async false
set_option linter.all false
set_option maxRecDepth 100000
set_option maxHeartbeats 2000000
namespace H
open PySem PySem.Spec PyProof.Rows L2 Y
def Ge (n : Nat) (f g : List Nat) : Prop := ∀ j, j < n → f.getD j 0 ≠ 45 → g.getD j 0 = f.getD j 0
theorem Ge.refl {n : Nat} {f : List Nat} : Ge n f f := fun _ _ _ => rfl
theorem Ge.trans {n : Nat} {f g h : List Nat} (a : Ge n f g) (b : Ge n g h) : Ge n f h := fun j hj hf => by
  rw [b j hj (by rw [a j hj hf]; exact hf), a j hj hf]
theorem hasB_mono : ∀ {es : List Int} {bs : List Int} {p q : Int → Nat}, (∀ e ∈ es, p e = 45 ∨ q e = p e) → hasB (es.map q) bs = true → hasB (es.map p) bs = true
  | [], _, _, _, _, _ => by simp [hasB]
  | e :: es, [], _, _, _, _ => by simp [hasB]
  | e :: es, b :: bs, p, q, h, hb => by
    rw [List.map_cons, hasB_cons] at hb ⊢
    rw [Bool.and_eq_true] at hb ⊢
    refine ⟨?_, hasB_mono (fun e he => h e (by simp [he])) hb.2⟩
    rcases h e (by simp) with h1 | h1
    · simp [h1]
    · rw [← h1]; exact hb.1
theorem places_mono {es : List Int} {p q : Int → Nat} (hp : ∀ e ∈ es, p e = 45 ∨ p e = 48 ∨ p e = 49) (hq : ∀ e ∈ es, q e = 45 ∨ q e = 48 ∨ q e = 49) (h : ∀ e ∈ es, p e = 45 ∨ q e = p e) {x : Int} (hx : x ∈ placesI (es.map q)) : x ∈ placesI (es.map p) := by
  have cp : ∀ c ∈ es.map p, c = 45 ∨ c = 48 ∨ c = 49 := fun c hc => by obtain ⟨e, he, rfl⟩ := List.mem_map.mp hc; exact hp e he
  have cq : ∀ c ∈ es.map q, c = 45 ∨ c = 48 ∨ c = 49 := fun c hc => by obtain ⟨e, he, rfl⟩ := List.mem_map.mp hc; exact hq e he
  obtain ⟨bs, h1, h2, h3⟩ := (mem_places cq).mp hx
  exact (mem_places cp).mpr ⟨bs, by simpa using h1, hasB_mono h h2, h3⟩
section
variable {ns : List RuleT} {most : Nat}
theorem bits_mono (ok : NetOk ns most) (hm : most ≤ 20) {f g : List Nat} {k : Nat} (hf : CaseOk ns.length f) (hg : CaseOk ns.length g) (h : Ge ns.length f g) (hk : k < ns.length) {x : Int} (hx : x ∈ bitsF ns g k) : x ∈ bitsF ns f k := by
  have le := ok.le
  have gd := (ok.good (by omega)).at hk
  unfold bitsF at hx ⊢
  rw [setI_mem, List.mem_map] at hx ⊢
  obtain ⟨p, hp, e⟩ := hx
  refine ⟨p, ?_, e⟩
  have sg : ∀ {f : List Nat}, CaseOk ns.length f → ∀ e ∈ (ns.getD k ([], [])).1, f.getD e.toNat 0 = 45 ∨ f.getD e.toNat 0 = 48 ∨ f.getD e.toNat 0 = 49 := fun hf e he => by
    have := gd.2.1 e he
    exact getD_sg hf.sg (by have := hf.len; omega)
  exact places_mono (p := fun e => f.getD e.toNat 0) (q := fun e => g.getD e.toNat 0) (sg hf) (sg hg) (fun e he => by
    have := gd.2.1 e he
    by_cases c : f.getD e.toNat 0 = 45
    · exact .inl c
    · exact .inr (h e.toNat (by omega) c)) hp
theorem bits_ne {f : List Nat} {k : Nat} : bitsF ns f k ≠ [] := by
  intro z
  have w := placesW_ne (l := signsAt f (ns.getD k ([], [])).1)
  obtain ⟨x, hx⟩ := List.exists_mem_of_ne_nil _ w
  have hx := (mem_placesW x).mp hx
  have : (ns.getD k ([], [])).2.getD x.toNat 0 ∈ bitsF ns f k := by
    unfold bitsF
    rw [setI_mem]
    exact List.mem_map.mpr ⟨x, hx, rfl⟩
  rw [z] at this
  cases this
theorem bits_eq (ok : NetOk ns most) (hm : most ≤ 20) {f g : List Nat} {k : Nat} {b : Int} (hf : CaseOk ns.length f) (hg : CaseOk ns.length g) (h : Ge ns.length f g) (hk : k < ns.length) (e : bitsF ns f k = [b]) : bitsF ns g k = [b] := by
  have sub : ∀ x ∈ bitsF ns g k, x = b := fun x hx => by
    have := bits_mono ok hm hf hg h hk hx
    rw [e] at this
    simpa using this
  have pw : (bitsF ns g k).Pairwise (· < ·) := setI_lt
  match hX : bitsF ns g k, sub, pw with
  | [], _, _ => exact absurd hX bits_ne
  | [x], sub, _ => rw [sub x (by simp)]
  | x :: y :: z, sub, pw =>
    have h1 := sub x (by simp)
    have h2 := sub y (by simp)
    have h3 := (List.pairwise_cons.mp pw).1 y (by simp)
    omega
theorem one_bits (ok : NetOk ns most) {f : List Nat} {k : Nat} (hf : CaseOk ns.length f) (hk : k < ns.length) (h : oneB ns f k = true) : f.getD k 0 = 45 ∧ bitsF ns f k = [bitOf ns f k] ∧ 0 ≤ bitOf ns f k ∧ bitOf ns f k < 2 := by
  unfold oneB at h
  rw [Bool.and_eq_true] at h
  obtain ⟨b1, b2⟩ := bitOf_bit ok hf hk (of_decide_eq_true h.2)
  exact ⟨of_decide_eq_true h.1, b2, b1⟩
theorem close_ge (ok : NetOk ns most) {f : List Nat} (hf : CaseOk ns.length f) : Ge ns.length f (closeS ns f f (toldI ns f)) := fun j hj hc => by
  rw [closeS_get hf.len (fun k hk => (told_mem.mp hk).1) j, if_neg]
  intro z
  exact hc (one_bits ok hf hj (told_mem.mp z).2).1
theorem pourN_ge (ok : NetOk ns most) : ∀ (n : Nat) (f : List Nat) (L : List (List Nat)), CaseOk ns.length f → Ge ns.length f (pourN ns n f L).1
  | 0, f, L, hf => Ge.refl
  | n + 1, f, L, hf => by
    have ep : pourN ns (n + 1) f L = if (toldI ns f).isEmpty = true then (f, L) else pourN ns n (closeS ns f f (toldI ns f)) (L ++ [toldI ns f]) := rfl
    rw [ep]
    by_cases e : (toldI ns f).isEmpty = true
    · rw [if_pos e]; exact Ge.refl
    · rw [if_neg e]
      exact (close_ge ok hf).trans (pourN_ge ok n _ _ (close_f ok hf).1)
/-- what is set beyond f0 is told -/
def InvP (ns : List RuleT) (f0 f : List Nat) : Prop := ∀ k, k < ns.length → f.getD k 0 ≠ 45 → f0.getD k 0 ≠ 45 ∨ bitsF ns f k = [(f.getD k 0 : Int) - 48]
theorem inv_close (ok : NetOk ns most) (hm : most ≤ 20) {f0 f : List Nat} (hf : CaseOk ns.length f) (h : InvP ns f0 f) : InvP ns f0 (closeS ns f f (toldI ns f)) := fun k hk hc => by
  have hcc := (close_f ok hf).1
  have ge := close_ge ok hf
  rw [closeS_get hf.len (fun k hk => (told_mem.mp hk).1) k] at hc ⊢
  by_cases c : k ∈ toldI ns f
  · rw [if_pos c] at hc ⊢
    obtain ⟨_, h2, h3, h4⟩ := one_bits ok hf hk (told_mem.mp c).2
    refine .inr ?_
    rw [bits_eq ok hm hf hcc ge hk h2]
    unfold sgOf
    congr 1
    omega
  · rw [if_neg c] at hc ⊢
    rcases h k hk hc with z | z
    · exact .inl z
    · exact .inr (bits_eq ok hm hf hcc ge hk z)
theorem inv_pour (ok : NetOk ns most) (hm : most ≤ 20) {f0 : List Nat} : ∀ (n : Nat) (f : List Nat) (L : List (List Nat)), CaseOk ns.length f → InvP ns f0 f → InvP ns f0 (pourN ns n f L).1
  | 0, f, L, _, h => h
  | n + 1, f, L, hf, h => by
    have ep : pourN ns (n + 1) f L = if (toldI ns f).isEmpty = true then (f, L) else pourN ns n (closeS ns f f (toldI ns f)) (L ++ [toldI ns f]) := rfl
    rw [ep]
    by_cases e : (toldI ns f).isEmpty = true
    · rw [if_pos e]; exact h
    · rw [if_neg e]
      exact inv_pour ok hm n _ _ (close_f ok hf).1 (inv_close ok hm hf h)
/-- a frame between f and a full pour of f: one more is told -/
theorem told_some (ok : NetOk ns most) (hm : most ≤ 20) {g : List Nat} (hg : CaseOk ns.length g) : ∀ (n : Nat) (f : List Nat) (L : List (List Nat)), CaseOk ns.length f → Ge ns.length f g → Ge ns.length g (pourN ns n f L).1 → 45 ∉ (pourN ns n f L).1 → 45 ∈ g → toldI ns g ≠ []
  | 0, f, L, hf, h1, _, h3, h4 => by
    exfalso
    have h3 : 45 ∉ f := h3
    obtain ⟨j, hj, e⟩ := List.getElem_of_mem h4
    have lj : j < ns.length := by rw [← hg.len]; exact hj
    have fj : f.getD j 0 ≠ 45 := fun z => h3 (by
      rw [List.getD_eq_getElem?_getD, List.getElem?_eq_getElem (by rw [hf.len]; exact lj)] at z
      exact z ▸ List.getElem_mem _)
    have := h1 j lj fj
    rw [List.getD_eq_getElem?_getD, List.getElem?_eq_getElem hj] at this
    exact fj (by rw [← this]; exact e)
  | n + 1, f, L, hf, h1, h2, h3, h4 => by
    have ep : pourN ns (n + 1) f L = if (toldI ns f).isEmpty = true then (f, L) else pourN ns n (closeS ns f f (toldI ns f)) (L ++ [toldI ns f]) := rfl
    rw [ep] at h2 h3
    by_cases e : (toldI ns f).isEmpty = true
    · rw [if_pos e] at h2 h3
      exact told_some ok hm hg 0 f L hf h1 h2 h3 h4
    · rw [if_neg e] at h2 h3
      have hc := (close_f ok hf).1
      by_cases c : Ge ns.length (closeS ns f f (toldI ns f)) g
      · exact told_some ok hm hg n _ _ hc c h2 h3 h4
      · unfold Ge at c
        simp only [Classical.not_forall] at c
        obtain ⟨j, hj, hcj, hne⟩ := c
        have cg := closeS_get (ns := ns) (f := f) (ks := toldI ns f) (g := f) hf.len (fun k hk => (told_mem.mp hk).1) j
        have gf := pourN_ge ok n _ (L ++ [toldI ns f]) hc j hj hcj
        have g45 : g.getD j 0 = 45 := Decidable.byContradiction fun z => hne (by rw [← gf, h2 j hj z])
        by_cases c2 : j ∈ toldI ns f
        · obtain ⟨_, b2, _⟩ := one_bits ok hf hj (told_mem.mp c2).2
          have b3 := bits_eq ok hm hf hg h1 hj b2
          have : j ∈ toldI ns g := told_mem.mpr ⟨hj, by unfold oneB; rw [g45, b3]; rfl⟩
          exact List.ne_nil_of_mem this
        · rw [if_neg c2] at cg
          rw [cg] at hcj hne
          exact absurd (h1 j hj hcj) hne
end
end H

set_option Elab.async false
set_option linter.all false
set_option maxRecDepth 100000
set_option maxHeartbeats 4000000
namespace H
open PySem PySem.Spec PyProof.Rows L2 Y
theorem fold_off {n : Nat} : ∀ {hs : List (Nat × Int)} {f : List Nat} {j : Nat}, f.length = n → (∀ p ∈ hs, p.1 < n ∧ p.1 ≠ j) → (hs.foldl (fun f p => sign f p.1 (48 + p.2.toNat)) f).getD j 0 = f.getD j 0
  | [], _, _, _, _ => rfl
  | p :: hs, f, j, hf, h => by
    have hp := h p (by simp)
    have lg : (sign f p.1 (48 + p.2.toNat)).length = n := by
      unfold sign
      rw [List.length_append, List.length_take, List.length_cons, List.length_drop]
      omega
    show (hs.foldl _ (sign f p.1 (48 + p.2.toNat))).getD j 0 = _
    rw [fold_off lg fun q hq => h q (by simp [hq]), sign_getD hf hp.1, if_neg fun z => hp.2 z.symm]
theorem fold_on {n : Nat} : ∀ {hs : List (Nat × Int)} {f : List Nat} {j : Nat}, f.length = n → (∀ p ∈ hs, p.1 < n) → hs.Pairwise (fun a b => a.1 < b.1) → (∃ p ∈ hs, p.1 = j) → (hs.foldl (fun f p => sign f p.1 (48 + p.2.toNat)) f).getD j 0 ≠ 45
  | [], _, _, _, _, _, h => by obtain ⟨p, hp, _⟩ := h; cases hp
  | p :: hs, f, j, hf, h, pw, hj => by
    obtain ⟨p1, p2⟩ := List.pairwise_cons.mp pw
    have hp := h p (by simp)
    have lg : (sign f p.1 (48 + p.2.toNat)).length = n := by
      unfold sign
      rw [List.length_append, List.length_take, List.length_cons, List.length_drop]
      omega
    show (hs.foldl _ (sign f p.1 (48 + p.2.toNat))).getD j 0 ≠ 45
    obtain ⟨q, hq, rfl⟩ := hj
    rcases List.mem_cons.mp hq with rfl | hq
    · rw [fold_off lg fun r hr => ⟨h r (by simp [hr]), by have := p1 r hr; omega⟩, sign_getD hf hp, if_pos rfl]
      omega
    · exact fold_on lg (fun q hq => h q (by simp [hq])) p2 ⟨q, hq, rfl⟩
theorem full_told {ns : List RuleT} {f : List Nat} (hf : CaseOk ns.length f) (h : 45 ∉ f) : toldI ns f = [] := by
  rw [List.eq_nil_iff_forall_not_mem]
  intro k hk
  obtain ⟨h1, h2⟩ := told_mem.mp hk
  unfold oneB at h2
  rw [Bool.and_eq_true] at h2
  have := of_decide_eq_true h2.1
  rw [List.getD_eq_getElem?_getD, List.getElem?_eq_getElem (by rw [hf.len]; exact h1)] at this
  exact h (this ▸ List.getElem_mem _)
theorem pour_full {ns : List RuleT} {hs : List (Nat × Int)} (h : HoldsOk ns.length hs) (ha : ∀ k, k < ns.length → ∃ p ∈ hs, p.1 = k) : 45 ∉ (pourR ns hs).1 := by
  have fc : CaseOk ns.length (frH ns.length hs) := frH_ok rep_case fun p hp => ⟨h.lt p hp, h.bit p hp⟩
  have ll := heldL_len (ns := ns) (hs := hs)
  have nf : 45 ∉ frH ns.length hs := fun z => by
    obtain ⟨j, hj, e⟩ := List.getElem_of_mem z
    have lj : j < ns.length := by rw [← fc.len]; exact hj
    have := fold_on (n := ns.length) (f := List.replicate ns.length 45) (by simp) h.lt h.up (ha j lj)
    have : (frH ns.length hs).getD j 0 ≠ 45 := this
    rw [List.getD_eq_getElem?_getD, List.getElem?_eq_getElem hj] at this
    exact this e
  have te := full_told (ns := heldL ns hs) (f := frH ns.length hs) (by rw [ll]; exact fc) nf
  have ep : (pourR ns hs).1 = frH ns.length hs := by
    show (if (toldI (heldL ns hs) (frH ns.length hs)).isEmpty = true then (frH ns.length hs, [hs.map (·.1)]) else pourN _ _ _ _).1 = _
    rw [te]
    rfl
  rw [ep]
  exact nf
def hS (ns : List RuleT) (st : List Int) (n : Int) : Nat → List (Nat × Int) × Int
  | 0 => ([], n)
  | i + 1 => if 45 ∈ (pourR ns (hS ns st n i).1).1 then (if (hS ns st n i).2 % 3 > 0 then ((hS ns st n i).1 ++ [(i, st.getD i 0)], (hS ns st n i).2 / 3) else ((hS ns st n i).1, (hS ns st n i).2 / 3)) else hS ns st n i
theorem hS_ok {ns : List RuleT} {n : Int} {m : Nat} {st : List Int} (hs : IsSt m st) : ∀ i, HoldsOk i (hS ns st n i).1
  | 0 => ⟨List.Pairwise.nil, by simp [hS], by simp [hS]⟩
  | i + 1 => by
    have ih := hS_ok (ns := ns) (n := n) hs i
    have up : HoldsOk (i + 1) (hS ns st n i).1 := ⟨ih.up, fun p hp => by have := ih.lt p hp; omega, ih.bit⟩
    show HoldsOk (i + 1) (if _ then _ else _ : List (Nat × Int) × Int).1
    split
    · split
      · refine ⟨List.pairwise_append.mpr ⟨ih.up, List.pairwise_singleton _ _, fun a ha b hb => ?_⟩, fun p hp => ?_, fun p hp => ?_⟩
        · rw [List.mem_singleton.mp hb]; exact ih.lt a ha
        · rcases List.mem_append.mp hp with hp | hp
          · have := ih.lt p hp; omega
          · rw [List.mem_singleton.mp hp]; show i < i + 1; omega
        · rcases List.mem_append.mp hp with hp | hp
          · exact ih.bit p hp
          · rw [List.mem_singleton.mp hp]; exact getD_bit hs.bit i
      · exact up
    · exact up
theorem law_settling_ok {n : Int} {ns : List RuleT} {st : List Int} {most : Nat} (ok : NetOk ns most) (hm : most ≤ 8) (hst : IsSt ns.length st) :
    ∃ (hs : List (Nat × Int)) (n' : Int), C.g__law_settling [.lst [.int n], dNet ns, ti st] = .ok (.fr (HD hs), [some (.lst [.int n']), none, none]) ∧ HoldsOk ns.length hs ∧ 45 ∉ (pourR ns hs).1 := by
  have le := ok.le
  have ln : lenD [dNet ns] = .ok (.int ns.length) := by simp
  have up : ∀ i, i ≤ ns.length → HoldsOk ns.length (hS ns st n i).1 := fun i hi => by
    have h := hS_ok (ns := ns) (n := n) hst i
    exact ⟨h.up, fun p hp => Nat.lt_of_lt_of_le (h.lt p hp) hi, h.bit⟩
  have b0 : ∀ x y : D, ixD (.tup [x, y]) (.int 0) = .ok x := fun _ _ => rfl
  have pq : ∀ i, i ≤ ns.length → C.g__law_poured [dNet ns, .ftu ((hS ns st n i).1.map dH)] = .ok (.fr (.tup [dt (pourR ns (hS ns st n i).1).1, .lst ((pourR ns (hS ns st n i).1).2.map ln')])) := fun i hi => law_poured76_ok ok hm (up i hi)
  have iN : ∀ f : List Nat, inD (.str "-") (dt f) = .ok (.bl (decide (45 ∈ f))) := fun f => in_text (c := 45) (l := f)
  have lp := for_rng (tm := tmName 4) (body := C.b__law_settling_1) (vs := [4]) (ws := []) (n := ns.length) (fun j : Nat => D.int (j : Nat)) (fun i => [some (.lst [.int (hS ns st n i).2]), some (dNet ns), some (ti st), some (.lst ((hS ns st n i).1.map dH)), none]) fun i hi => by
    refine ⟨by simp, ?_⟩
    have ok1 := hS_ok (ns := ns) (n := n) hst i
    have len := ok1.len
    have tk := take_ok (n := (hS ns st n i).2) (m := 3) (by omega) (by omega)
    have ix := atI_mapI (xs := st) (i := (i : Int)) (by omega) (by rw [hst.len]; omega)
    have ix : ixD (ti st) (.int (i : Nat)) = .ok (.int (st.getD i 0)) := by
      show (match atI (st.map D.int) (i : Int) with | some d => R.ok d | none => .stk) = _
      rw [ix]
      rfl
    have p1 := pq i (by omega)
    have n1 := iN (pourR ns (hS ns st n i).1).1
    have zl : szOk (((hS ns st n i).1.map dH).length + 1) = true := szOk_of (by rw [List.length_map]; omega)
    have eN : hS ns st n (i + 1) = if 45 ∈ (pourR ns (hS ns st n i).1).1 then (if (hS ns st n i).2 % 3 > 0 then ((hS ns st n i).1 ++ [(i, st.getD i 0)], (hS ns st n i).2 / 3) else ((hS ns st n i).1, (hS ns st n i).2 / 3)) else hS ns st n i := rfl
    rw [eN]
    by_cases c1 : 45 ∈ (pourR ns (hS ns st n i).1).1
    · rw [decide_eq_true c1] at n1
      rw [if_pos c1]
      clear eN pq up
      generalize dt (pourR ns (hS ns st n i).1).1 = PF at *
      generalize (pourR ns (hS ns st n i).1).2.map ln' = PL at *
      generalize st.getD i 0 = b at *
      generalize hS ns st n i = h at *
      obtain ⟨L, n1'⟩ := h
      dsimp only at *
      generalize n1' % 3 = q at *
      generalize n1' / 3 = n2 at *
      generalize ti st = ST at *
      generalize dNet ns = N at *
      simp only [turnF, C.b__law_settling_1]
      by_cases c2 : q > 0
      · have e1 : (L ++ [(i, b)]).map dH = L.map dH ++ [.tup [.int (i : Nat), .int b]] := by rw [List.map_append]; rfl
        rw [if_pos c2]
        dsimp only
        rw [e1]
        generalize L.map dH = LD at *
        have c3 : 0 < q := c2
        simp [p1, b0, n1, tk, c3, ix, zl]
      · rw [if_neg c2]
        dsimp only
        generalize L.map dH = LD at *
        have c3 : ¬ 0 < q := c2
        simp [p1, b0, n1, tk, c3]
    · rw [decide_eq_false c1] at n1
      rw [if_neg c1]
      clear eN pq up
      generalize dt (pourR ns (hS ns st n i).1).1 = PF at *
      generalize (pourR ns (hS ns st n i).1).2.map ln' = PL at *
      generalize (hS ns st n i).1.map dH = LD at *
      generalize (hS ns st n i).2 = n1' at *
      generalize ti st = ST at *
      generalize dNet ns = N at *
      simp only [turnF, C.b__law_settling_1]
      simp [p1, b0, n1]
  have lp : forL (tmName 4) C.b__law_settling_1 [4] [] ((List.range ns.length).map fun j : Nat => D.int (j : Nat)) [some (.lst [.int n]), some (dNet ns), some (ti st), some (.lst []), none] = .ok (.nx, [some (.lst [.int (hS ns st n ns.length).2]), some (dNet ns), some (ti st), some (.lst ((hS ns st n ns.length).1.map dH)), none]) := lp
  have rm : rng1D [.int (ns.length : Nat)] = .ok ((List.range ns.length).map fun j : Nat => D.int (j : Nat)) := by rw [d_rng1, if_pos (rngOk_of (by omega) (by omega))]; rfl
  have zm : szOk ((List.range ns.length).map fun j : Nat => D.int (j : Nat)).length = true := szOk_of (by rw [List.length_map, List.length_range]; omega)
  have p1 := pq ns.length (Nat.le_refl _)
  have n1 := iN (pourR ns (hS ns st n ns.length).1).1
  have okh := up ns.length (Nat.le_refl _)
  obtain ⟨hl, el, okl⟩ := enum_holds hst
  by_cases c : 45 ∈ (pourR ns (hS ns st n ns.length).1).1
  · rw [decide_eq_true c] at n1
    have zn : szOk (numD (st.map D.int)).length = true := szOk_of (by rw [numD_len, List.length_map, hst.len]; omega)
    have itS : itD (ti st) = .ok (st.map D.int) := rfl
    refine ⟨hl, (hS ns st n ns.length).2, ?_, okl, pour_full okl fun k hk => ?_⟩
    · have eH : HD hl = .ftu (numD (st.map D.int)) := by rw [el]
      rw [eH]
      clear pq up
      generalize dt (pourR ns (hS ns st n ns.length).1).1 = PF at *
      generalize (pourR ns (hS ns st n ns.length).1).2.map ln' = PL at *
      generalize ((List.range ns.length).map fun j : Nat => D.int (j : Nat)) = RG at *
      generalize (hS ns st n ns.length).1.map dH = LD at *
      generalize (hS ns st n ns.length).2 = n2 at *
      generalize st.map D.int = SI at *
      generalize ti st = ST at *
      generalize dNet ns = N at *
      simp only [C.g__law_settling, C.m__law_settling]
      generalize C.b__law_settling_1 = B at *
      simp [e_fnD, ln, rm, zm, lp, p1, b0, n1, itS, zn, shAt, chkO_ws, -d_rng1, -numD_len]
    · have e : numD (st.map D.int) = ((List.range st.length).zip st).map fun p => D.tup [.int (p.1 : Nat), .int p.2] := numD_map
      have e2 : hl.map dH = ((List.range st.length).zip st).map dH := by rw [← el, e]; rfl
      have hk2 : k < ((List.range st.length).zip st).length := by rw [List.length_zip, List.length_range, hst.len]; omega
      have l1 : hl.length = ((List.range st.length).zip st).length := by simpa using congrArg List.length e2
      have hk3 : k < hl.length := by omega
      refine ⟨hl[k], List.getElem_mem hk3, ?_⟩
      have := congrArg (fun l => l[k]?) e2
      simp only [List.getElem?_map, List.getElem?_eq_getElem hk3, List.getElem?_eq_getElem hk2, Option.map_some] at this
      rw [List.getElem_zip, List.getElem_range] at this
      have h2 : dH hl[k] = dH (k, st[k]'(by rw [hst.len]; exact hk)) := Option.some.inj this
      unfold dH at h2
      have h3 := (List.cons.inj (D.tup.inj h2)).1
      have h4 := D.int.inj h3
      exact Int.ofNat_inj.mp h4
  · rw [decide_eq_false c] at n1
    refine ⟨(hS ns st n ns.length).1, (hS ns st n ns.length).2, ?_, okh, c⟩
    have eH : HD (hS ns st n ns.length).1 = .ftu ((hS ns st n ns.length).1.map dH) := rfl
    rw [eH]
    clear pq up
    generalize dt (pourR ns (hS ns st n ns.length).1).1 = PF at *
    generalize (pourR ns (hS ns st n ns.length).1).2.map ln' = PL at *
    generalize ((List.range ns.length).map fun j : Nat => D.int (j : Nat)) = RG at *
    generalize (hS ns st n ns.length).1.map dH = LD at *
    generalize (hS ns st n ns.length).2 = n2 at *
    generalize ti st = ST at *
    generalize dNet ns = N at *
    simp only [C.g__law_settling, C.m__law_settling]
    generalize C.b__law_settling_1 = B at *
    simp [e_fnD, ln, rm, zm, lp, p1, b0, n1, shAt, chkO_ws, -d_rng1]
end H

set_option Elab.async false
set_option linter.all false
set_option maxRecDepth 100000
set_option maxHeartbeats 4000000
namespace H
open PySem PySem.Spec PyProof.Rows L2 Y
structure WOk (r : RuleT) (f s : List Nat) (b : Int) : Prop where
  c : CaseOk r.1.length s
  fit : (s.zip r.1).all (fitsB f) = true
  bit : bitsL r s = [b]
def wS (r : RuleT) (s0 : List Nat) (n : Int) : Nat → List Nat × Int
  | 0 => (s0, n)
  | i + 1 => if (bitsL r (sign (wS r s0 n i).1 i 45)).length = 1 then (if (wS r s0 n i).2 % 2 = 1 then (sign (wS r s0 n i).1 i 45, (wS r s0 n i).2 / 2) else ((wS r s0 n i).1, (wS r s0 n i).2 / 2)) else wS r s0 n i
theorem map_getD {s : List Nat} : ((List.range s.length).map fun j : Nat => (j : Int)).map (fun e => s.getD e.toNat 0) = s := by
  rw [List.map_map]
  refine List.ext_getElem (by simp) fun i h1 h2 => ?_
  rw [List.getElem_map, List.getElem_range]
  show s.getD ((i : Nat) : Int).toNat 0 = _
  rw [List.getD_eq_getElem?_getD, Int.toNat_natCast, List.getElem?_eq_getElem h2]
  rfl
theorem bitsL_wide {r : RuleT} {m i : Nat} {s : List Nat} (hs : CaseOk m s) (hi : i < m) {x : Int} (hx : x ∈ bitsL r s) : x ∈ bitsL r (sign s i 45) := by
  have hw : CaseOk m (sign s i 45) := sign_ok hs hi (.inl rfl)
  unfold bitsL at hx ⊢
  rw [setI_mem, List.mem_map] at hx ⊢
  obtain ⟨p, hp, e⟩ := hx
  refine ⟨p, ?_, e⟩
  have sg : ∀ {f : List Nat}, CaseOk m f → ∀ e ∈ (List.range m).map (fun j : Nat => (j : Int)), f.getD e.toNat 0 = 45 ∨ f.getD e.toNat 0 = 48 ∨ f.getD e.toNat 0 = 49 := fun hf e he => by
    obtain ⟨j, hj, rfl⟩ := List.mem_map.mp he
    have := List.mem_range.mp hj
    exact getD_sg hf.sg (by have := hf.len; omega)
  have e1 : ((List.range m).map fun j : Nat => (j : Int)).map (fun e => s.getD e.toNat 0) = s := by have := map_getD (s := s); rwa [hs.len] at this
  have e2 : ((List.range m).map fun j : Nat => (j : Int)).map (fun e => (sign s i 45).getD e.toNat 0) = sign s i 45 := by have := map_getD (s := sign s i 45); rwa [hw.len] at this
  have := places_mono (p := fun e => (sign s i 45).getD e.toNat 0) (q := fun e => s.getD e.toNat 0) (sg hw) (sg hs) (fun e he => by
    obtain ⟨j, hj, rfl⟩ := List.mem_map.mp he
    show (sign s i 45).getD ((j : Nat) : Int).toNat 0 = 45 ∨ s.getD ((j : Nat) : Int).toNat 0 = (sign s i 45).getD ((j : Nat) : Int).toNat 0
    rw [Int.toNat_natCast, sign_getD hs.len hi]
    by_cases c : j = i
    · rw [if_pos c]; exact .inl rfl
    · rw [if_neg c]; exact .inr rfl) (x := p)
  rw [e1, e2] at this
  exact this hp
theorem WOk.wide {r : RuleT} {f s : List Nat} {b : Int} (h : WOk r f s b) {i : Nat} (hi : i < r.1.length) (h1 : (bitsL r (sign s i 45)).length = 1) : WOk r f (sign s i 45) b := by
  have hw : CaseOk r.1.length (sign s i 45) := sign_ok h.c hi (.inl rfl)
  refine ⟨hw, ?_, ?_⟩
  · rw [List.all_eq_true]
    intro p hp
    obtain ⟨j, hj, rfl⟩ := List.getElem_of_mem hp
    have hj2 := hj
    rw [List.length_zip, hw.len] at hj
    have hl : j < s.length := by have := h.c.len; omega
    have hz : j < (s.zip r.1).length := by rw [List.length_zip, h.c.len]; omega
    have q := List.all_eq_true.mp h.fit _ (List.getElem_mem hz)
    rw [List.getElem_zip] at q ⊢
    have g := sign_getD (c := 45) (j := j) h.c.len hi
    rw [List.getD_eq_getElem?_getD, List.getElem?_eq_getElem (by rw [hw.len]; omega), List.getD_eq_getElem?_getD, List.getElem?_eq_getElem hl] at g
    have g : (sign s i 45)[j]'(by rw [hw.len]; omega) = if j = i then 45 else s[j] := g
    by_cases c : j = i
    · rw [if_pos c] at g
      unfold fitsB
      rw [g]
      rfl
    · rw [if_neg c] at g
      rw [g]
      exact q
  · have m : b ∈ bitsL r (sign s i 45) := bitsL_wide h.c hi (by rw [h.bit]; simp)
    match hX : bitsL r (sign s i 45), h1 with
    | [x], _ =>
      rw [hX] at m
      rw [List.mem_singleton.mp m]
theorem wS_ok {r : RuleT} {f s : List Nat} {b n : Int} (h : WOk r f s b) : ∀ i, i ≤ r.1.length → WOk r f (wS r s n i).1 b
  | 0, _ => h
  | i + 1, hi => by
    have ih := wS_ok (n := n) h i (by omega)
    show WOk r f (if _ then _ else _ : List Nat × Int).1 b
    split
    · rename_i c
      split
      · exact ih.wide (by omega) c
      · exact ih
    · exact ih
theorem wide_loop {ns : List RuleT} {most k : Nat} {f s : List Nat} {b n : Int} (ok : NetOk ns most) (hm : most ≤ 20) (hk : k < ns.length) (h : WOk (ns.getD k ([], [])) f s b) (r2 r3 r5 r6 r7 r12 : Option D) :
    forL (tmName 9) C.b__law_paper_3_3 [9, 10, 11] [] ((List.range (ns.getD k ([], [])).1.length).map fun j : Nat => D.int (j : Nat)) [some (.lst [.int n]), some (dNet ns), r2, r3, some (.int (k : Nat)), r5, r6, r7, some (dt s), none, none, none, r12, none] = .ok (.nx, [some (.lst [.int (wS (ns.getD k ([], [])) s n (ns.getD k ([], [])).1.length).2]), some (dNet ns), r2, r3, some (.int (k : Nat)), r5, r6, r7, some (dt (wS (ns.getD k ([], [])) s n (ns.getD k ([], [])).1.length).1), none, none, none, r12, none]) := by
  have le := ok.le
  have rk := ok.lk hk
  have lk := rk.lk
  have a := net_at hk
  have ixn : ixD (dNet ns) (.int (k : Nat)) = .ok (dRule (ns.getD k ([], []))) := by
    show (match atI (ns.map dRule) (k : Int) with | some d => R.ok d | none => .stk) = _
    rw [a]
  generalize ns.getD k ([], []) = r at *
  have l8 := lk.len
  have ix1 : ixD (dRule r) (.int 1) = .ok (ti r.2) := rfl
  refine for_rng (tm := tmName 9) (body := C.b__law_paper_3_3) (vs := [9, 10, 11]) (ws := []) (n := r.1.length) (fun j : Nat => D.int (j : Nat)) (fun i => [some (.lst [.int (wS r s n i).2]), some (dNet ns), r2, r3, some (.int (k : Nat)), r5, r6, r7, some (dt (wS r s n i).1), none, none, none, r12, none]) fun i hi => ?_
  refine ⟨by simp, ?_⟩
  have w1 := wS_ok (n := n) h i (by omega)
  have ww : CaseOk r.1.length (sign (wS r s n i).1 i 45) := sign_ok w1.c hi (.inl rfl)
  have sg := (with_sign_ok (m := r.1.length) (c := 45) (by omega) w1.c hi).2
  have tk := take_ok (n := (wS r s n i).2) (m := 2) (by omega) (by omega)
  have eN : wS r s n (i + 1) = if (bitsL r (sign (wS r s n i).1 i 45)).length = 1 then (if (wS r s n i).2 % 2 = 1 then (sign (wS r s n i).1 i 45, (wS r s n i).2 / 2) else ((wS r s n i).1, (wS r s n i).2 / 2)) else wS r s n i := rfl
  rw [eN]
  generalize wS r s n i = q at *
  obtain ⟨s1, n1⟩ := q
  dsimp only at *
  generalize sign s1 i 45 = w at *
  have it := it_dt (a := w)
  have pw := law_placesW_ok (cs := w) (T := dt w) (by rw [ww.len]; omega) ww.sg it
  have c2 := fun (r8 r9 : Option D) => comp_map (tm := tmName 13) (t := cYes) (e := C.e__law_paper_3_2) (vs := [13]) (ws := []) (ρ := [some (.lst [.int n1]), some (dNet ns), r2, r3, some (.int (k : Nat)), r5, r6, r7, r8, r9, some (dt w), none, r12, none]) D.int (fun p => D.int (r.2.getD p.toNat 0)) (placesW w) fun p hp => by
    have b := places_lt ww.sg ((mem_placesW p).mp hp)
    have a := atI_mapI (xs := r.2) b.1 (by rw [lk.tab, ← ww.len]; exact_mod_cast b.2)
    have ix2 : ixD (ti r.2) (.int p) = .ok (.int (r.2.getD p.toNat 0)) := by
      show (match atI (r.2.map D.int) p with | some d => R.ok d | none => .stk) = _
      rw [a]
    clear eN
    generalize r.2.getD p.toNat 0 = y at *
    generalize ti r.2 = T2 at *
    generalize dNet ns = N at *
    generalize dRule r = RR at *
    simp only [turnC, C.e__law_paper_3_2]
    simp [ixn, ix1, ix2]
  have e4 : ((placesW w).map fun p => D.int (r.2.getD p.toNat 0)) = (bitsW r w).map D.int := by unfold bitsW; rw [List.map_map]; rfl
  rw [e4] at c2
  have zP : szOk ((placesW w).map D.int).length = true := szOk_of (by
    have h1 := placesW_len (cs := w)
    have h2 : 2 ^ w.length ≤ 2 ^ 8 := Nat.pow_le_pow_right (by omega) (by rw [ww.len]; omega)
    rw [List.length_map]
    omega)
  obtain ⟨x, ms, eB⟩ : ∃ x ms, bitsW r w = x :: ms := by
    cases h : bitsW r w with
    | nil =>
      unfold bitsW at h
      exact absurd (List.map_eq_nil_iff.mp h) placesW_ne
    | cons n ms => exact ⟨n, ms, rfl⟩
  obtain ⟨o1, _⟩ := one_min (X := bitsL r w) (n := x) (ms := ms) setI_lt fun y => by rw [← eB]; exact bitsW_mem y
  rw [eB] at c2
  have mn : minSD [.lst ((x :: ms).map D.int)] = .ok (.int (minI x ms)) := d_minS (ints_map (x :: ms))
  have mx : maxSD [.lst ((x :: ms).map D.int)] = .ok (.int (maxI x ms)) := d_maxS (ints_map (x :: ms))
  have nq : eqD (.int (minI x ms)) (.int (maxI x ms)) = .ok (.bl (decide (minI x ms = maxI x ms))) := by simp
  have eLW : li (placesW w) = .lst ((placesW w).map D.int) := rfl
  rw [eLW] at pw
  generalize (x :: ms).map D.int = BD at *
  generalize minI x ms = m1 at *
  generalize maxI x ms = m2 at *
  generalize (bitsL r w).length = X at *
  generalize (placesW w).map D.int = PD at *
  simp only [turnF, C.b__law_paper_3_3, s_dash]
  generalize C.e__law_paper_3_2 = E2 at *
  generalize dNet ns = N at *
  clear it eN eB e4 eLW ww w1 h rk lk a ixn ix1 l8
  have t2 := Int.emod_two_eq n1
  by_cases q5 : m1 = m2
  · rw [if_pos (o1.mp q5)]
    rw [decide_eq_true q5] at nq
    by_cases q6 : n1 % 2 = 1
    · rw [if_pos q6]
      rw [q6] at tk
      dsimp only
      generalize dt w = W at *
      generalize dt s1 = S1 at *
      simp [sg, pw, zP, c2, mn, mx, nq, tk]
    · rw [if_neg q6]
      have t3 : n1 % 2 = 0 := by omega
      rw [t3] at tk
      dsimp only
      generalize dt w = W at *
      generalize dt s1 = S1 at *
      simp [sg, pw, zP, c2, mn, mx, nq, tk]
  · rw [if_neg (fun z => q5 (o1.mpr z))]
    rw [decide_eq_false q5] at nq
    dsimp only
    generalize dt w = W at *
    generalize dt s1 = S1 at *
    simp [sg, pw, zP, c2, mn, mx, nq]
end H

set_option Elab.async false
set_option linter.all false
set_option maxRecDepth 100000
set_option maxHeartbeats 4000000
namespace H
open PySem PySem.Spec PyProof.Rows L2 Y
def toldN (ns : List RuleT) (f : List Nat) (i : Nat) : List Nat := (List.range i).filter (oneB ns f)
theorem toldN_succ {ns : List RuleT} {f : List Nat} {i : Nat} : toldN ns f (i + 1) = if oneB ns f i = true then toldN ns f i ++ [i] else toldN ns f i := by
  unfold toldN
  rw [List.range_succ, List.filter_append]
  cases h : oneB ns f i with
  | true => simp [h]
  | false => simp [h]
theorem told_loop {ns : List RuleT} {most : Nat} {f : List Nat} (ok : NetOk ns most) (hm : most ≤ 8) (hf : CaseOk ns.length f) (r0 r2 r5 r6 : Option D) :
    forL (tmName 4) C.b__law_paper_3_2 [4] [] ((List.range ns.length).map fun j : Nat => D.int (j : Nat)) [r0, some (dNet ns), r2, some (dt f), none, r5, r6, some (.lst []), none, none, none, none, none, none] = .ok (.nx, [r0, some (dNet ns), r2, some (dt f), none, r5, r6, some (.lst ((toldI ns f).map fun k : Nat => D.int (k : Nat))), none, none, none, none, none, none]) := by
  have le := ok.le
  have fl := hf.len
  have h := for_rng (tm := tmName 4) (body := C.b__law_paper_3_2) (vs := [4]) (ws := []) (n := ns.length) (fun j : Nat => D.int (j : Nat)) (fun i => [r0, some (dNet ns), r2, some (dt f), none, r5, r6, some (.lst ((toldN ns f i).map fun k : Nat => D.int (k : Nat))), none, none, none, none, none, none]) fun i hi => by
    refine ⟨by simp, ?_⟩
    have b := law_bits_ok ok (by omega) hf hi
    have i1 := ix_dt (l := f) (k := i) (by omega) (by omega)
    have sg := getD_sg hf.sg (j := i) (by omega)
    have e1 := eq_dt (a := [f.getD i 0]) (b := [45]) (sg1 (by omega)) (sg1 (by omega))
    have lb : lenD [li (bitsF ns f i)] = .ok (.int (bitsF ns f i).length) := by
      have := bitsF_two ok hf hi
      simp [szOk_of (show (bitsF ns f i).length ≤ 16777216 by omega)]
    have e2 : eqD (.int (bitsF ns f i).length) (.int 1) = .ok (.bl (decide ((bitsF ns f i).length = 1))) := by
      have : eqD (.int (bitsF ns f i).length) (.int 1) = .ok (.bl (decide (((bitsF ns f i).length : Int) = 1))) := by simp
      rw [this]
      congr 2
      exact decide_eq_decide.mpr (by omega)
    have zl : szOk (((toldN ns f i).map fun k : Nat => D.int (k : Nat)).length + 1) = true := szOk_of (by
      have : (toldN ns f i).length ≤ (List.range i).length := List.length_filter_le _ _
      rw [List.length_range] at this
      rw [List.length_map]
      omega)
    rw [toldN_succ]
    have eO : oneB ns f i = (decide (f.getD i 0 = 45) && decide ((bitsF ns f i).length = 1)) := rfl
    rw [eO]
    generalize toldN ns f i = T at *
    generalize (bitsF ns f i).length = BL at *
    generalize li (bitsF ns f i) = LB at *
    generalize f.getD i 0 = c at *
    generalize dNet ns = N at *
    generalize dt f = F at *
    simp only [turnF, C.b__law_paper_3_2, s_dash]
    by_cases c1 : c = 45
    · subst c1
      rw [decide_eq_true rfl] at e1
      by_cases c2 : BL = 1
      · rw [decide_eq_true c2] at e2
        rw [decide_eq_true rfl, decide_eq_true c2, if_pos (show (true && true) = true from rfl), List.map_append, List.map_singleton]
        generalize T.map (fun k : Nat => D.int (k : Nat)) = TD at *
        simp [i1, e1, b, lb, e2, zl]
      · rw [decide_eq_false c2] at e2
        rw [decide_eq_true rfl, decide_eq_false c2, if_neg (show ¬ (true && false) = true by decide)]
        generalize T.map (fun k : Nat => D.int (k : Nat)) = TD at *
        simp [i1, e1, b, lb, e2]
    · have z : ¬ [c] = [45] := by simpa using c1
      rw [decide_eq_false z] at e1
      rw [decide_eq_false c1, if_neg (show ¬ (false && decide (BL = 1)) = true by simp)]
      generalize T.map (fun k : Nat => D.int (k : Nat)) = TD at *
      simp [i1, e1]
  exact h
end H

set_option Elab.async false
set_option linter.all false
set_option maxRecDepth 100000
set_option maxHeartbeats 4000000
namespace H
open PySem PySem.Spec PyProof.Rows L2 Y
theorem len_dt {l : List Nat} (h : l.length ≤ 16777216) : lenD [dt l] = .ok (.int l.length) := by
  have : lenD [.str (tx l)] = .ok (.int (tx l).length) := by simp [tx_len, szOk_of h]
  rw [tx_len] at this
  exact this
theorem wok_signs {ns : List RuleT} {most k : Nat} {f : List Nat} (ok : NetOk ns most) (hm : most ≤ 8) (hf : CaseOk ns.length f) (hk : k < ns.length) (h1 : bitsF ns f k = [bitOf ns f k]) : WOk (ns.getD k ([], [])) f (signsAt f (ns.getD k ([], [])).1) (bitOf ns f k) := by
  have le := ok.le
  have gd := (ok.good (by omega)).at hk
  refine ⟨⟨by unfold signsAt; simp, fun c hc => ?_⟩, ?_, h1⟩
  · obtain ⟨e, he, rfl⟩ := List.mem_map.mp hc
    have := gd.2.1 e he
    exact getD_sg hf.sg (by have := hf.len; omega)
  · rw [List.all_eq_true]
    intro p hp
    obtain ⟨j, hj, rfl⟩ := List.getElem_of_mem hp
    rw [List.getElem_zip]
    unfold fitsB signsAt
    rw [List.getElem_map]
    simp
theorem row_wok {ns : List RuleT} {k : Nat} {f s : List Nat} {b : Int} (hk : k < ns.length) (hf : f.getD k 0 = 45) (h : WOk (ns.getD k ([], [])) f s b) : rowR ns f (dR (k, s)) = some b := by
  show (if 0 ≤ ((k : Nat) : Int) ∧ ((k : Nat) : Int) < ns.length then rowS ns f ((k : Nat) : Int).toNat (tx s).cps.toList else none) = _
  rw [if_pos (by omega), tx_back, Int.toNat_natCast]
  unfold rowS
  have a : s.all isSg = true := List.all_eq_true.mpr fun c hc => isSg_iff.mpr (h.c.sg c hc)
  rw [if_pos ⟨hf, h.c.len, a, h.fit, by rw [h.bit]; rfl⟩, h.bit]
  rfl
theorem paper_turn {ns : List RuleT} {most : Nat} {f : List Nat} {n : Int} {P : List (Nat × List Nat)} (ok : NetOk ns most) (hm : most ≤ 8) (hf : CaseOk ns.length f) (hne : toldI ns f ≠ []) (hP : P.length ≤ 50) (r2 : Option D) :
    ∃ (k : Nat) (s : List Nat) (n' : Int), k ∈ toldI ns f ∧ WOk (ns.getD k ([], [])) f s (bitOf ns f k) ∧ C.b__law_paper_3_4 [some (.lst [.int n]), some (dNet ns), r2, some (dt f), none, none, some (.lst (P.map dR)), none, none, none, none, none, none, none] = .ok (.nx, [some (.lst [.int n']), some (dNet ns), r2, some (dt (sign f k (sgOf ns f k))), some (.int (k : Nat)), some (dt [sgOf ns f k]), some (.lst ((P ++ [(k, s)]).map dR)), some (.lst ((toldI ns f).map fun k : Nat => D.int (k : Nat))), some (dt s), none, none, none, none, none]) := by
  have le := ok.le
  have lt := told_loop ok hm hf (some (.lst [.int n])) r2 none (some (.lst (P.map dR)))
  have rm : rng1D [.int (ns.length : Nat)] = .ok ((List.range ns.length).map fun j : Nat => D.int (j : Nat)) := by rw [d_rng1, if_pos (rngOk_of (by omega) (by omega))]; rfl
  have zm : szOk ((List.range ns.length).map fun j : Nat => D.int (j : Nat)).length = true := szOk_of (by rw [List.length_map, List.length_range]; omega)
  have ln : lenD [dNet ns] = .ok (.int ns.length) := by simp
  have tl : (toldI ns f).length ≤ ns.length := by
    have := List.length_filter_le (oneB ns f) (List.range ns.length)
    rw [List.length_range] at this
    exact this
  have tp : 0 < (toldI ns f).length := List.length_pos_iff.mpr hne
  have tk := take_ok (n := n) (m := (toldI ns f).length) (by omega) (by omega)
  have lT : lenD [.lst ((toldI ns f).map fun k : Nat => D.int (k : Nat))] = .ok (.int (toldI ns f).length) := by rw [d_lenL, List.length_map]
  have q0 : 0 ≤ n % ((toldI ns f).length : Nat) := Int.emod_nonneg _ (by omega)
  have q1 : n % ((toldI ns f).length : Nat) < (toldI ns f).length := Int.emod_lt_of_pos _ (by omega)
  obtain ⟨d, ed, k, hk, rfl⟩ := atI_any (L := (toldI ns f).map fun k : Nat => D.int (k : Nat)) (i := n % ((toldI ns f).length : Nat)) (p := fun d => ∃ k ∈ toldI ns f, d = .int (k : Nat)) q0 (by rw [List.length_map]; exact q1) (fun x hx => by
    obtain ⟨k, hk, rfl⟩ := List.mem_map.mp hx
    exact ⟨k, hk, rfl⟩)
  have ixT : ixD (.lst ((toldI ns f).map fun k : Nat => D.int (k : Nat))) (.int (n % ((toldI ns f).length : Nat))) = .ok (.int (k : Nat)) := by
    show (match atI ((toldI ns f).map fun k : Nat => D.int (k : Nat)) (n % ((toldI ns f).length : Nat)) with | some d => R.ok d | none => .stk) = _
    rw [ed]
  obtain ⟨hkl, hk1⟩ := told_mem.mp hk
  obtain ⟨fk, b1, b2⟩ := one_bits ok hf hkl hk1
  have w0 := wok_signs ok hm hf hkl b1
  have bt := law_bits_ok ok (by omega) hf hkl
  rw [b1] at bt
  have x0 : ixD (li [bitOf ns f k]) (.int 0) = .ok (.int (bitOf ns f k)) := rfl
  have sb : strOfD [.int (bitOf ns f k)] = .ok (dt [sgOf ns f k]) := str_bit b2
  have rk := ok.lk hkl
  have l8 := rk.lk.len
  have gd := (ok.good (by omega)).at hkl
  have a := net_at hkl
  have ixn : ixD (dNet ns) (.int (k : Nat)) = .ok (dRule (ns.getD k ([], []))) := by
    show (match atI (ns.map dRule) (k : Int) with | some d => R.ok d | none => .stk) = _
    rw [a]
  have ix0 : ixD (dRule (ns.getD k ([], []))) (.int 0) = .ok (ti (ns.getD k ([], [])).1) := rfl
  have itE : itD (ti (ns.getD k ([], [])).1) = .ok ((ns.getD k ([], [])).1.map D.int) := rfl
  have zE : szOk ((ns.getD k ([], [])).1.map D.int).length = true := szOk_of (by rw [List.length_map]; omega)
  have cm := comp_map (tm := tmName 12) (t := cYes) (e := C.e__law_paper_3_1) (vs := [12]) (ws := []) (ρ := [some (.lst [.int (n / ((toldI ns f).length : Nat))]), some (dNet ns), r2, some (dt f), some (.int (k : Nat)), none, some (.lst (P.map dR)), some (.lst ((toldI ns f).map fun k : Nat => D.int (k : Nat))), none, none, none, none, none, none]) D.int (fun e => dt [f.getD e.toNat 0]) (ns.getD k ([], [])).1 fun e he => by
    have h2 := gd.2.1 e he
    have i2 := ix_dt (l := f) (k := e.toNat) (by have := hf.len; omega) (by have := hf.len; omega)
    rw [show ((e.toNat : Nat) : Int) = e by omega] at i2
    generalize f.getD e.toNat 0 = w at *
    generalize dNet ns = N at *
    generalize dt f = F at *
    simp only [turnC, C.e__law_paper_3_1]
    simp [i2]
  have e5 : ((ns.getD k ([], [])).1.map fun e => dt [f.getD e.toNat 0]) = (signsAt f (ns.getD k ([], [])).1).map fun c => dt [c] := by unfold signsAt; rw [List.map_map]; rfl
  rw [e5] at cm
  have jn := join_dt (f := signsAt f (ns.getD k ([], [])).1) (by rw [w0.c.len]; omega)
  have lS := len_dt (l := signsAt f (ns.getD k ([], [])).1) (by rw [w0.c.len]; omega)
  rw [w0.c.len] at lS
  have rw_ : rng1D [.int ((ns.getD k ([], [])).1.length : Nat)] = .ok ((List.range (ns.getD k ([], [])).1.length).map fun j : Nat => D.int (j : Nat)) := by rw [d_rng1, if_pos (rngOk_of (by omega) (by omega))]; rfl
  have zw : szOk ((List.range (ns.getD k ([], [])).1.length).map fun j : Nat => D.int (j : Nat)).length = true := szOk_of (by rw [List.length_map, List.length_range]; omega)
  have wl := wide_loop (n := n / ((toldI ns f).length : Nat)) ok (by omega) hkl w0 r2 (some (dt f)) (some (dt [sgOf ns f k])) (some (.lst (P.map dR))) (some (.lst ((toldI ns f).map fun k : Nat => D.int (k : Nat)))) none
  have wk := wS_ok (n := n / ((toldI ns f).length : Nat)) w0 _ (Nat.le_refl _)
  have sg := (with_sign_ok (m := ns.length) (c := sgOf ns f k) (by omega) hf hkl).2
  have zP : szOk ((P.map dR).length + 1) = true := szOk_of (by rw [List.length_map]; omega)
  refine ⟨k, (wS (ns.getD k ([], [])) (signsAt f (ns.getD k ([], [])).1) (n / ((toldI ns f).length : Nat)) (ns.getD k ([], [])).1.length).1, (wS (ns.getD k ([], [])) (signsAt f (ns.getD k ([], [])).1) (n / ((toldI ns f).length : Nat)) (ns.getD k ([], [])).1.length).2, hk, wk, ?_⟩
  · have eA : ∀ s, (P ++ [(k, s)]).map dR = P.map dR ++ [.tup [.int (k : Nat), dt s]] := fun s => by rw [List.map_append]; rfl
    rw [eA]
    clear eA ed wk w0 e5
    generalize wS (ns.getD k ([], [])) (signsAt f (ns.getD k ([], [])).1) (n / ((toldI ns f).length : Nat)) (ns.getD k ([], [])).1.length = WW at *
    generalize n / ((toldI ns f).length : Nat) = n1 at *
    generalize n % ((toldI ns f).length : Nat) = nq at *
    generalize ((toldI ns f).length : Nat) = TL at *
    generalize (signsAt f (ns.getD k ([], [])).1).map (fun c => dt [c]) = SC at *
    generalize dt (signsAt f (ns.getD k ([], [])).1) = S0 at *
    generalize ((List.range (ns.getD k ([], [])).1.length).map fun j : Nat => D.int (j : Nat)) = RW at *
    generalize ti (ns.getD k ([], [])).1 = T1 at *
    generalize (ns.getD k ([], [])).1.map D.int = R1 at *
    generalize (ns.getD k ([], [])).1.length = RL at *
    generalize dRule (ns.getD k ([], [])) = RR at *
    generalize dt (sign f k (sgOf ns f k)) = G at *
    generalize dt [sgOf ns f k] = SB at *
    generalize li [bitOf ns f k] = LB at *
    generalize bitOf ns f k = bo at *
    generalize (toldI ns f).map (fun k : Nat => D.int (k : Nat)) = TT at *
    generalize P.map dR = PD at *
    generalize ((List.range ns.length).map fun j : Nat => D.int (j : Nat)) = RG at *
    generalize dNet ns = N at *
    generalize dt f = F at *
    simp only [C.b__law_paper_3_4]
    generalize C.b__law_paper_3_2 = B2 at *
    generalize C.b__law_paper_3_3 = B3 at *
    generalize C.e__law_paper_3_1 = E1 at *
    simp [ln, rm, zm, lt, lT, tk, ixT, ixn, ix0, itE, zE, cm, jn, bt, x0, sb, lS, rw_, zw, wl, sg, zP, shAt, chkO_ws, -d_rng1]
end H

set_option Elab.async false
set_option linter.all false
set_option maxRecDepth 100000
set_option maxHeartbeats 4000000
namespace H
open PySem PySem.Spec PyProof.Rows L2 Y
theorem full_ne {m : Nat} {F : List Nat} (h : CaseOk m F) (h45 : 45 ∉ F) {k : Nat} (hk : k < m) : F.getD k 0 ≠ 45 := fun z => by
  rw [List.getD_eq_getElem?_getD, List.getElem?_eq_getElem (by rw [h.len]; exact hk)] at z
  exact h45 (z ▸ List.getElem_mem _)
theorem pourN_case {ns : List RuleT} {most : Nat} (ok : NetOk ns most) : ∀ (n : Nat) (f : List Nat) (L : List (List Nat)), CaseOk ns.length f → CaseOk ns.length (pourN ns n f L).1
  | 0, f, L, hf => hf
  | n + 1, f, L, hf => by
    have ep : pourN ns (n + 1) f L = if (toldI ns f).isEmpty = true then (f, L) else pourN ns n (closeS ns f f (toldI ns f)) (L ++ [toldI ns f]) := rfl
    rw [ep]
    split
    · exact hf
    · exact pourN_case ok n _ _ (close_f ok hf).1
theorem dash_pos {f : List Nat} (h : 45 ∈ f) : 0 < dash f := by
  unfold dash
  exact List.length_pos_iff.mpr (List.ne_nil_of_mem (List.mem_filter.mpr ⟨h, by simp⟩))
theorem paper_loop {ns : List RuleT} {most : Nat} (ok : NetOk ns most) (hm : most ≤ 8) {f0 : List Nat} {M : Nat} {L : List (List Nat)} (h0 : CaseOk ns.length f0) (hF : 45 ∉ (pourN ns M f0 L).1) (r2 : Option D) :
    ∀ (m : Nat) (f : List Nat) (n : Int) (P : List (Nat × List Nat)), dash f < m → CaseOk ns.length f → Ge ns.length f0 f → Ge ns.length f (pourN ns M f0 L).1 → P.length + dash f ≤ 50 →
    ∃ (Q : List (Nat × List Nat)) (g : List Nat) (n' : Int), whileN (cBl (cOp inD (cC (.str "-")) (cVar 3))) C.b__law_paper_3_4 [4, 5, 7, 8, 9, 10, 11] m [some (.lst [.int n]), some (dNet ns), r2, some (dt f), none, none, some (.lst (P.map dR)), none, none, none, none, none, none, none] = .ok (.nx, [some (.lst [.int n']), some (dNet ns), r2, some (dt g), none, none, some (.lst ((P ++ Q).map dR)), none, none, none, none, none, none, none])
      ∧ runP ns (Q.map dR) f = some g ∧ 45 ∉ g ∧ (∀ q ∈ Q, q.1 < ns.length ∧ SgOk q.2 ∧ q.2.length ≤ 100) ∧ Q.length ≤ dash f
  | 0, f, _, _, hd, _, _, _, _ => by omega
  | m + 1, f, n, P, hd, hf, g1, g2, hP => by
    have le := ok.le
    have iN : inD (.str "-") (dt f) = .ok (.bl (decide (45 ∈ f))) := in_text (c := 45) (l := f)
    by_cases c : 45 ∈ f
    · rw [decide_eq_true c] at iN
      have ne := told_some ok (by omega) hf M f0 L h0 g1 g2 hF c
      have dp := dash_pos c
      obtain ⟨k, s, n1, hk, hw, b⟩ := paper_turn (n := n) (P := P) ok hm hf ne (by omega) r2
      obtain ⟨hkl, hk1⟩ := told_mem.mp hk
      obtain ⟨fk, b1, b2⟩ := one_bits ok hf hkl hk1
      have ds := dash_sign (f := f) (k := k) (c := sgOf ns f k) (by rw [hf.len]; exact hkl) fk (by unfold sgOf; omega)
      have hF1 := pourN_case ok M f0 L h0
      have inv := inv_pour ok (by omega) M f0 L h0 (fun k _ c => .inl c)
      have Fk : (pourN ns M f0 L).1.getD k 0 = sgOf ns f k := by
        have n45 := full_ne hF1 hF hkl
        rcases inv k hkl n45 with z | z
        · exact absurd (g1 k hkl z) (by rw [fk]; exact fun e => z e.symm)
        · rw [bits_eq ok (by omega) hf hF1 g2 hkl b1] at z
          have := (List.cons.inj z).1
          unfold sgOf
          omega
      have cs : sgOf ns f k = 45 ∨ sgOf ns f k = 48 ∨ sgOf ns f k = 49 := by unfold sgOf; omega
      have hs := sign_ok hf hkl cs
      have a1 : Ge ns.length f0 (sign f k (sgOf ns f k)) := fun j hj hc => by
        rw [sign_getD hf.len hkl]
        by_cases e : j = k
        · subst e
          exact absurd (g1 j hj hc) (by rw [fk]; exact fun e => hc e.symm)
        · rw [if_neg e]; exact g1 j hj hc
      have a2 : Ge ns.length (sign f k (sgOf ns f k)) (pourN ns M f0 L).1 := fun j hj hc => by
        rw [sign_getD hf.len hkl] at hc ⊢
        by_cases e : j = k
        · subst e
          rw [if_pos rfl]; exact Fk
        · rw [if_neg e] at hc ⊢; exact g2 j hj hc
      obtain ⟨Q, g, n', w, r, h45, hq, hl⟩ := paper_loop ok hm h0 hF r2 m (sign f k (sgOf ns f k)) n1 (P ++ [(k, s)]) (by omega) hs a1 a2 (by rw [List.length_append, List.length_singleton]; omega)
      have l8 := (ok.lk hkl).lk.len
      refine ⟨(k, s) :: Q, g, n', ?_, ?_, h45, fun q hq' => ?_, by rw [List.length_cons]; omega⟩
      · rw [List.append_assoc] at w
        have w : whileN _ _ _ _ _ = .ok (.nx, [some (.lst [.int n']), some (dNet ns), r2, some (dt g), none, none, some (.lst ((P ++ (k, s) :: Q).map dR)), none, none, none, none, none, none, none]) := w
        clear r hq
        generalize (P ++ (k, s) :: Q).map dR = PQ at *
        generalize (P ++ [(k, s)]).map dR = PK at *
        generalize P.map dR = PD at *
        generalize (toldI ns f).map (fun k : Nat => D.int (k : Nat)) = TT at *
        generalize dNet ns = N at *
        generalize dt (sign f k (sgOf ns f k)) = F1 at *
        generalize dt [sgOf ns f k] = SG at *
        generalize dt f = F at *
        generalize dt s = S at *
        generalize dt g = G at *
        unfold whileN
        generalize C.b__law_paper_3_4 = B at *
        simp [iN, b]
        exact w
      · show (match rowR ns f (dR (k, s)) with | none => none | some b => runP ns (Q.map dR) (sign f k (48 + b.toNat))) = _
        rw [row_wok hkl fk hw]
        exact r
      · rcases List.mem_cons.mp hq' with rfl | hq'
        · exact ⟨hkl, hw.c.sgok, by have := hw.c.len; show s.length ≤ 100; omega⟩
        · exact hq q hq'
    · rw [decide_eq_false c] at iN
      refine ⟨[], f, n, ?_, rfl, c, fun q hq => (by cases hq), by simp⟩
      rw [List.append_nil]
      generalize P.map dR = PD at *
      generalize dNet ns = N at *
      generalize dt f = F at *
      unfold whileN
      simp [iN]
end H

set_option Elab.async false
set_option linter.all false
set_option maxRecDepth 100000
set_option maxHeartbeats 4000000
namespace H
open PySem PySem.Spec PyProof.Rows L2 Y
theorem law_paper3_ok {n : Int} {net : List RuleT} {hs : List (Nat × Int)} {most : Nat} (okn : NetOk net most) (hm : most ≤ 8) (h : HoldsOk net.length hs) (full : 45 ∉ (pourR net hs).1) :
    ∃ (P : List (Nat × List Nat)) (n' : Int) (g : List Nat), C.g__law_paper_3 [.lst [.int n], dNet (heldL net hs), HD hs] = .ok (.fr (.lst (P.map dR)), [some (.lst [.int n']), none, none]) ∧ RowsOk net.length P ∧ runP (heldL net hs) (P.map dR) (frH net.length hs) = some g ∧ 45 ∉ g ∧ CaseOk net.length g := by
  have le := okn.le
  have ok2 := held_net okn h
  have ll := heldL_len (ns := net) (hs := hs)
  have hln := h.len
  have okT : ∀ i, CaseOk net.length (frH net.length (hs.take i)) := fun i => frH_ok rep_case fun p hp => ⟨h.lt p (List.mem_of_mem_take hp), h.bit p (List.mem_of_mem_take hp)⟩
  have fc : CaseOk net.length (frH net.length hs) := by have := okT hs.length; rwa [List.take_length] at this
  have full : 45 ∉ (pourN (heldL net hs) (dash (frH net.length hs) + 1) (frH net.length hs) [hs.map (·.1)]).1 := full
  generalize heldL net hs = ns at *
  generalize net.length = m at *
  subst ll
  have ln : lenD [dNet ns] = .ok (.int ns.length) := by simp
  have lp0 := for_idx (tm := tmTup [4, 5]) (body := C.b__law_paper_3_1) (vs := [4, 5]) (ws := []) dH hs (fun i => [some (.lst [.int n]), some (dNet ns), some (HD hs), some (dt (frH ns.length (hs.take i))), none, none, none, none, none, none, none, none, none, none]) fun i hi => by
    refine ⟨by simp, ?_⟩
    have l2 := h.lt _ (List.getElem_mem hi)
    have l3 := h.bit _ (List.getElem_mem hi)
    have et : hs.take (i + 1) = hs.take i ++ [hs[i]] := List.take_succ_eq_append_getElem hi
    have w := (with_sign_ok (c := 48 + (hs[i]).2.toNat) (by omega) (okT i) l2).2
    rw [et, frH_snoc]
    have sb : strOfD [.int (hs[i]).2] = .ok (dt [48 + (hs[i]).2.toNat]) := str_bit l3
    unfold dH
    generalize frH ns.length (hs.take i) = f at *
    generalize sign f (hs[i]).1 (48 + (hs[i]).2.toNat) = g at *
    generalize (hs[i]).1 = k at *
    generalize (hs[i]).2 = b at *
    generalize dNet ns = N at *
    generalize HD hs = HX at *
    simp only [turnF, C.b__law_paper_3_1]
    simp [sb, w]
  rw [List.take_length] at lp0
  have lp0 : forL (tmTup [4, 5]) C.b__law_paper_3_1 [4, 5] [] (hs.map dH) [some (.lst [.int n]), some (dNet ns), some (HD hs), some (dt (List.replicate ns.length 45)), none, none, none, none, none, none, none, none, none, none] = .ok (.nx, [some (.lst [.int n]), some (dNet ns), some (HD hs), some (dt (frH ns.length hs)), none, none, none, none, none, none, none, none, none, none]) := lp0
  have dn := dash_len8 fc
  have ge0 := pourN_ge ok2 (dash (frH ns.length hs) + 1) (frH ns.length hs) [hs.map (·.1)] fc
  obtain ⟨Q, g, n', w, r, h45, hq, hl⟩ := paper_loop ok2 hm fc full (some (HD hs)) (dash (frH ns.length hs) + 1) (frH ns.length hs) n [] (by omega) fc Ge.refl ge0 (by rw [List.length_nil]; omega)
  have w := sWhile_of w
  rw [List.nil_append] at w
  refine ⟨Q, n', g, ?_, ⟨by omega, fun p hp => (hq p hp).1, fun p hp => (hq p hp).2⟩, r, h45, runP_ok ok2 fc r⟩
  have zh : szOk (hs.map dH).length = true := szOk_of (by rw [List.length_map]; omega)
  have dm := dash_mul (n := ns.length) (by omega)
  have eH : HD hs = .ftu (hs.map dH) := rfl
  rw [eH] at lp0 w ⊢
  have e0 : ([] : List (Nat × List Nat)).map dR = [] := rfl
  rw [e0] at w
  clear r hq okT full ge0
  simp only [C.g__law_paper_3, C.m__law_paper_3]
  generalize C.b__law_paper_3_1 = B1 at *
  generalize C.b__law_paper_3_4 = B4 at *
  generalize Q.map dR = QD at *
  generalize dNet ns = N at *
  generalize dt (frH ns.length hs) = F at *
  generalize dt (List.replicate ns.length 45) = F0 at *
  generalize hs.map dH = HH at *
  generalize dt g = G at *
  simp [e_fnD, ln, dm, zh, lp0, w, shAt, chkO_ws, -d_mulS]
end H

set_option Elab.async false
set_option linter.all false
set_option maxRecDepth 100000
set_option maxHeartbeats 4000000
namespace H
open PySem PySem.Spec PyProof.Rows L2 Y
theorem endP_ne {o : Option (List Nat)} : neD (endP o) (endP o) = .ok (.bl false) := by
  cases o with
  | none => exact neD_refl (n := 1) (x := .non) trivial
  | some g =>
    show neD (if 45 ∈ g then _ else _) (if 45 ∈ g then _ else _) = _
    by_cases c : 45 ∈ g
    · rw [if_pos c]; exact neD_refl (n := 1) (x := .non) trivial
    · rw [if_neg c]; exact neD_refl (n := 1) (fun d h => by obtain ⟨x, _, rfl⟩ := List.mem_map.mp h; trivial)
theorem same76 {net : List RuleT} {hs : List (Nat × Int)} {most : Nat} (okn : NetOk net most) (hm : most ≤ 8) (h : HoldsOk net.length hs) {d : D} (pt : PT d) :
    ∃ e, C.g_shown_pour [dNet net, HD hs, d] = .ok (.fr e) ∧ C.g__law_pour_right [dNet (heldL net hs), HD hs, d] = .ok (.fr e) ∧ neD e e = .ok (.bl false) := by
  rcases pt with ⟨rows, rfl, hr, hl⟩ | ⟨nd, nl⟩
  · exact ⟨_, shown_pour_ok okn hm h hr hl, pour_right_ok (held_net okn h) hm heldL_len h hr hl, endP_ne⟩
  · exact ⟨.non, shown_pour_no okn hm h nd nl, pour_right_no nd nl, neD_refl (n := 1) (x := .non) trivial⟩
theorem tail_ok {m : Nat} {hs : List (Nat × Int)} (h : HoldsOk m hs) : HoldsOk m hs.tail := ⟨h.up.tail, fun p hp => h.lt p (List.mem_of_mem_tail hp), fun p hp => h.bit p (List.mem_of_mem_tail hp)⟩
theorem cut76 {xs : List D} : cutD xs (some 1) none = xs.tail := by rw [← List.drop_one]; exact cut_from (k := 1)
theorem turn76 {net : List RuleT} {hs : List (Nat × Int)} {most : Nat} {P : List (Nat × List Nat)} {n : Int} {t : Nat} (okn : NetOk net most) (hm : most ≤ 8) (h : HoldsOk net.length hs) (hP : RowsOk net.length P) (r0 r1 r4 : Option D) :
    ∃ n', turnF (tmName 8) C.b_law_k76_1 [8, 9, 10, 11] (.int (t : Nat)) [r0, r1, some (.lst [.int n]), some (dNet net), r4, some (HD hs), some (dNet (heldL net hs)), some (.lst (P.map dR)), none, none, none, none] = .ok (.nx, [r0, r1, some (.lst [.int n']), some (dNet net), r4, some (HD hs), some (dNet (heldL net hs)), some (.lst (P.map dR)), none, none, none, none]) := by
  have le := okn.le
  have pos := okn.pos
  obtain ⟨hd, d, n', lo, hdd, pt⟩ := law_other_ok (n := n) (ns := net) ⟨by omega, by omega⟩ hP
  have ptP : PT (.lst (P.map dR)) := .inl ⟨_, rfl, fun x hx => by
    obtain ⟨p, hp, rfl⟩ := List.mem_map.mp hx
    exact rw_row (hP.sg p hp).1 (by have := (hP.sg p hp).2; omega), by rw [List.length_map]; have := hP.len; omega⟩
  have ht := tail_ok h
  have lh := law_held_ok ht (by omega)
  obtain ⟨one, ho⟩ : ∃ one, one = if 0 < t then d else .lst (P.map dR) := ⟨_, rfl⟩
  have p1 : PT one := by rw [ho]; split <;> assumption
  obtain ⟨e1, a1, a2, a3⟩ := same76 okn hm h p1
  obtain ⟨e2, c1, c2, c3⟩ := same76 okn hm ht p1
  have hc : cutD (hs.map dH) (some 1) none = hs.tail.map dH := by rw [cut76, List.map_tail]
  have eH : ∀ hs : List (Nat × Int), HD hs = .ftu (hs.map dH) := fun _ => rfl
  rw [eH] at a1 a2 c1 c2 lh ⊢
  refine ⟨n', ?_⟩
  generalize hs.tail.map dH = HT at *
  generalize hs.map dH = HH at *
  generalize dNet (heldL net hs.tail) = N3 at *
  generalize dNet (heldL net hs) = N2 at *
  generalize dNet net = N at *
  generalize P.map dR = PD at *
  simp only [turnF, C.b_law_k76_1]
  by_cases c : 0 < t
  · rw [if_pos c] at ho
    subst ho
    have c' : (0 : Int) < (t : Nat) := by omega
    have ix : ∀ x y : D, atI [x, y] 1 = some y := fun _ _ => atI_of (j := 1) rfl rfl
    rcases hdd with rfl | rfl <;> simp [lo, c, c', ix, a1, a2, a3, hc, c1, c2, c3, lh]
  · rw [if_neg c] at ho
    have c' : ¬ (0 : Int) < (t : Nat) := by omega
    have ix : ∀ x y : D, atI [x, y] 0 = some x := fun _ _ => atI_of (j := 0) rfl rfl
    rw [← ho] at lo ⊢
    rcases hdd with rfl | rfl <;> simp [lo, c, c', ix, a1, a2, a3, hc, c1, c2, c3, lh]
theorem good_k76 : Good C.g_law_k76 63 := fun ns hl hb => by
  obtain ⟨M, hM⟩ : ∃ M : Nat, max (1 : Int) (min (ns.length : Int) 3) = M := ⟨(max (1 : Int) (min (ns.length : Int) 3)).toNat, by omega⟩
  have hM4 : M ≤ 3 := by omega
  have r5 : rng1D [.int 5] = .ok ((List.range 5).map fun j : Nat => D.int (j : Nat)) := by rw [d_rng1, if_pos (by decide)]; rfl
  have z5 : szOk ((List.range 5).map fun j : Nat => D.int (j : Nat)).length = true := szOk_of (by simp)
  obtain ⟨ρ', h, hρ⟩ := for_inv (tm := tmName 1) (body := C.b_law_k76_2) (vs := [1, 2, 3, 4, 5, 6, 7, 8, 9, 10, 11]) (ws := []) (fun k : Nat => D.int (k : Nat)) (fun ρ => ρ = [some (.arg ns), none, none, none, none, none, none, none, none, none, none, none]) (List.range M) _ rfl fun ρ k hρ hk => by
    subst hρ
    have hk := List.mem_range.mp hk
    obtain ⟨b, hbox⟩ := box_ok (ns := ns) (k := k) hb (by omega)
    obtain ⟨net, n1, hnet, ok⟩ := net_ok (n := b) (most := 4) (by omega) (by omega)
    have hnet : C.g__law_net [.lst [.int b], .int 4] = _ := hnet
    have hle := ok.le
    have hpos := ok.pos
    have ln : lenD [dNet net] = .ok (.int net.length) := by simp
    obtain ⟨st, n2, hst0, hst⟩ := drawn_stand_ok (n := n1) (m := net.length) (by omega)
    obtain ⟨hs, n3, se, okh, full⟩ := law_settling_ok (n := n2) ok (by omega) hst
    have hd := law_held_ok okh (by omega)
    obtain ⟨P, n4, g, pa, hP, run, h45, hg⟩ := law_paper3_ok (n := n3) ok (by omega) okh full
    have ptR : ∀ x ∈ P.map dR, Rw x := fun x hx => by
      obtain ⟨p, hp, rfl⟩ := List.mem_map.mp hx
      exact rw_row (hP.sg p hp).1 (by have := (hP.sg p hp).2; omega)
    have sh := shown_pour_ok ok (by omega) okh ptR (by rw [List.length_map]; have := hP.len; omega)
    have eE : endP (runP (heldL net hs) (P.map dR) (frH net.length hs)) = ti (g.map fun c : Nat => ((c : Nat) : Int) - 48) := by
      rw [run]
      show (if 45 ∈ g then _ else _) = _
      rw [if_neg h45]
    rw [eE] at sh
    obtain ⟨ρ2, lp2, n5, e2⟩ := for_inv (tm := tmName 8) (body := C.b_law_k76_1) (vs := [8, 9, 10, 11]) (ws := []) (fun k : Nat => D.int (k : Nat)) (fun ρ => ∃ n5, ρ = [some (.arg ns), some (.int k), some (.lst [.int n5]), some (dNet net), some (ti st), some (HD hs), some (dNet (heldL net hs)), some (.lst (P.map dR)), none, none, none, none]) (List.range 5) _ ⟨n4, rfl⟩ fun ρ t ⟨n5, e2⟩ ht => by
      subst e2
      obtain ⟨n6, tn⟩ := turn76 (n := n5) (t := t) ok (by omega) okh hP (some (.arg ns)) (some (.int k)) (some (ti st))
      exact ⟨_, tn, ⟨n6, rfl⟩, by simp⟩
    subst e2
    refine ⟨_, ?_, rfl, by simp⟩
    have nE : Y.isNon (ti (g.map fun c : Nat => ((c : Nat) : Int) - 48)) = false := rfl
    clear run eE ptR
    generalize ti (g.map fun c : Nat => ((c : Nat) : Int) - 48) = E at *
    generalize P.map dR = PD at *
    generalize HD hs = HS at *
    generalize dNet (heldL net hs) = N2 at *
    generalize dNet net = N at *
    generalize ti st = ST at *
    simp only [turnF, C.b_law_k76_2]
    generalize C.b_law_k76_1 = B1 at *
    generalize ((List.range 5).map fun j : Nat => D.int (j : Nat)) = RG at *
    simp [hbox, hnet, ln, hst0, se, hd, pa, r5, z5, lp2, sh, nE, shAt, chkO_ws, szOk_of, -d_rng1]
  subst hρ
  have rM : rngOk M = true := rngOk_of (by omega) (by omega)
  have zM : szOk M = true := szOk_of (by omega)
  refine ⟨.fr (.bl true), ?_, .inl rfl⟩
  simp only [C.g_law_k76, C.m_law_k76]
  simp [e_fnP, hM, rM, zM, h]
end H

set_option Elab.async false
set_option linter.all false
set_option maxRecDepth 100000
namespace K76
open PySem PySem.Spec PyProof.Rows L2 Y
def top (i : Nat) : Stmt := PySem.Challenge.pw_switchnets_k76_pour_papers.main.body.getD i (.Pass ⟨0, 0, 0, 0⟩)
abbrev s_places_in : Stmt := top 4
theorem sc_places_in : FnScope ["signs", "found", "sign", "place"] ["signs"] (defScope s_places_in) := ⟨rfl, rfl, rfl, by decide +kernel, rfl, by decide +kernel, by decide +kernel⟩
abbrev s_bits_for : Stmt := top 5
theorem sc_bits_for : FnScope ["rule", "signs", "place"] ["rule", "signs"] (defScope s_bits_for) := ⟨rfl, rfl, rfl, by decide +kernel, rfl, by decide +kernel, by decide +kernel⟩
abbrev s_with_sign : Stmt := top 6
theorem sc_with_sign : FnScope ["frame", "k", "sign"] ["frame", "k", "sign"] (defScope s_with_sign) := ⟨rfl, rfl, rfl, by decide +kernel, rfl, by decide +kernel, by decide +kernel⟩
abbrev s_is_whole : Stmt := top 8
theorem sc_is_whole : FnScope ["thing"] ["thing"] (defScope s_is_whole) := ⟨rfl, rfl, rfl, by decide +kernel, rfl, by decide +kernel, by decide +kernel⟩
abbrev s_is_upto : Stmt := top 9
theorem sc_is_upto : FnScope ["thing", "many"] ["thing", "many"] (defScope s_is_upto) := ⟨rfl, rfl, rfl, by decide +kernel, rfl, by decide +kernel, by decide +kernel⟩
abbrev s_are_holds : Stmt := top 11
theorem sc_are_holds : FnScope ["net", "thing", "last", "one"] ["net", "thing"] (defScope s_are_holds) := ⟨rfl, rfl, rfl, by decide +kernel, rfl, by decide +kernel, by decide +kernel⟩
abbrev s_look_at_holds : Stmt := top 12
theorem sc_look_at_holds : FnScope ["net", "thing"] ["net", "thing"] (defScope s_look_at_holds) := ⟨rfl, rfl, rfl, by decide +kernel, rfl, by decide +kernel, by decide +kernel⟩
abbrev s_held_net : Stmt := top 13
theorem sc_held_net : FnScope ["net", "holds", "rules", "k", "bit"] ["net", "holds"] (defScope s_held_net) := ⟨rfl, rfl, rfl, by decide +kernel, rfl, by decide +kernel, by decide +kernel⟩
abbrev s_frame_of : Stmt := top 15
theorem sc_frame_of : FnScope ["net", "holds", "frame", "k", "bit"] ["net", "holds"] (defScope s_frame_of) := ⟨rfl, rfl, rfl, by decide +kernel, rfl, by decide +kernel, by decide +kernel⟩
abbrev s_bit_by : Stmt := top 16
theorem sc_bit_by : FnScope ["net", "frame", "row", "ears", "bits", "sign", "ear"] ["net", "frame", "row"] (defScope s_bit_by) := ⟨rfl, rfl, rfl, by decide +kernel, rfl, by decide +kernel, by decide +kernel⟩
abbrev s_shown_pour : Stmt := top 17
theorem sc_shown_pour : FnScope ["net", "holds", "paper", "other", "frame", "row", "bit", "sign"] ["net", "holds", "paper"] (defScope s_shown_pour) := ⟨rfl, rfl, rfl, by decide +kernel, rfl, by decide +kernel, by decide +kernel⟩
abbrev s__law_cell : Stmt := top 19
theorem sc__law_cell : FnScope ["script", "k"] ["script", "k"] (defScope s__law_cell) := ⟨rfl, rfl, rfl, by decide +kernel, rfl, by decide +kernel, by decide +kernel⟩
abbrev s__law_mix : Stmt := top 20
theorem sc__law_mix : FnScope ["cell", "k", "number"] ["cell", "k"] (defScope s__law_mix) := ⟨rfl, rfl, rfl, by decide +kernel, rfl, by decide +kernel, by decide +kernel⟩
abbrev s__law_box : Stmt := top 21
theorem sc__law_box : FnScope ["script", "k", "here", "number", "j"] ["script", "k"] (defScope s__law_box) := ⟨rfl, rfl, rfl, by decide +kernel, rfl, by decide +kernel, by decide +kernel⟩
abbrev s__law_take : Stmt := top 22
theorem sc__law_take : FnScope ["box", "many", "left", "digit"] ["box", "many"] (defScope s__law_take) := ⟨rfl, rfl, rfl, by decide +kernel, rfl, by decide +kernel, by decide +kernel⟩
abbrev s__law_rule : Stmt := top 23
theorem sc__law_rule : FnScope ["box", "many", "ears", "size", "number", "mask", "least", "table", "place", "j"] ["box", "many"] (defScope s__law_rule) := ⟨rfl, rfl, rfl, by decide +kernel, rfl, by decide +kernel, by decide +kernel⟩
abbrev s__law_net : Stmt := top 24
theorem sc__law_net : FnScope ["box", "most", "many", "k"] ["box", "most"] (defScope s__law_net) := ⟨rfl, rfl, rfl, by decide +kernel, rfl, by decide +kernel, by decide +kernel⟩
abbrev s__law_stands : Stmt := top 25
theorem sc__law_stands : FnScope ["many", "found", "number", "j"] ["many"] (defScope s__law_stands) := ⟨rfl, rfl, rfl, by decide +kernel, rfl, by decide +kernel, by decide +kernel⟩
abbrev s__law_ought : Stmt := top 26
theorem sc__law_ought : FnScope ["net", "stand", "k", "ears", "table", "place", "ear"] ["net", "stand", "k"] (defScope s__law_ought) := ⟨rfl, rfl, rfl, by decide +kernel, rfl, by decide +kernel, by decide +kernel⟩
abbrev s__law_drawn_stand : Stmt := top 27
theorem sc__law_drawn_stand : FnScope ["box", "many", "k"] ["box", "many"] (defScope s__law_drawn_stand) := ⟨rfl, rfl, rfl, by decide +kernel, rfl, by decide +kernel, by decide +kernel⟩
abbrev s__law_odd : Stmt := top 28
theorem sc__law_odd : FnScope ["box", "some"] ["box"] (defScope s__law_odd) := ⟨rfl, rfl, rfl, by decide +kernel, rfl, by decide +kernel, by decide +kernel⟩
abbrev s__law_in : Stmt := top 29
theorem sc__law_in : FnScope ["frame", "stand", "sign", "bit"] ["frame", "stand"] (defScope s__law_in) := ⟨rfl, rfl, rfl, by decide +kernel, rfl, by decide +kernel, by decide +kernel⟩
abbrev s__law_inside : Stmt := top 30
theorem sc__law_inside : FnScope ["frame", "stand"] ["frame"] (defScope s__law_inside) := ⟨rfl, rfl, rfl, by decide +kernel, rfl, by decide +kernel, by decide +kernel⟩
abbrev s__law_bits : Stmt := top 31
theorem sc__law_bits : FnScope ["net", "frame", "k", "stand"] ["net", "frame", "k"] (defScope s__law_bits) := ⟨rfl, rfl, rfl, by decide +kernel, rfl, by decide +kernel, by decide +kernel⟩
abbrev s__law_sign : Stmt := top 32
theorem sc__law_sign : FnScope ["frame", "k", "sign"] ["frame", "k", "sign"] (defScope s__law_sign) := ⟨rfl, rfl, rfl, by decide +kernel, rfl, by decide +kernel, by decide +kernel⟩
abbrev s__law_held : Stmt := top 33
theorem sc__law_held : FnScope ["net", "holds", "bits", "found", "k", "rule"] ["net", "holds"] (defScope s__law_held) := ⟨rfl, rfl, rfl, by decide +kernel, rfl, by decide +kernel, by decide +kernel⟩
abbrev s__law_poured : Stmt := top 34
theorem sc__law_poured : FnScope ["net", "holds", "other", "frame", "k", "bit", "layers", "later", "bits"] ["net", "holds"] (defScope s__law_poured) := ⟨rfl, rfl, rfl, by decide +kernel, rfl, by decide +kernel, by decide +kernel⟩
abbrev s__law_upto : Stmt := top 35
theorem sc__law_upto : FnScope ["found", "many"] ["found", "many"] (defScope s__law_upto) := ⟨rfl, rfl, rfl, by decide +kernel, rfl, by decide +kernel, by decide +kernel⟩
abbrev s__law_places : Stmt := top 36
theorem sc__law_places : FnScope ["signs", "found", "sign", "bits", "longer", "place", "bit"] ["signs"] (defScope s__law_places) := ⟨rfl, rfl, rfl, by decide +kernel, rfl, by decide +kernel, by decide +kernel⟩
abbrev s__law_row_bit : Stmt := top 37
theorem sc__law_row_bit : FnScope ["net", "frame", "row", "ears", "table", "sign", "ear", "bits", "place"] ["net", "frame", "row"] (defScope s__law_row_bit) := ⟨rfl, rfl, rfl, by decide +kernel, rfl, by decide +kernel, by decide +kernel⟩
abbrev s__law_pour_right : Stmt := top 38
theorem sc__law_pour_right : FnScope ["net", "holds", "paper", "frame", "k", "bit", "row", "sign"] ["net", "holds", "paper"] (defScope s__law_pour_right) := ⟨rfl, rfl, rfl, by decide +kernel, rfl, by decide +kernel, by decide +kernel⟩
abbrev s__law_settling : Stmt := top 39
theorem sc__law_settling : FnScope ["box", "net", "stand", "holds", "k"] ["box", "net", "stand"] (defScope s__law_settling) := ⟨rfl, rfl, rfl, by decide +kernel, rfl, by decide +kernel, by decide +kernel⟩
abbrev s__law_paper : Stmt := top 40
theorem sc__law_paper : FnScope ["box", "net", "holds", "frame", "k", "bit", "found", "some", "signs", "place", "wider", "bits", "ear", "at_place"] ["box", "net", "holds"] (defScope s__law_paper) := ⟨rfl, rfl, rfl, by decide +kernel, rfl, by decide +kernel, by decide +kernel⟩
abbrev s__law_other : Stmt := top 41
theorem sc__law_other : FnScope ["box", "net", "paper", "where", "to", "k", "signs", "place", "sign", "odd", "rows", "papers", "rest", "row"] ["box", "net", "paper"] (defScope s__law_other) := ⟨rfl, rfl, rfl, by decide +kernel, rfl, by decide +kernel, by decide +kernel⟩
abbrev s_law : Stmt := top 42
theorem sc_law : FnScope ["script", "k", "box", "net", "stand", "holds", "own", "paper", "turn", "one", "due", "fewer"] ["script"] (defScope s_law) := ⟨rfl, rfl, rfl, by decide +kernel, rfl, by decide +kernel, by decide +kernel⟩
structure Txt (K : PySem.W.Frag) (mg : Str → Option Value) : Prop where
  d_places_in : Def K mg "places_in" s_places_in
  d_bits_for : Def K mg "bits_for" s_bits_for
  d_with_sign : Def K mg "with_sign" s_with_sign
  d_is_whole : Def K mg "is_whole" s_is_whole
  d_is_upto : Def K mg "is_upto" s_is_upto
  d_are_holds : Def K mg "are_holds" s_are_holds
  d_look_at_holds : Def K mg "look_at_holds" s_look_at_holds
  d_held_net : Def K mg "held_net" s_held_net
  d_frame_of : Def K mg "frame_of" s_frame_of
  d_bit_by : Def K mg "bit_by" s_bit_by
  d_shown_pour : Def K mg "shown_pour" s_shown_pour
  d__law_cell : Def K mg "_law_cell" s__law_cell
  d__law_mix : Def K mg "_law_mix" s__law_mix
  d__law_box : Def K mg "_law_box" s__law_box
  d__law_take : Def K mg "_law_take" s__law_take
  d__law_rule : Def K mg "_law_rule" s__law_rule
  d__law_net : Def K mg "_law_net" s__law_net
  d__law_stands : Def K mg "_law_stands" s__law_stands
  d__law_ought : Def K mg "_law_ought" s__law_ought
  d__law_drawn_stand : Def K mg "_law_drawn_stand" s__law_drawn_stand
  d__law_odd : Def K mg "_law_odd" s__law_odd
  d__law_in : Def K mg "_law_in" s__law_in
  d__law_inside : Def K mg "_law_inside" s__law_inside
  d__law_bits : Def K mg "_law_bits" s__law_bits
  d__law_sign : Def K mg "_law_sign" s__law_sign
  d__law_held : Def K mg "_law_held" s__law_held
  d__law_poured : Def K mg "_law_poured" s__law_poured
  d__law_upto : Def K mg "_law_upto" s__law_upto
  d__law_places : Def K mg "_law_places" s__law_places
  d__law_row_bit : Def K mg "_law_row_bit" s__law_row_bit
  d__law_pour_right : Def K mg "_law_pour_right" s__law_pour_right
  d__law_settling : Def K mg "_law_settling" s__law_settling
  d__law_paper : Def K mg "_law_paper" s__law_paper
  d__law_other : Def K mg "_law_other" s__law_other
  e_NoHolds : ErrT K mg "NoHolds"
  z_all : mg "all" = none
  z_bool : mg "bool" = none
  z_dict : mg "dict" = none
  z_divmod : mg "divmod" = none
  z_enumerate : mg "enumerate" = none
  z_int : mg "int" = none
  z_isinstance : mg "isinstance" = none
  z_len : mg "len" = none
  z_list : mg "list" = none
  z_max : mg "max" = none
  z_min : mg "min" = none
  z_range : mg "range" = none
  z_set : mg "set" = none
  z_sorted : mg "sorted" = none
  z_str : mg "str" = none
  z_sum : mg "sum" = none
  z_tuple : mg "tuple" = none
  z_zip : mg "zip" = none
section
variable {P : Program} {w : World} {K : PySem.W.Frag} {mg : Str → Option Value} {base : Heap}
theorem ok_places_in (T : Txt K mg) : Glo P w K mg base "places_in" 1 1 [] (pureF C.g_places_in) :=
  (glo_mk (O := []) (Oc := []) (W := []) (U := []) T.d_places_in sc_places_in (fun f cdv A outer s H E P0 hr => (cs_cons (cs_asg (ce_lst (ca_cons ce_int ca_nil)) (cg_name 1 sc_places_in.nd))
    (cs_cons (cs_for (U' := []) (vs := [2]) (passes_of rfl) rfl (ci_any (ce_var 0)) (cg_name 2 sc_places_in.nd) (cs_one (cs_if (ct_cmp (od_eq hr.units) (ce_var 2) ce_str) (cs_one (cs_asg (ce_bin od_add (ce_comp rfl sc_places_in.nd (ci_any (ce_var 1)) (blkOk_by (own := [("place", 3)]) (by kernel_rfl)) (fun P0 s H C cl fp => (cg_name 3 sc_places_in.nd)) (fun s H C cl fp => cts_nil) (fun P0 s H C cl fp => (ce_bin od_mul ce_int (ce_var 3)))) (ce_comp rfl sc_places_in.nd (ci_any (ce_var 1)) (blkOk_by (own := [("place", 3)]) (by kernel_rfl)) (fun P0 s H C cl fp => (cg_name 3 sc_places_in.nd)) (fun s H C cl fp => cts_nil) (fun P0 s H C cl fp => (ce_bin od_add (ce_bin od_mul ce_int (ce_var 3)) ce_int)))) (cg_name 1 sc_places_in.nd))) (cs_one (cs_asgLc (i := 1) rfl sc_places_in.nd rfl rfl (sw_true rfl rfl rfl (by decide +kernel)) (ci_any (ce_var 1)) (blkOk_by (own := [("place", 3)]) (by kernel_rfl)) (fun P0 s H C cl fp => (cg_name 3 sc_places_in.nd)) (fun s H C cl fp => cts_nil) (fun P0 s H C cl fp => (ce_bin od_add (ce_bin od_mul ce_int (ce_var 3)) (ce_callT cd_int T.z_int bo_int (ca_cons (ce_var 2) ca_nil)))))))))
    (cs_one (cs_ret (ce_var 1)))))) (fun _ _ _ _ _ _ us hl => match us, hl with | [_], _ => rfl)).pure
theorem ok_bits_for (T : Txt K mg) : Glo P w K mg base "bits_for" 2 2 [] (pureF C.g_bits_for) :=
  (glo_mk (O := []) (Oc := []) (W := []) (U := []) T.d_bits_for sc_bits_for (fun f cdv A outer s H E P0 hr => (cs_one (cs_ret (ce_setSort rfl T.z_sorted T.z_set (ce_comp rfl sc_bits_for.nd (ci_any (ce_call (ok_places_in T) out2_body (hr.mono (by decide)) (ca_cons (ce_var 1) ca_nil) (alen_cons alen_nil))) (blkOk_by (own := [("place", 2)]) (by kernel_rfl)) (fun P0 s H C cl fp => (cg_name 2 sc_bits_for.nd)) (fun s H C cl fp => cts_nil) (fun P0 s H C cl fp => (ce_ix (ce_ix (ce_var 0) ce_int) (ce_var 2)))))))) (fun _ _ _ _ _ _ us hl => match us, hl with | [_, _], _ => rfl)).pure
theorem ok_with_sign (T : Txt K mg) : Glo P w K mg base "with_sign" 1 3 [] (pureF C.g_with_sign) :=
  (glo_mk (O := []) (Oc := []) (W := []) (U := []) T.d_with_sign sc_with_sign (fun f cdv A outer s H E P0 hr => (cs_one (cs_ret (ce_bin od_add (ce_bin od_add (ce_slice (ce_var 0) co_none (co_some (ce_var 1))) (ce_var 2)) (ce_slice (ce_var 0) (co_some (ce_bin od_add (ce_var 1) ce_int)) co_none))))) (fun _ _ _ _ _ _ us hl => match us, hl with | [_, _, _], _ => rfl)).pure
theorem ok_is_whole (T : Txt K mg) : Glo P w K mg base "is_whole" 1 1 [] (pureF C.g_is_whole) :=
  (glo_mk (O := []) (Oc := []) (W := []) (U := []) T.d_is_whole sc_is_whole (fun f cdv A outer s H E P0 hr => (cs_one (cs_ret (ce_and (ce_isi isk_int T.z_isinstance T.z_int (ce_var 0) bo_isinstance bo_int) (ce_one (ce_not (ce_isi isk_bool T.z_isinstance T.z_bool (ce_var 0) bo_isinstance bo_bool))))))) (fun _ _ _ _ _ _ us hl => match us, hl with | [_], _ => rfl)).pure
theorem ok_is_upto (T : Txt K mg) : Glo P w K mg base "is_upto" 2 2 [] (pureF C.g_is_upto) :=
  (glo_mk (O := []) (Oc := []) (W := []) (U := []) T.d_is_upto sc_is_upto (fun f cdv A outer s H E P0 hr => (cs_one (cs_ret (ce_and (ce_call (ok_is_whole T) out2_body (hr.mono (by decide)) (ca_cons (ce_var 0) ca_nil) (alen_cons alen_nil)) (ce_one (ce_chain od_le od_lt ce_int (ce_var 0) (ce_var 1))))))) (fun _ _ _ _ _ _ us hl => match us, hl with | [_, _], _ => rfl)).pure
theorem ok_are_holds (T : Txt K mg) : Glo P w K mg base "are_holds" 3 2 [] (pureF C.g_are_holds) :=
  (glo_mk (O := []) (Oc := []) (W := []) (U := []) T.d_are_holds sc_are_holds (fun f cdv A outer s H E P0 hr => (cs_cons (cs_if (ct_not (ct_val (ce_isi isk_tuple T.z_isinstance T.z_tuple (ce_var 1) bo_isinstance bo_tuple))) (cs_one (cs_ret ce_bl)) cs_nil)
    (cs_cons (cs_asg (ce_neg ce_int) (cg_name 2 sc_are_holds.nd))
    (cs_cons (cs_for (U' := []) (vs := [3]) (passes_of rfl) rfl (ci_any (ce_var 1)) (cg_name 3 sc_are_holds.nd) (cs_cons (cs_if (ct_w (cw_or (ct_not (ct_val (ce_isi isk_tuple T.z_isinstance T.z_tuple (ce_var 3) bo_isinstance bo_tuple))) (cw_or (ct_cmp (od_ne hr.units) (ce_callB cd_len T.z_len bo_len (ca_cons (ce_var 3) ca_nil)) ce_int) (cw_or (ct_not (ct_val (ce_call (ok_is_upto T) out2_body (hr.mono (by decide)) (ca_cons (ce_ix (ce_var 3) ce_int) (ca_cons (ce_callB cd_len T.z_len bo_len (ca_cons (ce_var 0) ca_nil)) ca_nil)) (alen_cons (alen_cons alen_nil))))) (cw_or1 (ct_not (ct_val (ce_call (ok_is_upto T) out2_body (hr.mono (by decide)) (ca_cons (ce_ix (ce_var 3) ce_int) (ca_cons ce_int ca_nil)) (alen_cons (alen_cons alen_nil)))))))))) (cs_one (cs_ret ce_bl)) cs_nil)
    (cs_cons (cs_if (ct_cmp od_le (ce_ix (ce_var 3) ce_int) (ce_var 2)) (cs_one (cs_ret ce_bl)) cs_nil)
    (cs_one (cs_asg (ce_ix (ce_var 3) ce_int) (cg_name 2 sc_are_holds.nd))))))
    (cs_one (cs_ret ce_bl)))))) (fun _ _ _ _ _ _ us hl => match us, hl with | [_, _], _ => rfl)).pure
theorem ok_look_at_holds (T : Txt K mg) : Glo P w K mg base "look_at_holds" 4 2 [] (pureF C.g_look_at_holds) :=
  (glo_mk (O := []) (Oc := []) (W := []) (U := []) T.d_look_at_holds sc_look_at_holds (fun f cdv A outer s H E P0 hr => (cs_one (cs_if (ct_not (ct_val (ce_call (ok_are_holds T) out2_body (hr.mono (by decide)) (ca_cons (ce_var 0) (ca_cons (ce_var 1) ca_nil)) (alen_cons (alen_cons alen_nil))))) (cs_one (cs_raise T.e_NoHolds rfl (L2N.takes_of rfl rfl rfl rfl))) cs_nil))) (fun _ _ _ _ _ _ us hl => match us, hl with | [_, _], _ => rfl)).pure
theorem ok_held_net (T : Txt K mg) : Glo P w K mg base "held_net" 5 2 [] (pureF C.g_held_net) :=
  (glo_mk (O := []) (Oc := [2]) (W := []) (U := []) T.d_held_net sc_held_net (fun f cdv A outer s H E P0 hr => (cs_cons (cs_expr (ce_call (ok_look_at_holds T) out2_body (hr.mono (by decide)) (ca_cons (ce_var 0) (ca_cons (ce_var 1) ca_nil)) (alen_cons (alen_cons alen_nil))))
    (cs_cons (cs_own (i := 2) sc_held_net.nd (ce_callT cd_list T.z_list bo_list (ca_cons (ce_var 0) ca_nil)))
    (cs_cons (cs_for (U' := []) (vs := [3, 4]) (passes_of rfl) rfl (ci_any (ce_var 1)) (cg_tup [3, 4] rfl (cgs_cons 3 sc_held_net.nd (cgs_cons 4 sc_held_net.nd cgs_nil))) (cs_one (cs_setix (i := 2) (ce_tup (ca_cons (ce_tup ca_nil) (ca_cons (ce_tup (ca_cons (ce_var 4) ca_nil)) ca_nil))) (ce_var 3))))
    (cs_one (cs_ret (ce_callT cd_tuple T.z_tuple bo_tuple (ca_cons (ce_own 2) ca_nil)))))))) (fun _ _ _ _ _ _ us hl => match us, hl with | [_, _], _ => rfl)).pure
theorem ok_frame_of (T : Txt K mg) : Glo P w K mg base "frame_of" 2 2 [] (pureF C.g_frame_of) :=
  (glo_mk (O := []) (Oc := []) (W := []) (U := []) T.d_frame_of sc_frame_of (fun f cdv A outer s H E P0 hr => (cs_cons (cs_asg (ce_bin od_mul ce_str (ce_callB cd_len T.z_len bo_len (ca_cons (ce_var 0) ca_nil))) (cg_name 2 sc_frame_of.nd))
    (cs_cons (cs_for (U' := []) (vs := [3, 4]) (passes_of rfl) rfl (ci_any (ce_var 1)) (cg_tup [3, 4] rfl (cgs_cons 3 sc_frame_of.nd (cgs_cons 4 sc_frame_of.nd cgs_nil))) (cs_one (cs_asg (ce_call (ok_with_sign T) out2_body (hr.mono (by decide)) (ca_cons (ce_var 2) (ca_cons (ce_var 3) (ca_cons (ce_callT cd_str T.z_str bo_str (ca_cons (ce_var 4) ca_nil)) ca_nil))) (alen_cons (alen_cons (alen_cons alen_nil)))) (cg_name 2 sc_frame_of.nd))))
    (cs_one (cs_ret (ce_var 2)))))) (fun _ _ _ _ _ _ us hl => match us, hl with | [_, _], _ => rfl)).pure
theorem ok_bit_by (T : Txt K mg) : Glo P w K mg base "bit_by" 3 3 [] (pureF C.g_bit_by) :=
  (glo_mk (O := []) (Oc := []) (W := []) (U := []) T.d_bit_by sc_bit_by (fun f cdv A outer s H E P0 hr => (cs_cons (cs_if (ct_w (cw_or (ct_not (ct_val (ce_isi isk_tuple T.z_isinstance T.z_tuple (ce_var 2) bo_isinstance bo_tuple))) (cw_or (ct_cmp (od_ne hr.units) (ce_callB cd_len T.z_len bo_len (ca_cons (ce_var 2) ca_nil)) ce_int) (cw_or (ct_not (ct_val (ce_call (ok_is_upto T) out2_body (hr.mono (by decide)) (ca_cons (ce_ix (ce_var 2) ce_int) (ca_cons (ce_callB cd_len T.z_len bo_len (ca_cons (ce_var 0) ca_nil)) ca_nil)) (alen_cons (alen_cons alen_nil))))) (cw_or1 (ct_not (ct_val (ce_isi isk_str T.z_isinstance T.z_str (ce_ix (ce_var 2) ce_int) bo_isinstance bo_str)))))))) (cs_one (cs_ret ce_non)) cs_nil)
    (cs_cons (cs_asg (ce_ix (ce_ix (ce_var 0) (ce_ix (ce_var 2) ce_int)) ce_int) (cg_name 3 sc_bit_by.nd))
    (cs_cons (cs_if (ct_w (cw_or (ct_cmp (od_ne hr.units) (ce_ix (ce_var 1) (ce_ix (ce_var 2) ce_int)) ce_str) (cw_or (ct_cmp (od_ne hr.units) (ce_callB cd_len T.z_len bo_len (ca_cons (ce_ix (ce_var 2) ce_int) ca_nil)) (ce_callB cd_len T.z_len bo_len (ca_cons (ce_var 3) ca_nil))) (cw_or1 (ct_not (ct_val (ce_callB (cd_all rfl) T.z_all bo_all (ca_cons (ce_comp rfl sc_bit_by.nd (ci_any (ce_ix (ce_var 2) ce_int)) (blkOk_by (own := [("sign", 5)]) (by kernel_rfl)) (fun P0 s H C cl fp => (cg_name 5 sc_bit_by.nd)) (fun s H C cl fp => cts_nil) (fun P0 s H C cl fp => (ce_cmp (od_in hr.units65) (ce_var 5) ce_str))) ca_nil)))))))) (cs_one (cs_ret ce_non)) cs_nil)
    (cs_cons (cs_if (ct_not (ct_val (ce_callB (cd_all rfl) T.z_all bo_all (ca_cons (ce_comp rfl sc_bit_by.nd (ci_zipG T.z_zip (ca_cons (ce_ix (ce_var 2) ce_int) (ca_cons (ce_var 3) ca_nil))) (blkOk_by (own := [("sign", 5), ("ear", 6)]) (by kernel_rfl)) (fun P0 s H C cl fp => (cg_tup [5, 6] rfl (cgs_cons 5 sc_bit_by.nd (cgs_cons 6 sc_bit_by.nd cgs_nil)))) (fun s H C cl fp => cts_nil) (fun P0 s H C cl fp => (ce_or (ce_cmp (od_eq hr.units) (ce_var 5) ce_str) (ce_one (ce_cmp (od_eq hr.units) (ce_var 5) (ce_ix (ce_var 1) (ce_var 6))))))) ca_nil)))) (cs_one (cs_ret ce_non)) cs_nil)
    (cs_cons (cs_asg (ce_call (ok_bits_for T) out2_body (hr.mono (by decide)) (ca_cons (ce_ix (ce_var 0) (ce_ix (ce_var 2) ce_int)) (ca_cons (ce_ix (ce_var 2) ce_int) ca_nil)) (alen_cons (alen_cons alen_nil))) (cg_name 4 sc_bit_by.nd))
    (cs_cons (cs_if (ct_cmp (od_ne hr.units) (ce_callB cd_len T.z_len bo_len (ca_cons (ce_var 4) ca_nil)) ce_int) (cs_one (cs_ret ce_non)) cs_nil)
    (cs_one (cs_ret (ce_ix (ce_var 4) ce_int)))))))))) (fun _ _ _ _ _ _ us hl => match us, hl with | [_, _, _], _ => rfl)).pure
theorem ok_shown_pour (T : Txt K mg) : Glo P w K mg base "shown_pour" 6 3 [] (pureF C.g_shown_pour) :=
  (glo_mk (O := []) (Oc := []) (W := []) (U := []) T.d_shown_pour sc_shown_pour (fun f cdv A outer s H E P0 hr => (cs_cons (cs_asg (ce_call (ok_held_net T) out2_body (hr.mono (by decide)) (ca_cons (ce_var 0) (ca_cons (ce_var 1) ca_nil)) (alen_cons (alen_cons alen_nil))) (cg_name 3 sc_shown_pour.nd))
    (cs_cons (cs_if (ct_not (ct_val (ce_isi isk_list T.z_isinstance T.z_list (ce_var 2) bo_isinstance bo_list))) (cs_one (cs_ret ce_non)) cs_nil)
    (cs_cons (cs_asg (ce_call (ok_frame_of T) out2_body (hr.mono (by decide)) (ca_cons (ce_var 0) (ca_cons (ce_var 1) ca_nil)) (alen_cons (alen_cons alen_nil))) (cg_name 4 sc_shown_pour.nd))
    (cs_cons (cs_for (U' := []) (vs := [5, 6]) (passes_of rfl) rfl (ci_any (ce_var 2)) (cg_name 5 sc_shown_pour.nd) (cs_cons (cs_asg (ce_call (ok_bit_by T) out2_body (hr.mono (by decide)) (ca_cons (ce_var 3) (ca_cons (ce_var 4) (ca_cons (ce_var 5) ca_nil))) (alen_cons (alen_cons (alen_cons alen_nil)))) (cg_name 6 sc_shown_pour.nd))
    (cs_cons (cs_if (ct_cmp od_is (ce_var 6) ce_non) (cs_one (cs_ret ce_non)) cs_nil)
    (cs_one (cs_asg (ce_call (ok_with_sign T) out2_body (hr.mono (by decide)) (ca_cons (ce_var 4) (ca_cons (ce_ix (ce_var 5) ce_int) (ca_cons (ce_callT cd_str T.z_str bo_str (ca_cons (ce_var 6) ca_nil)) ca_nil))) (alen_cons (alen_cons (alen_cons alen_nil)))) (cg_name 4 sc_shown_pour.nd))))))
    (cs_cons (cs_if (ct_cmp (od_in hr.units65) ce_str (ce_var 4)) (cs_one (cs_ret ce_non)) cs_nil)
    (cs_one (cs_ret (ce_callT cd_tuple T.z_tuple bo_tuple (ca_cons (ce_comp rfl sc_shown_pour.nd (ci_any (ce_var 4)) (blkOk_by (own := [("sign", 7)]) (by kernel_rfl)) (fun P0 s H C cl fp => (cg_name 7 sc_shown_pour.nd)) (fun s H C cl fp => cts_nil) (fun P0 s H C cl fp => (ce_callT cd_int T.z_int bo_int (ca_cons (ce_var 7) ca_nil)))) ca_nil)))))))))) (fun _ _ _ _ _ _ us hl => match us, hl with | [_, _, _], _ => rfl)).pure
theorem ok__law_cell (T : Txt K mg) : Glo P w K mg base "_law_cell" 1 2 [] (pureF C.g__law_cell) :=
  (glo_mk (O := []) (Oc := []) (W := []) (U := []) T.d__law_cell sc__law_cell (fun f cdv A outer s H E P0 hr => (cs_cons (cs_if (ct_cmp od_lt (ce_var 1) (ce_callB cd_len T.z_len bo_len (ca_cons (ce_var 0) ca_nil))) (cs_one (cs_ret (ce_ix (ce_var 0) (ce_var 1)))) cs_nil)
    (cs_one (cs_ret (ce_bin od_add (ce_bin od_mul ce_int (ce_var 1)) ce_int))))) (fun _ _ _ _ _ _ us hl => match us, hl with | [_, _], _ => rfl)).pure
theorem ok__law_mix (T : Txt K mg) : Glo P w K mg base "_law_mix" 1 2 [] (pureF C.g__law_mix) :=
  (glo_mk (O := []) (Oc := []) (W := []) (U := []) T.d__law_mix sc__law_mix (fun f cdv A outer s H E P0 hr => (cs_cons (cs_asg (ce_bin od_add (ce_bin od_mul (ce_bin od_add (ce_var 0) ce_int) ce_int) (ce_bin od_mul ce_int (ce_var 1))) (cg_name 2 sc__law_mix.nd))
    (cs_cons (cs_asg (ce_bin od_add (ce_bin od_mod (ce_bin od_mul (ce_var 2) (ce_var 2)) ce_int) (ce_var 1)) (cg_name 2 sc__law_mix.nd))
    (cs_one (cs_ret (ce_bin od_mod (ce_bin od_mul (ce_var 2) (ce_bin od_add (ce_var 2) ce_int)) ce_int)))))) (fun _ _ _ _ _ _ us hl => match us, hl with | [_, _], _ => rfl)).pure
theorem ok__law_box (T : Txt K mg) : Glo P w K mg base "_law_box" 2 2 [] (pureF C.g__law_box) :=
  (glo_mk (O := []) (Oc := []) (W := []) (U := []) T.d__law_box sc__law_box (fun f cdv A outer s H E P0 hr => (cs_cons (cs_asg (ce_call (ok__law_cell T) out2_body (hr.mono (by decide)) (ca_cons (ce_var 0) (ca_cons (ce_var 1) ca_nil)) (alen_cons (alen_cons alen_nil))) (cg_name 2 sc__law_box.nd))
    (cs_cons (cs_if (ct_cmp (od_eq hr.units) (ce_bin od_mod (ce_var 2) ce_int) ce_int) (cs_one (cs_ret (ce_lst (ca_cons (ce_bin od_fdiv (ce_var 2) ce_int) ca_nil)))) cs_nil)
    (cs_cons (cs_asg ce_int (cg_name 3 sc__law_box.nd))
    (cs_cons (cs_for (U' := []) (vs := [4]) (passes_of rfl) rfl (ci_range1 T.z_range (ca_cons ce_int ca_nil)) (cg_name 4 sc__law_box.nd) (cs_one (cs_asg (ce_bin od_add (ce_bin od_mul (ce_var 3) ce_int) (ce_call (ok__law_mix T) out2_body (hr.mono (by decide)) (ca_cons (ce_var 2) (ca_cons (ce_var 4) ca_nil)) (alen_cons (alen_cons alen_nil)))) (cg_name 3 sc__law_box.nd))))
    (cs_one (cs_ret (ce_lst (ca_cons (ce_var 3) ca_nil))))))))) (fun _ _ _ _ _ _ us hl => match us, hl with | [_, _], _ => rfl)).pure
theorem ok__law_take (T : Txt K mg) : Glo P w K mg base "_law_take" 1 2 [0] C.g__law_take :=
  (glo_mk (O := [0]) (Oc := [0]) (W := []) (U := [0]) T.d__law_take sc__law_take (fun f cdv A outer s H E P0 hr => (cs_cons (cs_asg (ce_callB cd_divmod T.z_divmod bo_divmod (ca_cons (ce_ix (ce_own 0) ce_int) (ca_cons (ce_var 1) ca_nil))) (cg_tup [2, 3] rfl (cgs_cons 2 sc__law_take.nd (cgs_cons 3 sc__law_take.nd cgs_nil))))
    (cs_cons (cs_setix (i := 0) (ce_var 2) ce_int)
    (cs_one (cs_ret (ce_var 3)))))) (fun _ _ _ _ _ _ us hl => match us, hl with | [_, _], _ => rfl))
theorem ok__law_rule (T : Txt K mg) : Glo P w K mg base "_law_rule" 2 2 [0] C.g__law_rule :=
  (glo_mk (O := [0]) (Oc := [0, 7]) (W := [0]) (U := [0]) T.d__law_rule sc__law_rule (fun f cdv A outer s H E P0 hr => (cs_cons (cs_asg (ce_callT cd_tuple T.z_tuple bo_tuple (ca_cons (ce_slice (ce_comp rfl sc__law_rule.nd (ci_range1 T.z_range (ca_cons (ce_var 1) ca_nil)) (blkOk_by (own := [("j", 9)]) (by kernel_rfl)) (fun P0 s H C cl fp => (cg_name 9 sc__law_rule.nd)) (fun s H C cl fp => (cts_one fun P0 => (ct_cmp (od_eq hr.units) (ce_callIO (ok__law_take T) [(0, 0)] Out2.blk (hr.mono (by decide)) (ca_cons (ce_own 0) (ca_cons ce_int ca_nil)) (alen_cons (alen_cons alen_nil))) ce_int))) (fun P0 s H C cl fp => (ce_var 9))) co_none (co_some ce_int)) ca_nil)) (cg_name 2 sc__law_rule.nd))
    (cs_cons (cs_asg (ce_bin od_shl ce_int (ce_callB cd_len T.z_len bo_len (ca_cons (ce_var 2) ca_nil))) (cg_name 3 sc__law_rule.nd))
    (cs_cons (cs_if (ct_cmp od_gt (ce_callIO (ok__law_take T) [(0, 0)] out2_body (hr.mono (by decide)) (ca_cons (ce_own 0) (ca_cons ce_int ca_nil)) (alen_cons (alen_cons alen_nil))) ce_int) (cs_cons (cs_asg (ce_callIO (ok__law_take T) [(0, 0)] out2_body (hr.mono (by decide)) (ca_cons (ce_own 0) (ca_cons (ce_bin od_shl ce_int (ce_var 3)) ca_nil)) (alen_cons (alen_cons alen_nil))) (cg_name 4 sc__law_rule.nd))
    (cs_one (cs_ret (ce_tup (ca_cons (ce_var 2) (ca_cons (ce_callT cd_tuple T.z_tuple bo_tuple (ca_cons (ce_comp rfl sc__law_rule.nd (ci_range1 T.z_range (ca_cons (ce_var 3) ca_nil)) (blkOk_by (own := [("place", 8)]) (by kernel_rfl)) (fun P0 s H C cl fp => (cg_name 8 sc__law_rule.nd)) (fun s H C cl fp => cts_nil) (fun P0 s H C cl fp => (ce_bin od_and (ce_bin od_shr (ce_var 4) (ce_var 8)) ce_int))) ca_nil)) ca_nil)))))) cs_nil)
    (cs_cons (cs_asg (ce_callIO (ok__law_take T) [(0, 0)] out2_body (hr.mono (by decide)) (ca_cons (ce_own 0) (ca_cons (ce_var 3) ca_nil)) (alen_cons (alen_cons alen_nil))) (cg_name 5 sc__law_rule.nd))
    (cs_cons (cs_asg (ce_callIO (ok__law_take T) [(0, 0)] out2_body (hr.mono (by decide)) (ca_cons (ce_own 0) (ca_cons (ce_bin od_add (ce_callB cd_len T.z_len bo_len (ca_cons (ce_var 2) ca_nil)) ce_int) ca_nil)) (alen_cons (alen_cons alen_nil))) (cg_name 6 sc__law_rule.nd))
    (cs_cons (cs_own (i := 7) sc__law_rule.nd (ce_lst ca_nil))
    (cs_cons (cs_for (U' := [0]) (vs := [8]) (passes_of rfl) rfl (ci_range1 T.z_range (ca_cons (ce_var 3) ca_nil)) (cg_name 8 sc__law_rule.nd) (cs_one (cs_append (i := 7) (ce_callT cd_int T.z_int bo_int (ca_cons (ce_cmp od_ge (ce_callB (cd_sum rfl) T.z_sum bo_sum (ca_cons (ce_comp rfl sc__law_rule.nd (ci_range1 T.z_range (ca_cons (ce_callB cd_len T.z_len bo_len (ca_cons (ce_var 2) ca_nil)) ca_nil)) (blkOk_by (own := [("j", 9)]) (by kernel_rfl)) (fun P0 s H C cl fp => (cg_name 9 sc__law_rule.nd)) (fun s H C cl fp => cts_nil) (fun P0 s H C cl fp => (ce_bin od_and (ce_bin od_shr (ce_bin od_xor (ce_var 8) (ce_var 5)) (ce_var 9)) ce_int))) ca_nil)) (ce_var 6)) ca_nil)))))
    (cs_one (cs_ret (ce_tup (ca_cons (ce_var 2) (ca_cons (ce_callT cd_tuple T.z_tuple bo_tuple (ca_cons (ce_own 7) ca_nil)) ca_nil))))))))))))) (fun _ _ _ _ _ _ us hl => match us, hl with | [_, _], _ => rfl))
theorem ok__law_net (T : Txt K mg) : Glo P w K mg base "_law_net" 3 2 [0] C.g__law_net :=
  (glo_mk (O := [0]) (Oc := [0]) (W := [0]) (U := [0]) T.d__law_net sc__law_net (fun f cdv A outer s H E P0 hr => (cs_cons (cs_asg (ce_bin od_add ce_int (ce_callIO (ok__law_take T) [(0, 0)] out2_body (hr.mono (by decide)) (ca_cons (ce_own 0) (ca_cons (ce_var 1) ca_nil)) (alen_cons (alen_cons alen_nil)))) (cg_name 2 sc__law_net.nd))
    (cs_one (cs_ret (ce_callT cd_tuple T.z_tuple bo_tuple (ca_cons (ce_comp rfl sc__law_net.nd (ci_range1 T.z_range (ca_cons (ce_var 2) ca_nil)) (blkOk_by (own := [("k", 3)]) (by kernel_rfl)) (fun P0 s H C cl fp => (cg_name 3 sc__law_net.nd)) (fun s H C cl fp => cts_nil) (fun P0 s H C cl fp => (ce_callIO (ok__law_rule T) [(0, 0)] Out2.blk (hr.mono (by decide)) (ca_cons (ce_own 0) (ca_cons (ce_var 2) ca_nil)) (alen_cons (alen_cons alen_nil))))) ca_nil)))))) (fun _ _ _ _ _ _ us hl => match us, hl with | [_, _], _ => rfl))
theorem ok__law_stands (T : Txt K mg) : Glo P w K mg base "_law_stands" 1 1 [] (pureF C.g__law_stands) :=
  (glo_mk (O := []) (Oc := [1]) (W := []) (U := []) T.d__law_stands sc__law_stands (fun f cdv A outer s H E P0 hr => (cs_cons (cs_own (i := 1) sc__law_stands.nd (ce_lst ca_nil))
    (cs_cons (cs_for (U' := []) (vs := [2]) (passes_of rfl) rfl (ci_range1 T.z_range (ca_cons (ce_bin od_shl ce_int (ce_var 0)) ca_nil)) (cg_name 2 sc__law_stands.nd) (cs_one (cs_append (i := 1) (ce_callT cd_tuple T.z_tuple bo_tuple (ca_cons (ce_comp rfl sc__law_stands.nd (ci_range1 T.z_range (ca_cons (ce_var 0) ca_nil)) (blkOk_by (own := [("j", 3)]) (by kernel_rfl)) (fun P0 s H C cl fp => (cg_name 3 sc__law_stands.nd)) (fun s H C cl fp => cts_nil) (fun P0 s H C cl fp => (ce_bin od_and (ce_bin od_shr (ce_var 2) (ce_bin od_sub (ce_bin od_sub (ce_var 0) ce_int) (ce_var 3))) ce_int))) ca_nil)))))
    (cs_one (cs_ret (ce_own 1)))))) (fun _ _ _ _ _ _ us hl => match us, hl with | [_], _ => rfl)).pure
theorem ok__law_ought (T : Txt K mg) : Glo P w K mg base "_law_ought" 1 3 [] (pureF C.g__law_ought) :=
  (glo_mk (O := []) (Oc := []) (W := []) (U := []) T.d__law_ought sc__law_ought (fun f cdv A outer s H E P0 hr => (cs_cons (cs_asg (ce_ix (ce_var 0) (ce_var 2)) (cg_tup [3, 4] rfl (cgs_cons 3 sc__law_ought.nd (cgs_cons 4 sc__law_ought.nd cgs_nil))))
    (cs_cons (cs_asg ce_int (cg_name 5 sc__law_ought.nd))
    (cs_cons (cs_for (U' := []) (vs := [6]) (passes_of rfl) rfl (ci_any (ce_var 3)) (cg_name 6 sc__law_ought.nd) (cs_one (cs_asg (ce_bin od_add (ce_bin od_mul (ce_var 5) ce_int) (ce_ix (ce_var 1) (ce_var 6))) (cg_name 5 sc__law_ought.nd))))
    (cs_one (cs_ret (ce_ix (ce_var 4) (ce_var 5)))))))) (fun _ _ _ _ _ _ us hl => match us, hl with | [_, _, _], _ => rfl)).pure
theorem ok__law_drawn_stand (T : Txt K mg) : Glo P w K mg base "_law_drawn_stand" 2 2 [0] C.g__law_drawn_stand :=
  (glo_mk (O := [0]) (Oc := [0]) (W := [0]) (U := [0]) T.d__law_drawn_stand sc__law_drawn_stand (fun f cdv A outer s H E P0 hr => (cs_one (cs_ret (ce_callT cd_tuple T.z_tuple bo_tuple (ca_cons (ce_comp rfl sc__law_drawn_stand.nd (ci_range1 T.z_range (ca_cons (ce_var 1) ca_nil)) (blkOk_by (own := [("k", 2)]) (by kernel_rfl)) (fun P0 s H C cl fp => (cg_name 2 sc__law_drawn_stand.nd)) (fun s H C cl fp => cts_nil) (fun P0 s H C cl fp => (ce_callIO (ok__law_take T) [(0, 0)] Out2.blk (hr.mono (by decide)) (ca_cons (ce_own 0) (ca_cons ce_int ca_nil)) (alen_cons (alen_cons alen_nil))))) ca_nil))))) (fun _ _ _ _ _ _ us hl => match us, hl with | [_, _], _ => rfl))
theorem ok__law_odd (T : Txt K mg) : Glo P w K mg base "_law_odd" 2 1 [0] C.g__law_odd :=
  (glo_mk (O := [0]) (Oc := [0]) (W := [0]) (U := [0]) T.d__law_odd sc__law_odd (fun f cdv A outer s H E P0 hr => (cs_cons (cs_asg (ce_lst (ca_cons ce_non (ca_cons ce_bl (ca_cons ce_bl (ca_cons (ce_neg ce_int) (ca_cons ce_int (ca_cons ce_int (ca_cons ce_int (ca_cons ce_int (ca_cons ce_str (ca_cons ce_str (ca_cons ce_str (ca_cons (ce_tup ca_nil) (ca_cons (ce_tup (ca_cons ce_int ca_nil)) (ca_cons (ce_tup (ca_cons ce_int ca_nil)) (ca_cons (ce_tup (ca_cons ce_bl ca_nil)) (ca_cons (ce_lst (ca_cons ce_int ca_nil)) (ca_cons ce_dic0 (ca_cons (ce_tup (ca_cons ce_non ca_nil)) (ca_cons (ce_bin od_pow ce_int ce_int) ca_nil)))))))))))))))))))) (cg_name 1 sc__law_odd.nd))
    (cs_cons (cs_asg (ce_bin od_add (ce_var 1) (ce_lst (ca_cons (ce_tup (ca_cons (ce_tup ca_nil) (ca_cons (ce_tup (ca_cons ce_int ca_nil)) ca_nil))) (ca_cons (ce_tup (ca_cons (ce_tup (ca_cons ce_int ca_nil)) (ca_cons (ce_tup (ca_cons ce_int (ca_cons ce_int ca_nil))) ca_nil))) (ca_cons (ce_tup (ca_cons ce_int (ca_cons ce_int ca_nil))) (ca_cons (ce_lst (ca_cons (ce_tup ca_nil) (ca_cons (ce_tup (ca_cons ce_int ca_nil)) ca_nil))) (ca_cons ce_str (ca_cons (ce_tup (ca_cons ce_str ca_nil)) (ca_cons (ce_tup (ca_cons (ce_tup (ca_cons ce_int (ca_cons ce_int ca_nil))) ca_nil)) (ca_cons (ce_tup (ca_cons ce_int ca_nil)) ca_nil)))))))))) (cg_name 1 sc__law_odd.nd))
    (cs_one (cs_ret (ce_ix (ce_var 1) (ce_callIO (ok__law_take T) [(0, 0)] out2_body (hr.mono (by decide)) (ca_cons (ce_own 0) (ca_cons (ce_callB cd_len T.z_len bo_len (ca_cons (ce_var 1) ca_nil)) ca_nil)) (alen_cons (alen_cons alen_nil))))))))) (fun _ _ _ _ _ _ us hl => match us, hl with | [_], _ => rfl))
theorem ok__law_in (T : Txt K mg) : Glo P w K mg base "_law_in" 1 2 [] (pureF C.g__law_in) :=
  (glo_mk (O := []) (Oc := []) (W := []) (U := []) T.d__law_in sc__law_in (fun f cdv A outer s H E P0 hr => (cs_one (cs_ret (ce_callB (cd_all rfl) T.z_all bo_all (ca_cons (ce_comp rfl sc__law_in.nd (ci_zipG T.z_zip (ca_cons (ce_var 0) (ca_cons (ce_var 1) ca_nil))) (blkOk_by (own := [("sign", 2), ("bit", 3)]) (by kernel_rfl)) (fun P0 s H C cl fp => (cg_tup [2, 3] rfl (cgs_cons 2 sc__law_in.nd (cgs_cons 3 sc__law_in.nd cgs_nil)))) (fun s H C cl fp => cts_nil) (fun P0 s H C cl fp => (ce_or (ce_cmp (od_eq hr.units) (ce_var 2) ce_str) (ce_one (ce_cmp (od_eq hr.units) (ce_callT cd_int T.z_int bo_int (ca_cons (ce_var 2) ca_nil)) (ce_var 3)))))) ca_nil))))) (fun _ _ _ _ _ _ us hl => match us, hl with | [_, _], _ => rfl)).pure
theorem ok__law_inside (T : Txt K mg) : Glo P w K mg base "_law_inside" 2 1 [] (pureF C.g__law_inside) :=
  (glo_mk (O := []) (Oc := []) (W := []) (U := []) T.d__law_inside sc__law_inside (fun f cdv A outer s H E P0 hr => (cs_one (cs_ret (ce_comp rfl sc__law_inside.nd (ci_any (ce_call (ok__law_stands T) out2_body (hr.mono (by decide)) (ca_cons (ce_callB cd_len T.z_len bo_len (ca_cons (ce_var 0) ca_nil)) ca_nil) (alen_cons alen_nil))) (blkOk_by (own := [("stand", 1)]) (by kernel_rfl)) (fun P0 s H C cl fp => (cg_name 1 sc__law_inside.nd)) (fun s H C cl fp => (cts_one fun P0 => (ct_val (ce_call (ok__law_in T) Out2.blk (hr.mono (by decide)) (ca_cons (ce_var 0) (ca_cons (ce_var 1) ca_nil)) (alen_cons (alen_cons alen_nil)))))) (fun P0 s H C cl fp => (ce_var 1)))))) (fun _ _ _ _ _ _ us hl => match us, hl with | [_], _ => rfl)).pure
theorem ok__law_bits (T : Txt K mg) : Glo P w K mg base "_law_bits" 3 3 [] (pureF C.g__law_bits) :=
  (glo_mk (O := []) (Oc := []) (W := []) (U := []) T.d__law_bits sc__law_bits (fun f cdv A outer s H E P0 hr => (cs_one (cs_ret (ce_setSort rfl T.z_sorted T.z_set (ce_comp rfl sc__law_bits.nd (ci_any (ce_call (ok__law_inside T) out2_body (hr.mono (by decide)) (ca_cons (ce_var 1) ca_nil) (alen_cons alen_nil))) (blkOk_by (own := [("stand", 3)]) (by kernel_rfl)) (fun P0 s H C cl fp => (cg_name 3 sc__law_bits.nd)) (fun s H C cl fp => cts_nil) (fun P0 s H C cl fp => (ce_call (ok__law_ought T) Out2.blk (hr.mono (by decide)) (ca_cons (ce_var 0) (ca_cons (ce_var 3) (ca_cons (ce_var 2) ca_nil))) (alen_cons (alen_cons (alen_cons alen_nil)))))))))) (fun _ _ _ _ _ _ us hl => match us, hl with | [_, _, _], _ => rfl)).pure
theorem ok__law_sign (T : Txt K mg) : Glo P w K mg base "_law_sign" 1 3 [] (pureF C.g__law_sign) :=
  (glo_mk (O := []) (Oc := []) (W := []) (U := []) T.d__law_sign sc__law_sign (fun f cdv A outer s H E P0 hr => (cs_one (cs_ret (ce_bin od_add (ce_bin od_add (ce_slice (ce_var 0) co_none (co_some (ce_var 1))) (ce_var 2)) (ce_slice (ce_var 0) (co_some (ce_bin od_add (ce_var 1) ce_int)) co_none))))) (fun _ _ _ _ _ _ us hl => match us, hl with | [_, _, _], _ => rfl)).pure
theorem ok__law_held (T : Txt K mg) : Glo P w K mg base "_law_held" 1 2 [] (pureF C.g__law_held) :=
  (glo_mk (O := []) (Oc := [3]) (W := []) (U := []) T.d__law_held sc__law_held (fun f cdv A outer s H E P0 hr => (cs_cons (cs_asg (ce_callT (cd_dictF rfl) T.z_dict bo_dict (ca_cons (ce_var 1) ca_nil)) (cg_name 2 sc__law_held.nd))
    (cs_cons (cs_own (i := 3) sc__law_held.nd (ce_lst ca_nil))
    (cs_cons (cs_for (U' := []) (vs := [4, 5]) (passes_of rfl) rfl (ci_enumG T.z_enumerate (ca_cons (ce_var 0) ca_nil)) (cg_tup [4, 5] rfl (cgs_cons 4 sc__law_held.nd (cgs_cons 5 sc__law_held.nd cgs_nil))) (cs_cons (cs_if (ct_din (Nat.lt_of_le_of_lt (Nat.add_le_add_left (by decide) _) hr.units65) (ce_var 4) (ce_var 2)) (cs_one (cs_asg (ce_tup (ca_cons (ce_tup ca_nil) (ca_cons (ce_tup (ca_cons (ce_dget (Nat.lt_of_le_of_lt (Nat.add_le_add_left (by decide) _) hr.units65) (ce_var 2) (ce_var 4)) ca_nil)) ca_nil))) (cg_name 5 sc__law_held.nd))) cs_nil)
    (cs_one (cs_append (i := 3) (ce_var 5)))))
    (cs_one (cs_ret (ce_callT cd_tuple T.z_tuple bo_tuple (ca_cons (ce_own 3) ca_nil)))))))) (fun _ _ _ _ _ _ us hl => match us, hl with | [_, _], _ => rfl)).pure
theorem ok__law_poured (T : Txt K mg) : Glo P w K mg base "_law_poured" 4 2 [] (pureF C.g__law_poured) :=
  (glo_mk (O := []) (Oc := [6]) (W := []) (U := []) T.d__law_poured sc__law_poured (fun f cdv A outer s H E P0 hr => (cs_cons (cs_asg (ce_call (ok__law_held T) out2_body (hr.mono (by decide)) (ca_cons (ce_var 0) (ca_cons (ce_var 1) ca_nil)) (alen_cons (alen_cons alen_nil))) (cg_name 2 sc__law_poured.nd))
    (cs_cons (cs_asg (ce_bin od_mul ce_str (ce_callB cd_len T.z_len bo_len (ca_cons (ce_var 0) ca_nil))) (cg_name 3 sc__law_poured.nd))
    (cs_cons (cs_for (U' := []) (vs := [5]) (passes_of rfl) rfl (ci_any (ce_var 1)) (cg_tup [4, 5] rfl (cgs_cons 4 sc__law_poured.nd (cgs_cons 5 sc__law_poured.nd cgs_nil))) (cs_one (cs_asg (ce_call (ok__law_sign T) out2_body (hr.mono (by decide)) (ca_cons (ce_var 3) (ca_cons (ce_var 4) (ca_cons (ce_callT cd_str T.z_str bo_str (ca_cons (ce_var 5) ca_nil)) ca_nil))) (alen_cons (alen_cons (alen_cons alen_nil)))) (cg_name 3 sc__law_poured.nd))))
    (cs_cons (cs_own (i := 6) sc__law_poured.nd (ce_lst (ca_cons (ce_comp rfl sc__law_poured.nd (ci_any (ce_var 1)) (blkOk_by (own := [("k", 4), ("bit", 5)]) (by kernel_rfl)) (fun P0 s H C cl fp => (cg_tup [4, 5] rfl (cgs_cons 4 sc__law_poured.nd (cgs_cons 5 sc__law_poured.nd cgs_nil)))) (fun s H C cl fp => cts_nil) (fun P0 s H C cl fp => (ce_var 4))) ca_nil)))
    (cs_one (cs_while (vs := [7, 8]) (passes_of rfl) (ct_val ce_bl) (cs_cons (cs_asg (ce_var 3) (cg_name 7 sc__law_poured.nd))
    (cs_cons (cs_for (U' := []) (vs := [8]) (passes_of rfl) rfl (ci_range1 T.z_range (ca_cons (ce_callB cd_len T.z_len bo_len (ca_cons (ce_var 0) ca_nil)) ca_nil)) (cg_name 4 sc__law_poured.nd) (cs_cons (cs_asg (ce_call (ok__law_bits T) out2_body (hr.mono (by decide)) (ca_cons (ce_var 2) (ca_cons (ce_var 3) (ca_cons (ce_var 4) ca_nil))) (alen_cons (alen_cons (alen_cons alen_nil)))) (cg_name 8 sc__law_poured.nd))
    (cs_one (cs_if (ct_w (cw_and (ct_cmp (od_eq hr.units) (ce_ix (ce_var 3) (ce_var 4)) ce_str) (cw_and1 (ct_cmp (od_eq hr.units) (ce_callB cd_len T.z_len bo_len (ca_cons (ce_var 8) ca_nil)) ce_int)))) (cs_one (cs_asg (ce_call (ok__law_sign T) out2_body (hr.mono (by decide)) (ca_cons (ce_var 7) (ca_cons (ce_var 4) (ca_cons (ce_callT cd_str T.z_str bo_str (ca_cons (ce_ix (ce_var 8) ce_int) ca_nil)) ca_nil))) (alen_cons (alen_cons (alen_cons alen_nil)))) (cg_name 7 sc__law_poured.nd))) cs_nil))))
    (cs_cons (cs_if (ct_cmp (od_eq hr.units) (ce_var 7) (ce_var 3)) (cs_one (cs_retO (i := 6) (ca_cons (ce_var 3) (ca_cons (ce_own 6) ca_nil)))) cs_nil)
    (cs_cons (cs_append (i := 6) (ce_comp rfl sc__law_poured.nd (ci_range1 T.z_range (ca_cons (ce_callB cd_len T.z_len bo_len (ca_cons (ce_var 0) ca_nil)) ca_nil)) (blkOk_by (own := [("k", 4)]) (by kernel_rfl)) (fun P0 s H C cl fp => (cg_name 4 sc__law_poured.nd)) (fun s H C cl fp => (cts_one fun P0 => (ct_cmp (od_ne hr.units) (ce_ix (ce_var 3) (ce_var 4)) (ce_ix (ce_var 7) (ce_var 4))))) (fun P0 s H C cl fp => (ce_var 4))))
    (cs_one (cs_asg (ce_var 7) (cg_name 3 sc__law_poured.nd)))))))))))))) (fun _ _ _ _ _ _ us hl => match us, hl with | [_, _], _ => rfl)).pure
theorem ok__law_upto (T : Txt K mg) : Glo P w K mg base "_law_upto" 1 2 [] (pureF C.g__law_upto) :=
  (glo_mk (O := []) (Oc := []) (W := []) (U := []) T.d__law_upto sc__law_upto (fun f cdv A outer s H E P0 hr => (cs_one (cs_ret (ce_and (ce_isi isk_int T.z_isinstance T.z_int (ce_var 0) bo_isinstance bo_int) (ce_and (ce_not (ce_isi isk_bool T.z_isinstance T.z_bool (ce_var 0) bo_isinstance bo_bool)) (ce_one (ce_chain od_le od_lt ce_int (ce_var 0) (ce_var 1)))))))) (fun _ _ _ _ _ _ us hl => match us, hl with | [_, _], _ => rfl)).pure
theorem ok__law_places (T : Txt K mg) : Glo P w K mg base "_law_places" 1 1 [] (pureF C.g__law_places_2) :=
  (glo_mk (O := []) (Oc := []) (W := []) (U := []) T.d__law_places sc__law_places (fun f cdv A outer s H E P0 hr => (cs_cons (cs_asg (ce_lst (ca_cons ce_int ca_nil)) (cg_name 1 sc__law_places.nd))
    (cs_cons (cs_for (U' := []) (vs := [2, 3, 4, 5]) (passes_of rfl) rfl (ci_any (ce_var 0)) (cg_name 2 sc__law_places.nd) (cs_cons (cs_asg (ce_ix (ce_lst (ca_cons (ce_lst (ca_cons ce_int ca_nil)) (ca_cons (ce_lst (ca_cons ce_int ca_nil)) (ca_cons (ce_lst (ca_cons ce_int (ca_cons ce_int ca_nil))) ca_nil)))) (ce_index hr.units65 ce_str (ce_var 2))) (cg_name 3 sc__law_places.nd))
    (cs_build (i := 4) (y := 1) sc__law_places.nd (cs_for (U' := []) (vs := [5]) (passes_of rfl) rfl (ci_any (ce_var 1)) (cg_name 5 sc__law_places.nd) (cs_one (cs_ext (i := 4) (ce_comp rfl sc__law_places.nd (ci_any (ce_var 3)) (blkOk_by (own := [("bit", 6)]) (by kernel_rfl)) (fun P0 s H C cl fp => (cg_name 6 sc__law_places.nd)) (fun s H C cl fp => cts_nil) (fun P0 s H C cl fp => (ce_bin od_add (ce_bin od_mul ce_int (ce_var 5)) (ce_var 6))))))))))
    (cs_one (cs_ret (ce_var 1)))))) (fun _ _ _ _ _ _ us hl => match us, hl with | [_], _ => rfl)).pure
theorem ok__law_row_bit (T : Txt K mg) : Glo P w K mg base "_law_row_bit" 2 3 [] (pureF C.g__law_row_bit) :=
  (glo_mk (O := []) (Oc := []) (W := []) (U := []) T.d__law_row_bit sc__law_row_bit (fun f cdv A outer s H E P0 hr => (cs_cons (cs_if (ct_w (cw_or (ct_not (ct_val (ce_isi isk_tuple T.z_isinstance T.z_tuple (ce_var 2) bo_isinstance bo_tuple))) (cw_or (ct_cmp (od_ne hr.units) (ce_callB cd_len T.z_len bo_len (ca_cons (ce_var 2) ca_nil)) ce_int) (cw_or (ct_not (ct_val (ce_call (ok__law_upto T) out2_body (hr.mono (by decide)) (ca_cons (ce_ix (ce_var 2) ce_int) (ca_cons (ce_callB cd_len T.z_len bo_len (ca_cons (ce_var 0) ca_nil)) ca_nil)) (alen_cons (alen_cons alen_nil))))) (cw_or1 (ct_not (ct_val (ce_isi isk_str T.z_isinstance T.z_str (ce_ix (ce_var 2) ce_int) bo_isinstance bo_str)))))))) (cs_one (cs_ret ce_non)) cs_nil)
    (cs_cons (cs_asg (ce_ix (ce_var 0) (ce_ix (ce_var 2) ce_int)) (cg_tup [3, 4] rfl (cgs_cons 3 sc__law_row_bit.nd (cgs_cons 4 sc__law_row_bit.nd cgs_nil))))
    (cs_cons (cs_if (ct_w (cw_or (ct_cmp (od_ne hr.units) (ce_ix (ce_var 1) (ce_ix (ce_var 2) ce_int)) ce_str) (cw_or (ct_cmp (od_ne hr.units) (ce_callB cd_len T.z_len bo_len (ca_cons (ce_ix (ce_var 2) ce_int) ca_nil)) (ce_callB cd_len T.z_len bo_len (ca_cons (ce_var 3) ca_nil))) (cw_or1 (ct_cmp (od_ne hr.units) (ce_comp rfl sc__law_row_bit.nd (ci_any (ce_ix (ce_var 2) ce_int)) (blkOk_by (own := [("sign", 5)]) (by kernel_rfl)) (fun P0 s H C cl fp => (cg_name 5 sc__law_row_bit.nd)) (fun s H C cl fp => (cts_one fun P0 => (ct_cmp (od_nin hr.units65) (ce_var 5) ce_str))) (fun P0 s H C cl fp => (ce_var 5))) (ce_lst ca_nil)))))) (cs_one (cs_ret ce_non)) cs_nil)
    (cs_cons (cs_for (U' := []) (vs := [5, 6]) (passes_of rfl) rfl (ci_zipG T.z_zip (ca_cons (ce_ix (ce_var 2) ce_int) (ca_cons (ce_var 3) ca_nil))) (cg_tup [5, 6] rfl (cgs_cons 5 sc__law_row_bit.nd (cgs_cons 6 sc__law_row_bit.nd cgs_nil))) (cs_one (cs_if (ct_w (cw_and (ct_cmp (od_ne hr.units) (ce_var 5) ce_str) (cw_and1 (ct_cmp (od_ne hr.units) (ce_var 5) (ce_ix (ce_var 1) (ce_var 6)))))) (cs_one (cs_ret ce_non)) cs_nil)))
    (cs_cons (cs_asgLc (i := 7) rfl sc__law_row_bit.nd rfl rfl (sw_true rfl rfl rfl (by decide +kernel)) (ci_any (ce_call (ok__law_places T) out2_body (hr.mono (by decide)) (ca_cons (ce_ix (ce_var 2) ce_int) ca_nil) (alen_cons alen_nil))) (blkOk_by (own := [("place", 8)]) (by kernel_rfl)) (fun P0 s H C cl fp => (cg_name 8 sc__law_row_bit.nd)) (fun s H C cl fp => cts_nil) (fun P0 s H C cl fp => (ce_ix (ce_var 4) (ce_var 8))))
    (cs_cons (cs_if (ct_cmp (od_ne hr.units) (ce_callB (cd_minS rfl hr.units) T.z_min bo_min (ca_cons (ce_var 7) ca_nil)) (ce_callB (cd_maxS rfl hr.units) T.z_max bo_max (ca_cons (ce_var 7) ca_nil))) (cs_one (cs_ret ce_non)) cs_nil)
    (cs_one (cs_ret (ce_ix (ce_var 7) ce_int)))))))))) (fun _ _ _ _ _ _ us hl => match us, hl with | [_, _, _], _ => rfl)).pure
theorem ok__law_pour_right (T : Txt K mg) : Glo P w K mg base "_law_pour_right" 3 3 [] (pureF C.g__law_pour_right) :=
  (glo_mk (O := []) (Oc := []) (W := []) (U := []) T.d__law_pour_right sc__law_pour_right (fun f cdv A outer s H E P0 hr => (cs_cons (cs_if (ct_not (ct_val (ce_isi isk_list T.z_isinstance T.z_list (ce_var 2) bo_isinstance bo_list))) (cs_one (cs_ret ce_non)) cs_nil)
    (cs_cons (cs_asg (ce_bin od_mul ce_str (ce_callB cd_len T.z_len bo_len (ca_cons (ce_var 0) ca_nil))) (cg_name 3 sc__law_pour_right.nd))
    (cs_cons (cs_for (U' := []) (vs := [4, 5]) (passes_of rfl) rfl (ci_any (ce_var 1)) (cg_tup [4, 5] rfl (cgs_cons 4 sc__law_pour_right.nd (cgs_cons 5 sc__law_pour_right.nd cgs_nil))) (cs_one (cs_asg (ce_call (ok__law_sign T) out2_body (hr.mono (by decide)) (ca_cons (ce_var 3) (ca_cons (ce_var 4) (ca_cons (ce_callT cd_str T.z_str bo_str (ca_cons (ce_var 5) ca_nil)) ca_nil))) (alen_cons (alen_cons (alen_cons alen_nil)))) (cg_name 3 sc__law_pour_right.nd))))
    (cs_cons (cs_for (U' := []) (vs := [5, 6]) (passes_of rfl) rfl (ci_any (ce_var 2)) (cg_name 6 sc__law_pour_right.nd) (cs_cons (cs_asg (ce_call (ok__law_row_bit T) out2_body (hr.mono (by decide)) (ca_cons (ce_var 0) (ca_cons (ce_var 3) (ca_cons (ce_var 6) ca_nil))) (alen_cons (alen_cons (alen_cons alen_nil)))) (cg_name 5 sc__law_pour_right.nd))
    (cs_cons (cs_if (ct_cmp od_is (ce_var 5) ce_non) (cs_one (cs_ret ce_non)) cs_nil)
    (cs_one (cs_asg (ce_call (ok__law_sign T) out2_body (hr.mono (by decide)) (ca_cons (ce_var 3) (ca_cons (ce_ix (ce_var 6) ce_int) (ca_cons (ce_callT cd_str T.z_str bo_str (ca_cons (ce_var 5) ca_nil)) ca_nil))) (alen_cons (alen_cons (alen_cons alen_nil)))) (cg_name 3 sc__law_pour_right.nd))))))
    (cs_cons (cs_if (ct_cmp (od_in hr.units65) ce_str (ce_var 3)) (cs_one (cs_ret ce_non)) cs_nil)
    (cs_one (cs_ret (ce_callT cd_tuple T.z_tuple bo_tuple (ca_cons (ce_comp rfl sc__law_pour_right.nd (ci_any (ce_var 3)) (blkOk_by (own := [("sign", 7)]) (by kernel_rfl)) (fun P0 s H C cl fp => (cg_name 7 sc__law_pour_right.nd)) (fun s H C cl fp => cts_nil) (fun P0 s H C cl fp => (ce_callT cd_int T.z_int bo_int (ca_cons (ce_var 7) ca_nil)))) ca_nil)))))))))) (fun _ _ _ _ _ _ us hl => match us, hl with | [_, _, _], _ => rfl)).pure
theorem ok__law_settling (T : Txt K mg) : Glo P w K mg base "_law_settling" 5 3 [0] C.g__law_settling :=
  (glo_mk (O := [0]) (Oc := [0, 3]) (W := [0]) (U := [0]) T.d__law_settling sc__law_settling (fun f cdv A outer s H E P0 hr => (cs_cons (cs_own (i := 3) sc__law_settling.nd (ce_lst ca_nil))
    (cs_cons (cs_for (U' := [0]) (vs := [4]) (passes_of rfl) rfl (ci_range1 T.z_range (ca_cons (ce_callB cd_len T.z_len bo_len (ca_cons (ce_var 1) ca_nil)) ca_nil)) (cg_name 4 sc__law_settling.nd) (cs_one (cs_if (ct_w (cw_and (ct_cmp (od_in hr.units65) ce_str (ce_ix (ce_call (ok__law_poured T) out2_body (hr.mono (by decide)) (ca_cons (ce_var 1) (ca_cons (ce_callT cd_tupleF T.z_tuple bo_tuple (ca_cons (ce_own 3) ca_nil)) ca_nil)) (alen_cons (alen_cons alen_nil))) ce_int)) (cw_and1 (ct_cmp od_gt (ce_callIO (ok__law_take T) [(0, 0)] out2_body (hr.mono (by decide)) (ca_cons (ce_own 0) (ca_cons ce_int ca_nil)) (alen_cons (alen_cons alen_nil))) ce_int)))) (cs_one (cs_append (i := 3) (ce_tup (ca_cons (ce_var 4) (ca_cons (ce_ix (ce_var 2) (ce_var 4)) ca_nil))))) cs_nil)))
    (cs_cons (cs_if (ct_cmp (od_in hr.units65) ce_str (ce_ix (ce_call (ok__law_poured T) out2_body (hr.mono (by decide)) (ca_cons (ce_var 1) (ca_cons (ce_callT cd_tupleF T.z_tuple bo_tuple (ca_cons (ce_own 3) ca_nil)) ca_nil)) (alen_cons (alen_cons alen_nil))) ce_int)) (cs_one (cs_ret (ce_tupEnum rfl T.z_tuple T.z_enumerate (ca_cons (ce_var 2) ca_nil)))) cs_nil)
    (cs_one (cs_ret (ce_callT cd_tupleF T.z_tuple bo_tuple (ca_cons (ce_own 3) ca_nil)))))))) (fun _ _ _ _ _ _ us hl => match us, hl with | [_, _, _], _ => rfl))
theorem ok__law_paper (T : Txt K mg) : Glo P w K mg base "_law_paper" 4 3 [0] C.g__law_paper_3 :=
  (glo_mk (O := [0]) (Oc := [0, 6, 7]) (W := [0]) (U := [0]) T.d__law_paper sc__law_paper (fun f cdv A outer s H E P0 hr => (cs_cons (cs_asg (ce_bin od_mul ce_str (ce_callB cd_len T.z_len bo_len (ca_cons (ce_var 1) ca_nil))) (cg_name 3 sc__law_paper.nd))
    (cs_cons (cs_for (U' := [0]) (vs := [4, 5]) (passes_of rfl) rfl (ci_any (ce_var 2)) (cg_tup [4, 5] rfl (cgs_cons 4 sc__law_paper.nd (cgs_cons 5 sc__law_paper.nd cgs_nil))) (cs_one (cs_asg (ce_call (ok__law_sign T) out2_body (hr.mono (by decide)) (ca_cons (ce_var 3) (ca_cons (ce_var 4) (ca_cons (ce_callT cd_str T.z_str bo_str (ca_cons (ce_var 5) ca_nil)) ca_nil))) (alen_cons (alen_cons (alen_cons alen_nil)))) (cg_name 3 sc__law_paper.nd))))
    (cs_cons (cs_own (i := 6) sc__law_paper.nd (ce_lst ca_nil))
    (cs_cons (cs_while (vs := [4, 5, 7, 8, 9, 10, 11]) (passes_of rfl) (ct_cmp (od_in hr.units65) ce_str (ce_var 3)) (cs_cons (cs_own (i := 7) sc__law_paper.nd (ce_lst ca_nil))
    (cs_cons (cs_for (U' := [0]) (vs := [4]) (passes_of rfl) rfl (ci_range1 T.z_range (ca_cons (ce_callB cd_len T.z_len bo_len (ca_cons (ce_var 1) ca_nil)) ca_nil)) (cg_name 4 sc__law_paper.nd) (cs_one (cs_if (ct_w (cw_and (ct_cmp (od_eq hr.units) (ce_ix (ce_var 3) (ce_var 4)) ce_str) (cw_and1 (ct_cmp (od_eq hr.units) (ce_callB cd_len T.z_len bo_len (ca_cons (ce_call (ok__law_bits T) out2_body (hr.mono (by decide)) (ca_cons (ce_var 1) (ca_cons (ce_var 3) (ca_cons (ce_var 4) ca_nil))) (alen_cons (alen_cons (alen_cons alen_nil)))) ca_nil)) ce_int)))) (cs_one (cs_append (i := 7) (ce_var 4))) cs_nil)))
    (cs_cons (cs_asg (ce_ix (ce_own 7) (ce_callIO (ok__law_take T) [(0, 0)] out2_body (hr.mono (by decide)) (ca_cons (ce_own 0) (ca_cons (ce_callB cd_len T.z_len bo_len (ca_cons (ce_own 7) ca_nil)) ca_nil)) (alen_cons (alen_cons alen_nil)))) (cg_name 4 sc__law_paper.nd))
    (cs_cons (cs_asg (ce_join ce_str (ce_comp rfl sc__law_paper.nd (ci_any (ce_ix (ce_ix (ce_var 1) (ce_var 4)) ce_int)) (blkOk_by (own := [("ear", 12)]) (by kernel_rfl)) (fun P0 s H C cl fp => (cg_name 12 sc__law_paper.nd)) (fun s H C cl fp => cts_nil) (fun P0 s H C cl fp => (ce_ix (ce_var 3) (ce_var 12))))) (cg_name 8 sc__law_paper.nd))
    (cs_cons (cs_asg (ce_callT cd_str T.z_str bo_str (ca_cons (ce_ix (ce_call (ok__law_bits T) out2_body (hr.mono (by decide)) (ca_cons (ce_var 1) (ca_cons (ce_var 3) (ca_cons (ce_var 4) ca_nil))) (alen_cons (alen_cons (alen_cons alen_nil)))) ce_int) ca_nil)) (cg_name 5 sc__law_paper.nd))
    (cs_cons (cs_for (U' := [0]) (vs := [9, 10, 11]) (passes_of rfl) rfl (ci_range1 T.z_range (ca_cons (ce_callB cd_len T.z_len bo_len (ca_cons (ce_var 8) ca_nil)) ca_nil)) (cg_name 9 sc__law_paper.nd) (cs_cons (cs_asg (ce_call (ok__law_sign T) out2_body (hr.mono (by decide)) (ca_cons (ce_var 8) (ca_cons (ce_var 9) (ca_cons ce_str ca_nil))) (alen_cons (alen_cons (alen_cons alen_nil)))) (cg_name 10 sc__law_paper.nd))
    (cs_cons (cs_asgLc (i := 11) rfl sc__law_paper.nd rfl rfl (sw_true rfl rfl rfl (by decide +kernel)) (ci_any (ce_call (ok__law_places T) out2_body (hr.mono (by decide)) (ca_cons (ce_var 10) ca_nil) (alen_cons alen_nil))) (blkOk_by (own := [("at_place", 13)]) (by kernel_rfl)) (fun P0 s H C cl fp => (cg_name 13 sc__law_paper.nd)) (fun s H C cl fp => cts_nil) (fun P0 s H C cl fp => (ce_ix (ce_ix (ce_ix (ce_var 1) (ce_var 4)) ce_int) (ce_var 13))))
    (cs_one (cs_if (ct_w (cw_and (ct_cmp (od_eq hr.units) (ce_callB (cd_minS rfl hr.units) T.z_min bo_min (ca_cons (ce_var 11) ca_nil)) (ce_callB (cd_maxS rfl hr.units) T.z_max bo_max (ca_cons (ce_var 11) ca_nil))) (cw_and1 (ct_cmp (od_eq hr.units) (ce_callIO (ok__law_take T) [(0, 0)] out2_body (hr.mono (by decide)) (ca_cons (ce_own 0) (ca_cons ce_int ca_nil)) (alen_cons (alen_cons alen_nil))) ce_int)))) (cs_one (cs_asg (ce_var 10) (cg_name 8 sc__law_paper.nd))) cs_nil)))))
    (cs_cons (cs_append (i := 6) (ce_tup (ca_cons (ce_var 4) (ca_cons (ce_var 8) ca_nil))))
    (cs_one (cs_asg (ce_call (ok__law_sign T) out2_body (hr.mono (by decide)) (ca_cons (ce_var 3) (ca_cons (ce_var 4) (ca_cons (ce_var 5) ca_nil))) (alen_cons (alen_cons (alen_cons alen_nil)))) (cg_name 3 sc__law_paper.nd)))))))))))
    (cs_one (cs_ret (ce_own 6)))))))) (fun _ _ _ _ _ _ us hl => match us, hl with | [_, _, _], _ => rfl))
theorem ok__law_other (T : Txt K mg) : Glo P w K mg base "_law_other" 3 3 [0] C.g__law_other_3 :=
  (glo_mk (O := [0]) (Oc := [0, 11]) (W := [0]) (U := [0]) T.d__law_other sc__law_other (fun f cdv A outer s H E P0 hr => (cs_cons (cs_if (ct_cmp (od_eq hr.units) (ce_var 2) (ce_lst ca_nil)) (cs_one (cs_ret (ce_lst (ca_cons (ce_tup (ca_cons (ce_callIO (ok__law_take T) [(0, 0)] out2_body (hr.mono (by decide)) (ca_cons (ce_own 0) (ca_cons (ce_callB cd_len T.z_len bo_len (ca_cons (ce_var 1) ca_nil)) ca_nil)) (alen_cons (alen_cons alen_nil))) (ca_cons ce_str ca_nil))) ca_nil)))) cs_nil)
    (cs_cons (cs_asg (ce_callIO (ok__law_take T) [(0, 0)] out2_body (hr.mono (by decide)) (ca_cons (ce_own 0) (ca_cons (ce_callB cd_len T.z_len bo_len (ca_cons (ce_var 2) ca_nil)) ca_nil)) (alen_cons (alen_cons alen_nil))) (cg_name 3 sc__law_other.nd))
    (cs_cons (cs_asg (ce_callIO (ok__law_take T) [(0, 0)] out2_body (hr.mono (by decide)) (ca_cons (ce_own 0) (ca_cons (ce_callB cd_len T.z_len bo_len (ca_cons (ce_var 2) ca_nil)) ca_nil)) (alen_cons (alen_cons alen_nil))) (cg_name 4 sc__law_other.nd))
    (cs_cons (cs_asg (ce_ix (ce_var 2) (ce_var 3)) (cg_tup [5, 6] rfl (cgs_cons 5 sc__law_other.nd (cgs_cons 6 sc__law_other.nd cgs_nil))))
    (cs_cons (cs_asg (ce_callIO (ok__law_take T) [(0, 0)] out2_body (hr.mono (by decide)) (ca_cons (ce_own 0) (ca_cons (ce_bin od_add (ce_callB cd_len T.z_len bo_len (ca_cons (ce_var 6) ca_nil)) ce_int) ca_nil)) (alen_cons (alen_cons alen_nil))) (cg_name 7 sc__law_other.nd))
    (cs_cons (cs_asg (ce_ix ce_str (ce_callIO (ok__law_take T) [(0, 0)] out2_body (hr.mono (by decide)) (ca_cons (ce_own 0) (ca_cons ce_int ca_nil)) (alen_cons (alen_cons alen_nil)))) (cg_name 8 sc__law_other.nd))
    (cs_cons (cs_asg (ce_callIO (ok__law_odd T) [(0, 0)] out2_body (hr.mono (by decide)) (ca_cons (ce_own 0) ca_nil) (alen_cons alen_nil)) (cg_name 9 sc__law_other.nd))
    (cs_cons (cs_asg (ce_lst (ca_cons (ce_tup (ca_cons (ce_var 5) (ca_cons (ce_bin od_add (ce_bin od_add (ce_slice (ce_var 6) co_none (co_some (ce_var 7))) (ce_var 8)) (ce_slice (ce_var 6) (co_some (ce_bin od_add (ce_var 7) ce_int)) co_none)) ca_nil))) (ca_cons (ce_tup (ca_cons (ce_callIO (ok__law_take T) [(0, 0)] out2_body (hr.mono (by decide)) (ca_cons (ce_own 0) (ca_cons (ce_callB cd_len T.z_len bo_len (ca_cons (ce_var 1) ca_nil)) ca_nil)) (alen_cons (alen_cons alen_nil))) (ca_cons (ce_var 6) ca_nil))) ca_nil))) (cg_name 10 sc__law_other.nd))
    (cs_cons (cs_asg (ce_bin od_add (ce_var 10) (ce_lst (ca_cons (ce_tup (ca_cons (ce_var 5) (ca_cons (ce_bin od_add (ce_var 6) ce_str) ca_nil))) (ca_cons (ce_tup (ca_cons (ce_var 5) (ca_cons (ce_var 9) ca_nil))) ca_nil)))) (cg_name 10 sc__law_other.nd))
    (cs_cons (cs_asg (ce_bin od_add (ce_var 10) (ce_lst (ca_cons (ce_tup (ca_cons (ce_var 9) (ca_cons (ce_var 6) ca_nil))) (ca_cons (ce_var 9) (ca_cons (ce_lst (ca_cons (ce_var 5) (ca_cons (ce_var 6) ca_nil))) (ca_cons (ce_tup (ca_cons (ce_var 5) (ca_cons (ce_var 6) (ca_cons ce_int ca_nil)))) (ca_cons (ce_tup (ca_cons (ce_var 5) ca_nil)) (ca_cons (ce_tup (ca_cons (ce_var 5) (ca_cons (ce_bin od_mul ce_str (ce_callB cd_len T.z_len bo_len (ca_cons (ce_var 6) ca_nil))) ca_nil))) (ca_cons (ce_tup (ca_cons (ce_var 5) (ca_cons (ce_slice (ce_var 6) (co_some ce_int) co_none) ca_nil))) ca_nil))))))))) (cg_name 10 sc__law_other.nd))
    (cs_cons (cs_own (i := 11) sc__law_other.nd (ce_lst (ca_cons (ce_bin od_add (ce_slice (ce_var 2) co_none (co_some (ce_var 3))) (ce_slice (ce_var 2) (co_some (ce_bin od_add (ce_var 3) ce_int)) co_none)) (ca_cons (ce_bin od_add (ce_var 2) (ce_slice (ce_var 2) (co_some (ce_var 3)) (co_some (ce_bin od_add (ce_var 3) ce_int)))) (ca_cons (ce_callT cd_tuple T.z_tuple bo_tuple (ca_cons (ce_var 2) ca_nil)) (ca_cons (ce_var 9) (ca_cons (ce_rev (ce_var 2) (co_some (ce_neg ce_int))) ca_nil)))))))
    (cs_cons (cs_asg (ce_bin od_add (ce_slice (ce_var 2) co_none (co_some (ce_var 3))) (ce_slice (ce_var 2) (co_some (ce_bin od_add (ce_var 3) ce_int)) co_none)) (cg_name 12 sc__law_other.nd))
    (cs_cons (cs_append (i := 11) (ce_bin od_add (ce_bin od_add (ce_slice (ce_var 12) co_none (co_some (ce_var 4))) (ce_slice (ce_var 2) (co_some (ce_var 3)) (co_some (ce_bin od_add (ce_var 3) ce_int)))) (ce_slice (ce_var 12) (co_some (ce_var 4)) co_none)))
    (cs_cons (cs_for (U' := [0]) (vs := [13]) (passes_of rfl) rfl (ci_any (ce_var 10)) (cg_name 13 sc__law_other.nd) (cs_one (cs_append (i := 11) (ce_bin od_add (ce_bin od_add (ce_slice (ce_var 2) co_none (co_some (ce_var 3))) (ce_lst (ca_cons (ce_var 13) ca_nil))) (ce_slice (ce_var 2) (co_some (ce_bin od_add (ce_var 3) ce_int)) co_none)))))
    (cs_one (cs_ret (ce_ix (ce_own 11) (ce_callIO (ok__law_take T) [(0, 0)] out2_body (hr.mono (by decide)) (ca_cons (ce_own 0) (ca_cons (ce_callB cd_len T.z_len bo_len (ca_cons (ce_own 11) ca_nil)) ca_nil)) (alen_cons (alen_cons alen_nil))))))))))))))))))))) (fun _ _ _ _ _ _ us hl => match us, hl with | [_, _, _], _ => rfl))
theorem ok_law (T : Txt K mg) {f : Addr} {fd : FuncData} (F : Fun K "law" "law" s_law f fd) : FnOk P w K mg base (L2N.CX P w) 7 f fd ["script"] (spD K mg 1 [] (pureF C.g_law_k76)) :=
  law_fn (Oc := [2]) (W := [2]) F sc_law (fun f cdv A outer s H E P0 hr => (cs_cons (cs_for (U' := []) (vs := [1, 2, 3, 4, 5, 6, 7, 8, 9, 10, 11]) (passes_of rfl) rfl (ci_range1 T.z_range (ca_cons (ce_callB (cd_max rfl) T.z_max bo_max (ca_cons ce_int (ca_cons (ce_callB (cd_min rfl) T.z_min bo_min (ca_cons (ce_callB cd_len T.z_len bo_len (ca_cons (ce_var 0) ca_nil)) (ca_cons ce_int ca_nil))) ca_nil))) ca_nil)) (cg_name 1 sc_law.nd) (cs_cons (cs_own (i := 2) sc_law.nd (ce_call (ok__law_box T) out2_body (hr.mono (by decide)) (ca_cons (ce_var 0) (ca_cons (ce_var 1) ca_nil)) (alen_cons (alen_cons alen_nil))))
    (cs_cons (cs_asg (ce_callIO (ok__law_net T) [(0, 2)] out2_body (hr.mono (by decide)) (ca_cons (ce_own 2) (ca_cons ce_int ca_nil)) (alen_cons (alen_cons alen_nil))) (cg_name 3 sc_law.nd))
    (cs_cons (cs_asg (ce_callIO (ok__law_drawn_stand T) [(0, 2)] out2_body (hr.mono (by decide)) (ca_cons (ce_own 2) (ca_cons (ce_callB cd_len T.z_len bo_len (ca_cons (ce_var 3) ca_nil)) ca_nil)) (alen_cons (alen_cons alen_nil))) (cg_name 4 sc_law.nd))
    (cs_cons (cs_asg (ce_callIO (ok__law_settling T) [(0, 2)] out2_body (hr.mono (by decide)) (ca_cons (ce_own 2) (ca_cons (ce_var 3) (ca_cons (ce_var 4) ca_nil))) (alen_cons (alen_cons (alen_cons alen_nil)))) (cg_name 5 sc_law.nd))
    (cs_cons (cs_asg (ce_call (ok__law_held T) out2_body (hr.mono (by decide)) (ca_cons (ce_var 3) (ca_cons (ce_var 5) ca_nil)) (alen_cons (alen_cons alen_nil))) (cg_name 6 sc_law.nd))
    (cs_cons (cs_asg (ce_callIO (ok__law_paper T) [(0, 2)] out2_body (hr.mono (by decide)) (ca_cons (ce_own 2) (ca_cons (ce_var 6) (ca_cons (ce_var 5) ca_nil))) (alen_cons (alen_cons (alen_cons alen_nil)))) (cg_name 7 sc_law.nd))
    (cs_cons (cs_for (U' := []) (vs := [8, 9, 10, 11]) (passes_of rfl) rfl (ci_range1 T.z_range (ca_cons ce_int ca_nil)) (cg_name 8 sc_law.nd) (cs_cons (cs_asg (ce_ix (ce_lst (ca_cons (ce_var 7) (ca_cons (ce_callIO (ok__law_other T) [(0, 2)] out2_body (hr.mono (by decide)) (ca_cons (ce_own 2) (ca_cons (ce_var 3) (ca_cons (ce_var 7) ca_nil))) (alen_cons (alen_cons (alen_cons alen_nil)))) ca_nil))) (ce_callT cd_int T.z_int bo_int (ca_cons (ce_cmp od_gt (ce_var 8) ce_int) ca_nil))) (cg_name 9 sc_law.nd))
    (cs_cons (cs_asg (ce_call (ok__law_pour_right T) out2_body (hr.mono (by decide)) (ca_cons (ce_var 6) (ca_cons (ce_var 5) (ca_cons (ce_var 9) ca_nil))) (alen_cons (alen_cons (alen_cons alen_nil)))) (cg_name 10 sc_law.nd))
    (cs_cons (cs_if (ct_cmp (od_ne hr.units) (ce_call (ok_shown_pour T) out2_body (hr.mono (by decide)) (ca_cons (ce_var 3) (ca_cons (ce_var 5) (ca_cons (ce_var 9) ca_nil))) (alen_cons (alen_cons (alen_cons alen_nil)))) (ce_var 10)) (cs_one (cs_ret ce_bl)) cs_nil)
    (cs_cons (cs_asg (ce_sliceF (ce_var 5) (co_some ce_int) co_none) (cg_name 11 sc_law.nd))
    (cs_one (cs_if (ct_cmp (od_ne hr.units) (ce_call (ok_shown_pour T) out2_body (hr.mono (by decide)) (ca_cons (ce_var 3) (ca_cons (ce_var 11) (ca_cons (ce_var 9) ca_nil))) (alen_cons (alen_cons (alen_cons alen_nil)))) (ce_call (ok__law_pour_right T) out2_body (hr.mono (by decide)) (ca_cons (ce_call (ok__law_held T) out2_body (hr.mono (by decide)) (ca_cons (ce_var 3) (ca_cons (ce_var 11) ca_nil)) (alen_cons (alen_cons alen_nil))) (ca_cons (ce_var 11) (ca_cons (ce_var 9) ca_nil))) (alen_cons (alen_cons (alen_cons alen_nil))))) (cs_one (cs_ret ce_bl)) cs_nil)))))))
    (cs_one (cs_if (ct_cmp od_is (ce_call (ok_shown_pour T) out2_body (hr.mono (by decide)) (ca_cons (ce_var 3) (ca_cons (ce_var 5) (ca_cons (ce_var 7) ca_nil))) (alen_cons (alen_cons (alen_cons alen_nil)))) ce_non) (cs_one (cs_ret ce_bl)) cs_nil))))))))))
    (cs_one (cs_ret ce_bl))))
end
end K76

namespace K76
theorem good_law : Y.Good C.g_law_k76 63 := H.good_k76
end K76

namespace K76
open PySem PySem.Spec PyProof.Rows L2 Y
theorem all {l : PySem.W.OpenLaw} {w : World} {K : PySem.W.Frag} {h : Heap} {mg : Str → Option Value} {fa : Addr} (X : K.In h) (G : h.Ns mainGlobals mg) (hfa : mg "law" = some (.ref fa)) (hg : Good C.g_law_k76 63)
{f0 : Addr} {od0 an0 : Option Addr} {sl0 : Array (Option Value)} {oc0 kV0 dc0 pm0 cd0 ct0 : Value}
    (a0 : PySem.W.nsIn K mainGlobals "places_in" = some (some (.ref f0))) (l0 : K.lookup f0 = some ⟨oc0, od0, .func (PySem.W.fnOf "places_in" "places_in" (defArgs s_places_in) (defBody s_places_in) (defScope s_places_in) .none kV0 dc0 pm0 an0 cd0 ct0), sl0⟩) (c0 : PySem.W.codeIn K cd0 "places_in" = true) (k0 : PySem.W.keepIn K (.ref f0) = true)
{f1 : Addr} {od1 an1 : Option Addr} {sl1 : Array (Option Value)} {oc1 kV1 dc1 pm1 cd1 ct1 : Value}
    (a1 : PySem.W.nsIn K mainGlobals "bits_for" = some (some (.ref f1))) (l1 : K.lookup f1 = some ⟨oc1, od1, .func (PySem.W.fnOf "bits_for" "bits_for" (defArgs s_bits_for) (defBody s_bits_for) (defScope s_bits_for) .none kV1 dc1 pm1 an1 cd1 ct1), sl1⟩) (c1 : PySem.W.codeIn K cd1 "bits_for" = true) (k1 : PySem.W.keepIn K (.ref f1) = true)
{f2 : Addr} {od2 an2 : Option Addr} {sl2 : Array (Option Value)} {oc2 kV2 dc2 pm2 cd2 ct2 : Value}
    (a2 : PySem.W.nsIn K mainGlobals "with_sign" = some (some (.ref f2))) (l2 : K.lookup f2 = some ⟨oc2, od2, .func (PySem.W.fnOf "with_sign" "with_sign" (defArgs s_with_sign) (defBody s_with_sign) (defScope s_with_sign) .none kV2 dc2 pm2 an2 cd2 ct2), sl2⟩) (c2 : PySem.W.codeIn K cd2 "with_sign" = true) (k2 : PySem.W.keepIn K (.ref f2) = true)
{f3 : Addr} {od3 an3 : Option Addr} {sl3 : Array (Option Value)} {oc3 kV3 dc3 pm3 cd3 ct3 : Value}
    (a3 : PySem.W.nsIn K mainGlobals "is_whole" = some (some (.ref f3))) (l3 : K.lookup f3 = some ⟨oc3, od3, .func (PySem.W.fnOf "is_whole" "is_whole" (defArgs s_is_whole) (defBody s_is_whole) (defScope s_is_whole) .none kV3 dc3 pm3 an3 cd3 ct3), sl3⟩) (c3 : PySem.W.codeIn K cd3 "is_whole" = true) (k3 : PySem.W.keepIn K (.ref f3) = true)
{f4 : Addr} {od4 an4 : Option Addr} {sl4 : Array (Option Value)} {oc4 kV4 dc4 pm4 cd4 ct4 : Value}
    (a4 : PySem.W.nsIn K mainGlobals "is_upto" = some (some (.ref f4))) (l4 : K.lookup f4 = some ⟨oc4, od4, .func (PySem.W.fnOf "is_upto" "is_upto" (defArgs s_is_upto) (defBody s_is_upto) (defScope s_is_upto) .none kV4 dc4 pm4 an4 cd4 ct4), sl4⟩) (c4 : PySem.W.codeIn K cd4 "is_upto" = true) (k4 : PySem.W.keepIn K (.ref f4) = true)
{f5 : Addr} {od5 an5 : Option Addr} {sl5 : Array (Option Value)} {oc5 kV5 dc5 pm5 cd5 ct5 : Value}
    (a5 : PySem.W.nsIn K mainGlobals "are_holds" = some (some (.ref f5))) (l5 : K.lookup f5 = some ⟨oc5, od5, .func (PySem.W.fnOf "are_holds" "are_holds" (defArgs s_are_holds) (defBody s_are_holds) (defScope s_are_holds) .none kV5 dc5 pm5 an5 cd5 ct5), sl5⟩) (c5 : PySem.W.codeIn K cd5 "are_holds" = true) (k5 : PySem.W.keepIn K (.ref f5) = true)
{f6 : Addr} {od6 an6 : Option Addr} {sl6 : Array (Option Value)} {oc6 kV6 dc6 pm6 cd6 ct6 : Value}
    (a6 : PySem.W.nsIn K mainGlobals "look_at_holds" = some (some (.ref f6))) (l6 : K.lookup f6 = some ⟨oc6, od6, .func (PySem.W.fnOf "look_at_holds" "look_at_holds" (defArgs s_look_at_holds) (defBody s_look_at_holds) (defScope s_look_at_holds) .none kV6 dc6 pm6 an6 cd6 ct6), sl6⟩) (c6 : PySem.W.codeIn K cd6 "look_at_holds" = true) (k6 : PySem.W.keepIn K (.ref f6) = true)
{f7 : Addr} {od7 an7 : Option Addr} {sl7 : Array (Option Value)} {oc7 kV7 dc7 pm7 cd7 ct7 : Value}
    (a7 : PySem.W.nsIn K mainGlobals "held_net" = some (some (.ref f7))) (l7 : K.lookup f7 = some ⟨oc7, od7, .func (PySem.W.fnOf "held_net" "held_net" (defArgs s_held_net) (defBody s_held_net) (defScope s_held_net) .none kV7 dc7 pm7 an7 cd7 ct7), sl7⟩) (c7 : PySem.W.codeIn K cd7 "held_net" = true) (k7 : PySem.W.keepIn K (.ref f7) = true)
{f8 : Addr} {od8 an8 : Option Addr} {sl8 : Array (Option Value)} {oc8 kV8 dc8 pm8 cd8 ct8 : Value}
    (a8 : PySem.W.nsIn K mainGlobals "frame_of" = some (some (.ref f8))) (l8 : K.lookup f8 = some ⟨oc8, od8, .func (PySem.W.fnOf "frame_of" "frame_of" (defArgs s_frame_of) (defBody s_frame_of) (defScope s_frame_of) .none kV8 dc8 pm8 an8 cd8 ct8), sl8⟩) (c8 : PySem.W.codeIn K cd8 "frame_of" = true) (k8 : PySem.W.keepIn K (.ref f8) = true)
{f9 : Addr} {od9 an9 : Option Addr} {sl9 : Array (Option Value)} {oc9 kV9 dc9 pm9 cd9 ct9 : Value}
    (a9 : PySem.W.nsIn K mainGlobals "bit_by" = some (some (.ref f9))) (l9 : K.lookup f9 = some ⟨oc9, od9, .func (PySem.W.fnOf "bit_by" "bit_by" (defArgs s_bit_by) (defBody s_bit_by) (defScope s_bit_by) .none kV9 dc9 pm9 an9 cd9 ct9), sl9⟩) (c9 : PySem.W.codeIn K cd9 "bit_by" = true) (k9 : PySem.W.keepIn K (.ref f9) = true)
{f10 : Addr} {od10 an10 : Option Addr} {sl10 : Array (Option Value)} {oc10 kV10 dc10 pm10 cd10 ct10 : Value}
    (a10 : PySem.W.nsIn K mainGlobals "shown_pour" = some (some (.ref f10))) (l10 : K.lookup f10 = some ⟨oc10, od10, .func (PySem.W.fnOf "shown_pour" "shown_pour" (defArgs s_shown_pour) (defBody s_shown_pour) (defScope s_shown_pour) .none kV10 dc10 pm10 an10 cd10 ct10), sl10⟩) (c10 : PySem.W.codeIn K cd10 "shown_pour" = true) (k10 : PySem.W.keepIn K (.ref f10) = true)
{f11 : Addr} {od11 an11 : Option Addr} {sl11 : Array (Option Value)} {oc11 kV11 dc11 pm11 cd11 ct11 : Value}
    (a11 : PySem.W.nsIn K mainGlobals "_law_cell" = some (some (.ref f11))) (l11 : K.lookup f11 = some ⟨oc11, od11, .func (PySem.W.fnOf "_law_cell" "_law_cell" (defArgs s__law_cell) (defBody s__law_cell) (defScope s__law_cell) .none kV11 dc11 pm11 an11 cd11 ct11), sl11⟩) (c11 : PySem.W.codeIn K cd11 "_law_cell" = true) (k11 : PySem.W.keepIn K (.ref f11) = true)
{f12 : Addr} {od12 an12 : Option Addr} {sl12 : Array (Option Value)} {oc12 kV12 dc12 pm12 cd12 ct12 : Value}
    (a12 : PySem.W.nsIn K mainGlobals "_law_mix" = some (some (.ref f12))) (l12 : K.lookup f12 = some ⟨oc12, od12, .func (PySem.W.fnOf "_law_mix" "_law_mix" (defArgs s__law_mix) (defBody s__law_mix) (defScope s__law_mix) .none kV12 dc12 pm12 an12 cd12 ct12), sl12⟩) (c12 : PySem.W.codeIn K cd12 "_law_mix" = true) (k12 : PySem.W.keepIn K (.ref f12) = true)
{f13 : Addr} {od13 an13 : Option Addr} {sl13 : Array (Option Value)} {oc13 kV13 dc13 pm13 cd13 ct13 : Value}
    (a13 : PySem.W.nsIn K mainGlobals "_law_box" = some (some (.ref f13))) (l13 : K.lookup f13 = some ⟨oc13, od13, .func (PySem.W.fnOf "_law_box" "_law_box" (defArgs s__law_box) (defBody s__law_box) (defScope s__law_box) .none kV13 dc13 pm13 an13 cd13 ct13), sl13⟩) (c13 : PySem.W.codeIn K cd13 "_law_box" = true) (k13 : PySem.W.keepIn K (.ref f13) = true)
{f14 : Addr} {od14 an14 : Option Addr} {sl14 : Array (Option Value)} {oc14 kV14 dc14 pm14 cd14 ct14 : Value}
    (a14 : PySem.W.nsIn K mainGlobals "_law_take" = some (some (.ref f14))) (l14 : K.lookup f14 = some ⟨oc14, od14, .func (PySem.W.fnOf "_law_take" "_law_take" (defArgs s__law_take) (defBody s__law_take) (defScope s__law_take) .none kV14 dc14 pm14 an14 cd14 ct14), sl14⟩) (c14 : PySem.W.codeIn K cd14 "_law_take" = true) (k14 : PySem.W.keepIn K (.ref f14) = true)
{f15 : Addr} {od15 an15 : Option Addr} {sl15 : Array (Option Value)} {oc15 kV15 dc15 pm15 cd15 ct15 : Value}
    (a15 : PySem.W.nsIn K mainGlobals "_law_rule" = some (some (.ref f15))) (l15 : K.lookup f15 = some ⟨oc15, od15, .func (PySem.W.fnOf "_law_rule" "_law_rule" (defArgs s__law_rule) (defBody s__law_rule) (defScope s__law_rule) .none kV15 dc15 pm15 an15 cd15 ct15), sl15⟩) (c15 : PySem.W.codeIn K cd15 "_law_rule" = true) (k15 : PySem.W.keepIn K (.ref f15) = true)
{f16 : Addr} {od16 an16 : Option Addr} {sl16 : Array (Option Value)} {oc16 kV16 dc16 pm16 cd16 ct16 : Value}
    (a16 : PySem.W.nsIn K mainGlobals "_law_net" = some (some (.ref f16))) (l16 : K.lookup f16 = some ⟨oc16, od16, .func (PySem.W.fnOf "_law_net" "_law_net" (defArgs s__law_net) (defBody s__law_net) (defScope s__law_net) .none kV16 dc16 pm16 an16 cd16 ct16), sl16⟩) (c16 : PySem.W.codeIn K cd16 "_law_net" = true) (k16 : PySem.W.keepIn K (.ref f16) = true)
{f17 : Addr} {od17 an17 : Option Addr} {sl17 : Array (Option Value)} {oc17 kV17 dc17 pm17 cd17 ct17 : Value}
    (a17 : PySem.W.nsIn K mainGlobals "_law_stands" = some (some (.ref f17))) (l17 : K.lookup f17 = some ⟨oc17, od17, .func (PySem.W.fnOf "_law_stands" "_law_stands" (defArgs s__law_stands) (defBody s__law_stands) (defScope s__law_stands) .none kV17 dc17 pm17 an17 cd17 ct17), sl17⟩) (c17 : PySem.W.codeIn K cd17 "_law_stands" = true) (k17 : PySem.W.keepIn K (.ref f17) = true)
{f18 : Addr} {od18 an18 : Option Addr} {sl18 : Array (Option Value)} {oc18 kV18 dc18 pm18 cd18 ct18 : Value}
    (a18 : PySem.W.nsIn K mainGlobals "_law_ought" = some (some (.ref f18))) (l18 : K.lookup f18 = some ⟨oc18, od18, .func (PySem.W.fnOf "_law_ought" "_law_ought" (defArgs s__law_ought) (defBody s__law_ought) (defScope s__law_ought) .none kV18 dc18 pm18 an18 cd18 ct18), sl18⟩) (c18 : PySem.W.codeIn K cd18 "_law_ought" = true) (k18 : PySem.W.keepIn K (.ref f18) = true)
{f19 : Addr} {od19 an19 : Option Addr} {sl19 : Array (Option Value)} {oc19 kV19 dc19 pm19 cd19 ct19 : Value}
    (a19 : PySem.W.nsIn K mainGlobals "_law_drawn_stand" = some (some (.ref f19))) (l19 : K.lookup f19 = some ⟨oc19, od19, .func (PySem.W.fnOf "_law_drawn_stand" "_law_drawn_stand" (defArgs s__law_drawn_stand) (defBody s__law_drawn_stand) (defScope s__law_drawn_stand) .none kV19 dc19 pm19 an19 cd19 ct19), sl19⟩) (c19 : PySem.W.codeIn K cd19 "_law_drawn_stand" = true) (k19 : PySem.W.keepIn K (.ref f19) = true)
{f20 : Addr} {od20 an20 : Option Addr} {sl20 : Array (Option Value)} {oc20 kV20 dc20 pm20 cd20 ct20 : Value}
    (a20 : PySem.W.nsIn K mainGlobals "_law_odd" = some (some (.ref f20))) (l20 : K.lookup f20 = some ⟨oc20, od20, .func (PySem.W.fnOf "_law_odd" "_law_odd" (defArgs s__law_odd) (defBody s__law_odd) (defScope s__law_odd) .none kV20 dc20 pm20 an20 cd20 ct20), sl20⟩) (c20 : PySem.W.codeIn K cd20 "_law_odd" = true) (k20 : PySem.W.keepIn K (.ref f20) = true)
{f21 : Addr} {od21 an21 : Option Addr} {sl21 : Array (Option Value)} {oc21 kV21 dc21 pm21 cd21 ct21 : Value}
    (a21 : PySem.W.nsIn K mainGlobals "_law_in" = some (some (.ref f21))) (l21 : K.lookup f21 = some ⟨oc21, od21, .func (PySem.W.fnOf "_law_in" "_law_in" (defArgs s__law_in) (defBody s__law_in) (defScope s__law_in) .none kV21 dc21 pm21 an21 cd21 ct21), sl21⟩) (c21 : PySem.W.codeIn K cd21 "_law_in" = true) (k21 : PySem.W.keepIn K (.ref f21) = true)
{f22 : Addr} {od22 an22 : Option Addr} {sl22 : Array (Option Value)} {oc22 kV22 dc22 pm22 cd22 ct22 : Value}
    (a22 : PySem.W.nsIn K mainGlobals "_law_inside" = some (some (.ref f22))) (l22 : K.lookup f22 = some ⟨oc22, od22, .func (PySem.W.fnOf "_law_inside" "_law_inside" (defArgs s__law_inside) (defBody s__law_inside) (defScope s__law_inside) .none kV22 dc22 pm22 an22 cd22 ct22), sl22⟩) (c22 : PySem.W.codeIn K cd22 "_law_inside" = true) (k22 : PySem.W.keepIn K (.ref f22) = true)
{f23 : Addr} {od23 an23 : Option Addr} {sl23 : Array (Option Value)} {oc23 kV23 dc23 pm23 cd23 ct23 : Value}
    (a23 : PySem.W.nsIn K mainGlobals "_law_bits" = some (some (.ref f23))) (l23 : K.lookup f23 = some ⟨oc23, od23, .func (PySem.W.fnOf "_law_bits" "_law_bits" (defArgs s__law_bits) (defBody s__law_bits) (defScope s__law_bits) .none kV23 dc23 pm23 an23 cd23 ct23), sl23⟩) (c23 : PySem.W.codeIn K cd23 "_law_bits" = true) (k23 : PySem.W.keepIn K (.ref f23) = true)
{f24 : Addr} {od24 an24 : Option Addr} {sl24 : Array (Option Value)} {oc24 kV24 dc24 pm24 cd24 ct24 : Value}
    (a24 : PySem.W.nsIn K mainGlobals "_law_sign" = some (some (.ref f24))) (l24 : K.lookup f24 = some ⟨oc24, od24, .func (PySem.W.fnOf "_law_sign" "_law_sign" (defArgs s__law_sign) (defBody s__law_sign) (defScope s__law_sign) .none kV24 dc24 pm24 an24 cd24 ct24), sl24⟩) (c24 : PySem.W.codeIn K cd24 "_law_sign" = true) (k24 : PySem.W.keepIn K (.ref f24) = true)
{f25 : Addr} {od25 an25 : Option Addr} {sl25 : Array (Option Value)} {oc25 kV25 dc25 pm25 cd25 ct25 : Value}
    (a25 : PySem.W.nsIn K mainGlobals "_law_held" = some (some (.ref f25))) (l25 : K.lookup f25 = some ⟨oc25, od25, .func (PySem.W.fnOf "_law_held" "_law_held" (defArgs s__law_held) (defBody s__law_held) (defScope s__law_held) .none kV25 dc25 pm25 an25 cd25 ct25), sl25⟩) (c25 : PySem.W.codeIn K cd25 "_law_held" = true) (k25 : PySem.W.keepIn K (.ref f25) = true)
{f26 : Addr} {od26 an26 : Option Addr} {sl26 : Array (Option Value)} {oc26 kV26 dc26 pm26 cd26 ct26 : Value}
    (a26 : PySem.W.nsIn K mainGlobals "_law_poured" = some (some (.ref f26))) (l26 : K.lookup f26 = some ⟨oc26, od26, .func (PySem.W.fnOf "_law_poured" "_law_poured" (defArgs s__law_poured) (defBody s__law_poured) (defScope s__law_poured) .none kV26 dc26 pm26 an26 cd26 ct26), sl26⟩) (c26 : PySem.W.codeIn K cd26 "_law_poured" = true) (k26 : PySem.W.keepIn K (.ref f26) = true)
{f27 : Addr} {od27 an27 : Option Addr} {sl27 : Array (Option Value)} {oc27 kV27 dc27 pm27 cd27 ct27 : Value}
    (a27 : PySem.W.nsIn K mainGlobals "_law_upto" = some (some (.ref f27))) (l27 : K.lookup f27 = some ⟨oc27, od27, .func (PySem.W.fnOf "_law_upto" "_law_upto" (defArgs s__law_upto) (defBody s__law_upto) (defScope s__law_upto) .none kV27 dc27 pm27 an27 cd27 ct27), sl27⟩) (c27 : PySem.W.codeIn K cd27 "_law_upto" = true) (k27 : PySem.W.keepIn K (.ref f27) = true)
{f28 : Addr} {od28 an28 : Option Addr} {sl28 : Array (Option Value)} {oc28 kV28 dc28 pm28 cd28 ct28 : Value}
    (a28 : PySem.W.nsIn K mainGlobals "_law_places" = some (some (.ref f28))) (l28 : K.lookup f28 = some ⟨oc28, od28, .func (PySem.W.fnOf "_law_places" "_law_places" (defArgs s__law_places) (defBody s__law_places) (defScope s__law_places) .none kV28 dc28 pm28 an28 cd28 ct28), sl28⟩) (c28 : PySem.W.codeIn K cd28 "_law_places" = true) (k28 : PySem.W.keepIn K (.ref f28) = true)
{f29 : Addr} {od29 an29 : Option Addr} {sl29 : Array (Option Value)} {oc29 kV29 dc29 pm29 cd29 ct29 : Value}
    (a29 : PySem.W.nsIn K mainGlobals "_law_row_bit" = some (some (.ref f29))) (l29 : K.lookup f29 = some ⟨oc29, od29, .func (PySem.W.fnOf "_law_row_bit" "_law_row_bit" (defArgs s__law_row_bit) (defBody s__law_row_bit) (defScope s__law_row_bit) .none kV29 dc29 pm29 an29 cd29 ct29), sl29⟩) (c29 : PySem.W.codeIn K cd29 "_law_row_bit" = true) (k29 : PySem.W.keepIn K (.ref f29) = true)
{f30 : Addr} {od30 an30 : Option Addr} {sl30 : Array (Option Value)} {oc30 kV30 dc30 pm30 cd30 ct30 : Value}
    (a30 : PySem.W.nsIn K mainGlobals "_law_pour_right" = some (some (.ref f30))) (l30 : K.lookup f30 = some ⟨oc30, od30, .func (PySem.W.fnOf "_law_pour_right" "_law_pour_right" (defArgs s__law_pour_right) (defBody s__law_pour_right) (defScope s__law_pour_right) .none kV30 dc30 pm30 an30 cd30 ct30), sl30⟩) (c30 : PySem.W.codeIn K cd30 "_law_pour_right" = true) (k30 : PySem.W.keepIn K (.ref f30) = true)
{f31 : Addr} {od31 an31 : Option Addr} {sl31 : Array (Option Value)} {oc31 kV31 dc31 pm31 cd31 ct31 : Value}
    (a31 : PySem.W.nsIn K mainGlobals "_law_settling" = some (some (.ref f31))) (l31 : K.lookup f31 = some ⟨oc31, od31, .func (PySem.W.fnOf "_law_settling" "_law_settling" (defArgs s__law_settling) (defBody s__law_settling) (defScope s__law_settling) .none kV31 dc31 pm31 an31 cd31 ct31), sl31⟩) (c31 : PySem.W.codeIn K cd31 "_law_settling" = true) (k31 : PySem.W.keepIn K (.ref f31) = true)
{f32 : Addr} {od32 an32 : Option Addr} {sl32 : Array (Option Value)} {oc32 kV32 dc32 pm32 cd32 ct32 : Value}
    (a32 : PySem.W.nsIn K mainGlobals "_law_paper" = some (some (.ref f32))) (l32 : K.lookup f32 = some ⟨oc32, od32, .func (PySem.W.fnOf "_law_paper" "_law_paper" (defArgs s__law_paper) (defBody s__law_paper) (defScope s__law_paper) .none kV32 dc32 pm32 an32 cd32 ct32), sl32⟩) (c32 : PySem.W.codeIn K cd32 "_law_paper" = true) (k32 : PySem.W.keepIn K (.ref f32) = true)
{f33 : Addr} {od33 an33 : Option Addr} {sl33 : Array (Option Value)} {oc33 kV33 dc33 pm33 cd33 ct33 : Value}
    (a33 : PySem.W.nsIn K mainGlobals "_law_other" = some (some (.ref f33))) (l33 : K.lookup f33 = some ⟨oc33, od33, .func (PySem.W.fnOf "_law_other" "_law_other" (defArgs s__law_other) (defBody s__law_other) (defScope s__law_other) .none kV33 dc33 pm33 an33 cd33 ct33), sl33⟩) (c33 : PySem.W.codeIn K cd33 "_law_other" = true) (k33 : PySem.W.keepIn K (.ref f33) = true)
{f34 : Addr} {od34 an34 : Option Addr} {sl34 : Array (Option Value)} {oc34 kV34 dc34 pm34 cd34 ct34 : Value}
    (a34 : PySem.W.nsIn K mainGlobals "law" = some (some (.ref f34))) (l34 : K.lookup f34 = some ⟨oc34, od34, .func (PySem.W.fnOf "law" "law" (defArgs s_law) (defBody s_law) (defScope s_law) .none kV34 dc34 pm34 an34 cd34 ct34), sl34⟩) (c34 : PySem.W.codeIn K cd34 "law" = true) (k34 : PySem.W.keepIn K (.ref f34) = true)
    {C0 : Addr} (x0 : PySem.W.nsIn K mainGlobals "NoHolds" = some (some (.ref C0))) (xe0 : PySem.W.excIn K C0 Y.veB "ValueError.__new__" = true) (xk0 : PySem.W.keepIn K (.ref C0) = true) (xb0 : PySem.W.subIn K (.ref C0) (.type "BaseException") = some true) (xt0 : PySem.W.typeIn K (.ref C0) = some (.type "type"))
    (z0 : PySem.W.nsIn K mainGlobals "all" = some none)
    (z1 : PySem.W.nsIn K mainGlobals "bool" = some none)
    (z2 : PySem.W.nsIn K mainGlobals "dict" = some none)
    (z3 : PySem.W.nsIn K mainGlobals "divmod" = some none)
    (z4 : PySem.W.nsIn K mainGlobals "enumerate" = some none)
    (z5 : PySem.W.nsIn K mainGlobals "int" = some none)
    (z6 : PySem.W.nsIn K mainGlobals "isinstance" = some none)
    (z7 : PySem.W.nsIn K mainGlobals "len" = some none)
    (z8 : PySem.W.nsIn K mainGlobals "list" = some none)
    (z9 : PySem.W.nsIn K mainGlobals "max" = some none)
    (z10 : PySem.W.nsIn K mainGlobals "min" = some none)
    (z11 : PySem.W.nsIn K mainGlobals "range" = some none)
    (z12 : PySem.W.nsIn K mainGlobals "set" = some none)
    (z13 : PySem.W.nsIn K mainGlobals "sorted" = some none)
    (z14 : PySem.W.nsIn K mainGlobals "str" = some none)
    (z15 : PySem.W.nsIn K mainGlobals "sum" = some none)
    (z16 : PySem.W.nsIn K mainGlobals "tuple" = some none)
    (z17 : PySem.W.nsIn K mainGlobals "zip" = some none)
    : ∃ fd : FuncData, (∀ (s : Shared) (u : Value), BindsTo s fd ⟨[u], []⟩ [("script", u)]) ∧ ∀ base : Heap, K.In base → base.Ns mainGlobals mg → FnOk l.prog w K mg base (L2N.CX l.prog w) 7 fa fd ["script"] (spL K 63) :=
  have T : Txt K mg := ⟨def_mk X G a0 l0 c0 k0, def_mk X G a1 l1 c1 k1, def_mk X G a2 l2 c2 k2, def_mk X G a3 l3 c3 k3, def_mk X G a4 l4 c4 k4, def_mk X G a5 l5 c5 k5, def_mk X G a6 l6 c6 k6, def_mk X G a7 l7 c7 k7, def_mk X G a8 l8 c8 k8, def_mk X G a9 l9 c9 k9, def_mk X G a10 l10 c10 k10, def_mk X G a11 l11 c11 k11, def_mk X G a12 l12 c12 k12, def_mk X G a13 l13 c13 k13, def_mk X G a14 l14 c14 k14, def_mk X G a15 l15 c15 k15, def_mk X G a16 l16 c16 k16, def_mk X G a17 l17 c17 k17, def_mk X G a18 l18 c18 k18, def_mk X G a19 l19 c19 k19, def_mk X G a20 l20 c20 k20, def_mk X G a21 l21 c21 k21, def_mk X G a22 l22 c22 k22, def_mk X G a23 l23 c23 k23, def_mk X G a24 l24 c24 k24, def_mk X G a25 l25 c25 k25, def_mk X G a26 l26 c26 k26, def_mk X G a27 l27 c27 k27, def_mk X G a28 l28 c28 k28, def_mk X G a29 l29 c29 k29, def_mk X G a30 l30 c30 k30, def_mk X G a31 l31 c31 k31, def_mk X G a32 l32 c32 k32, def_mk X G a33 l33 c33 k33, ⟨⟨_, PySem.W.mg_of X G x0, xe0, xk0, xb0, xt0⟩⟩, PySem.W.mg_none_of X G z0, PySem.W.mg_none_of X G z1, PySem.W.mg_none_of X G z2, PySem.W.mg_none_of X G z3, PySem.W.mg_none_of X G z4, PySem.W.mg_none_of X G z5, PySem.W.mg_none_of X G z6, PySem.W.mg_none_of X G z7, PySem.W.mg_none_of X G z8, PySem.W.mg_none_of X G z9, PySem.W.mg_none_of X G z10, PySem.W.mg_none_of X G z11, PySem.W.mg_none_of X G z12, PySem.W.mg_none_of X G z13, PySem.W.mg_none_of X G z14, PySem.W.mg_none_of X G z15, PySem.W.mg_none_of X G z16, PySem.W.mg_none_of X G z17⟩
  law_all X G hfa hg (fun base {f} {fd} F => ok_law T F) (fun _ _ _ _ _ _ s u => .of_eq rfl) a34 l34 c34 k34
end K76
open PySem PySem.W PyProof.Rows
set_option maxHeartbeats 0 in
theorem PySem.Challenge.cw_switchnets_k76_pour_papers_holds : PySem.Challenge.rw_switchnets_k76_pour_papers.Holds := by
  w_on; o_law; k_head; (case hw => w_witness2)
  k_fill
  refine L2.walk_ofB (l := PySem.Challenge.rw_switchnets_k76_pour_papers) (n := 63) (k := 7) (x := "script") (CX := fun w => L2N.CX PySem.Challenge.rw_switchnets_k76_pour_papers.prog w) (sp := fun w => Y.spL _ 63) rfl (by decide) rfl ⟨rfl, by decide, by decide⟩ (fun w h Z => PySem.W.kIn_of Z) ?F (fun _ _ a ns hl hb _ hS => ⟨a, ns, rfl, hS, hl, hb, fun _ => rfl⟩) (fun _ _ _ _ _ h => Y.cx_none h)
  case F =>
    intro w mg fa h KX G hmg
    refine' K76.all KX G hmg K76.good_law ?a0 ?l0 ?c0 ?k0 ?a1 ?l1 ?c1 ?k1 ?a2 ?l2 ?c2 ?k2 ?a3 ?l3 ?c3 ?k3 ?a4 ?l4 ?c4 ?k4 ?a5 ?l5 ?c5 ?k5 ?a6 ?l6 ?c6 ?k6 ?a7 ?l7 ?c7 ?k7 ?a8 ?l8 ?c8 ?k8 ?a9 ?l9 ?c9 ?k9 ?a10 ?l10 ?c10 ?k10 ?a11 ?l11 ?c11 ?k11 ?a12 ?l12 ?c12 ?k12 ?a13 ?l13 ?c13 ?k13 ?a14 ?l14 ?c14 ?k14 ?a15 ?l15 ?c15 ?k15 ?a16 ?l16 ?c16 ?k16 ?a17 ?l17 ?c17 ?k17 ?a18 ?l18 ?c18 ?k18 ?a19 ?l19 ?c19 ?k19 ?a20 ?l20 ?c20 ?k20 ?a21 ?l21 ?c21 ?k21 ?a22 ?l22 ?c22 ?k22 ?a23 ?l23 ?c23 ?k23 ?a24 ?l24 ?c24 ?k24 ?a25 ?l25 ?c25 ?k25 ?a26 ?l26 ?c26 ?k26 ?a27 ?l27 ?c27 ?k27 ?a28 ?l28 ?c28 ?k28 ?a29 ?l29 ?c29 ?k29 ?a30 ?l30 ?c30 ?k30 ?a31 ?l31 ?c31 ?k31 ?a32 ?l32 ?c32 ?k32 ?a33 ?l33 ?c33 ?k33 ?a34 ?l34 ?c34 ?k34 ?x0 ?xe0 ?xk0 ?xb0 ?xt0 ?z0 ?z1 ?z2 ?z3 ?z4 ?z5 ?z6 ?z7 ?z8 ?z9 ?z10 ?z11 ?z12 ?z13 ?z14 ?z15 ?z16 ?z17
    (case a0 => k_is); (case l0 => k_is); (case c0 => k_is); (case k0 => k_is); (case a1 => k_is); (case l1 => k_is); (case c1 => k_is); (case k1 => k_is); (case a2 => k_is); (case l2 => k_is); (case c2 => k_is); (case k2 => k_is); (case a3 => k_is); (case l3 => k_is); (case c3 => k_is); (case k3 => k_is); (case a4 => k_is); (case l4 => k_is); (case c4 => k_is); (case k4 => k_is); (case a5 => k_is); (case l5 => k_is); (case c5 => k_is); (case k5 => k_is); (case a6 => k_is); (case l6 => k_is); (case c6 => k_is); (case k6 => k_is); (case a7 => k_is); (case l7 => k_is); (case c7 => k_is); (case k7 => k_is); (case a8 => k_is); (case l8 => k_is); (case c8 => k_is); (case k8 => k_is); (case a9 => k_is); (case l9 => k_is); (case c9 => k_is); (case k9 => k_is); (case a10 => k_is); (case l10 => k_is); (case c10 => k_is); (case k10 => k_is); (case a11 => k_is); (case l11 => k_is); (case c11 => k_is); (case k11 => k_is); (case a12 => k_is); (case l12 => k_is); (case c12 => k_is); (case k12 => k_is); (case a13 => k_is); (case l13 => k_is); (case c13 => k_is); (case k13 => k_is); (case a14 => k_is); (case l14 => k_is); (case c14 => k_is); (case k14 => k_is); (case a15 => k_is); (case l15 => k_is); (case c15 => k_is); (case k15 => k_is); (case a16 => k_is); (case l16 => k_is); (case c16 => k_is); (case k16 => k_is); (case a17 => k_is); (case l17 => k_is); (case c17 => k_is); (case k17 => k_is); (case a18 => k_is); (case l18 => k_is); (case c18 => k_is); (case k18 => k_is); (case a19 => k_is); (case l19 => k_is); (case c19 => k_is); (case k19 => k_is); (case a20 => k_is); (case l20 => k_is); (case c20 => k_is); (case k20 => k_is); (case a21 => k_is); (case l21 => k_is); (case c21 => k_is); (case k21 => k_is); (case a22 => k_is); (case l22 => k_is); (case c22 => k_is); (case k22 => k_is); (case a23 => k_is); (case l23 => k_is); (case c23 => k_is); (case k23 => k_is); (case a24 => k_is); (case l24 => k_is); (case c24 => k_is); (case k24 => k_is); (case a25 => k_is); (case l25 => k_is); (case c25 => k_is); (case k25 => k_is); (case a26 => k_is); (case l26 => k_is); (case c26 => k_is); (case k26 => k_is); (case a27 => k_is); (case l27 => k_is); (case c27 => k_is); (case k27 => k_is); (case a28 => k_is); (case l28 => k_is); (case c28 => k_is); (case k28 => k_is); (case a29 => k_is); (case l29 => k_is); (case c29 => k_is); (case k29 => k_is); (case a30 => k_is); (case l30 => k_is); (case c30 => k_is); (case k30 => k_is); (case a31 => k_is); (case l31 => k_is); (case c31 => k_is); (case k31 => k_is); (case a32 => k_is); (case l32 => k_is); (case c32 => k_is); (case k32 => k_is); (case a33 => k_is); (case l33 => k_is); (case c33 => k_is); (case k33 => k_is); (case a34 => k_is); (case l34 => k_is); (case c34 => k_is); (case k34 => k_is); (case x0 => k_is); (case xe0 => k_exc); (case xk0 => k_is); (case xb0 => k_is); (case xt0 => k_is); (case z0 => k_is); (case z1 => k_is); (case z2 => k_is); (case z3 => k_is); (case z4 => k_is); (case z5 => k_is); (case z6 => k_is); (case z7 => k_is); (case z8 => k_is); (case z9 => k_is); (case z10 => k_is); (case z11 => k_is); (case z12 => k_is); (case z13 => k_is); (case z14 => k_is); (case z15 => k_is); (case z16 => k_is); (case z17 => k_is)

