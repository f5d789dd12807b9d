import PyProof.Rows.All
import Wide.All
import OpenK.AllK
import Wide.FinOn
import HandS.ForMost
import HandS.TupAny
import HandS.Wide
import HandS.IsInst
import HandS.Deep
import HandS.Flow
import HandS.Lambda
import HandS.TupMul
import HandS.TupLe
import HandS.TupLen
import HandS.SortOrd
import HandS.SortInts
import HandS.Walk
import HandS.Zip
import HandS.ForExc
import HandS.EndBits
import HandS.ExcCtx
import HandS.HotCalls
import HandS.Conv
import HandS.SortRule
import KE.KSortTup
import PyProof.Rows.SortShell
import PyProof.Rows.SortShellAny
import HandS.Text
import PyProof.AutoSeq1
import KE.GoesZip
import KE.GoesMore
import KE.GoesEnum
import HandS.ExcIs
import HandS.SetFor
import HandS.Strs
import HandS.Replace
import KE.KRevSl
import HandS.Dict
import HandS.Iter
import KE.KDictWalk
import KE.KEqDict
import KE.KDictSum
import KE.KDictCopyH
import HandS.More
import KE.SortData
import KE.KDictDisplayH
import HandS.SetKeys
import PyProof.WalksMore
import PyProof.SumAny
import KE.KDictZip
import KE.KDictItemsList
import HandS.ListItems
import KE.DataMinMax
import KE.KDictKeyed
import KE.KDictList
import KE.KTupSum
import HandS.Rev
import HandS.TupSets
import KE.KDictPairs
import KE.KIndexOf
import HandS.Codes
import KE.KSortRegSt
import KE.KxWritten
import HandS.EndTab
import KE.SortKeyHeap
import PyProof.Rows.Tup
import PyProof.FactsAll.set_2
import HandS.TryOnly
import HandS.StrMore
import PyProof.Rows.StrRev
import HandS.Comp
import HandS.ExcInit
import HandS.ExcField
import KE.KExcIs
import HandS.SetTxt0
import PySem.Challenge.RW_switchnets_k06_texts_refused
set_option Elab.async false
set_option linter.all false
set_option maxRecDepth 100000
namespace Y
open PySem PySem.Spec PyProof.Rows L2
abbrev St := L2.St

/-- data at any depth; lists, dicts by what they hold; arg: the script; ftu: a tuple whose object is known to have no dict of its own; tab: a code object's table, its lambdas' name -/
inductive D where
  | non | bl (b : Bool) | int (i : Int) | str (x : Str) | tup (xs : List D) | lst (xs : List D)
  | arg (ns : List Int) | dik (ks : List Key) (ds : List D) | dit (ks : List (List Key)) (ds : List D) | ftu (xs : List D) | tab (p : Addr) (q : Str)
instance : Inhabited D := ⟨.non⟩
/-- a way of a run: an end, an exception of the program's own, anything else -/
inductive R (α : Type) where
  | ok (a : α) | er (c : Str) (ds : List D) | stk
@[simp] def R.bind {α β : Type} : R α → (α → R β) → R β
  | .ok a, f => f a
  | .er c ds, _ => .er c ds
  | .stk, _ => .stk
instance : Monad R where
  pure := .ok
  bind := R.bind
@[simp] theorem R.bind_ok {α β : Type} (a : α) (f : α → R β) : (R.ok a >>= f) = f a := id rfl
@[simp] theorem R.bind_stk {α β : Type} (f : α → R β) : ((R.stk : R α) >>= f) = .stk := id rfl
@[simp] theorem R.bind_er {α β : Type} (c : Str) (ds : List D) (f : α → R β) : ((R.er c ds : R α) >>= f) = .er c ds := id rfl
@[simp] theorem R.pure_eq {α : Type} (a : α) : (pure a : R α) = .ok a := id rfl
/-- the names' data by slot -/
abbrev Env := List (Option D)
/-- what an expression hands on: new data, data, or the object of an own slot -/
inductive Hd where
  | fr (d : D) | vl (d : D) | ow (i : Nat)
abbrev EM := Env → R (Hd × Env)
def look (i : Nat) (ρ : Env) : R D := match ρ[i]? with
  | some (some d) => .ok d
  | _ => .stk
def Hd.d : Hd → Env → R D
  | .fr d, _ => .ok d
  | .vl d, _ => .ok d
  | .ow i, ρ => look i ρ
def Hd.v : Hd → R D
  | .fr d => .ok d
  | .vl d => .ok d
  | .ow _ => .stk
def D.isMu : D → Bool
  | .lst _ => true
  | .dik _ _ => true
  | .dit _ _ => true
  | .arg _ => true
  | .tab _ _ => true
  | _ => false

abbrev Pr := Addr → Prop
/-- the table at p -/
def TabP (H : Hp) (p : Addr) (q : Str) (a : Addr) : Prop := a = p ∧ LamX.TabS H a q
mutual
/-- v is d, over objects none of which is forbidden (tuples never change: they may be any) -/
def Rep (K : PySem.W.Frag) (H : Hp) : D → Pr → V → Prop
  | .non, _, v => v = .non
  | .bl b, _, v => v = .bl b
  | .int i, _, v => v = .int i
  | .str x, _, v => v = .str x
  | .tup ds, P, v => ∃ a vs, v = .ref a ∧ H a = some (.tup vs) ∧ Reps K H ds P vs
  | .ftu ds, P, v => ∃ a vs o, v = .ref a ∧ H a = some (.frz o (.tup vs)) ∧ o.dict = none ∧ Reps K H ds P vs
  | .tab p q, P, v => ∃ a, v = .ref a ∧ ¬ P a ∧ TabP H p q a
  | .lst ds, P, v => ∃ a vs, v = .ref a ∧ ¬ P a ∧ H a = some (.lst vs) ∧ Reps K H ds (fun b => P b ∨ b = a) vs
  | .arg ns, P, v => ∃ a, v = .ref a ∧ ((¬ P a ∧ Rd H a (.lst (ns.map V.int))) ∨ SqL K (fun _ => none) a (ns.map V.int))
  | .dik ks ds, P, v => ∃ a vs, v = .ref a ∧ ¬ P a ∧ ks.length = vs.length ∧ Rd H a (.dK (ks.zip vs)) ∧ Reps K H ds (fun b => P b ∨ b = a) vs
  | .dit ks ds, P, v => ∃ a vs, v = .ref a ∧ ¬ P a ∧ ks.length = vs.length ∧ Rd H a (.dT (ks.zip vs)) ∧ Reps K H ds (fun b => P b ∨ b = a) vs
def Reps (K : PySem.W.Frag) (H : Hp) : List D → Pr → List V → Prop
  | [], _, vs => vs = []
  | d :: ds, P, vs => ∃ v ws, vs = v :: ws ∧ Rep K H d P v ∧ Reps K H ds P ws
end
/-- the object itself may be forbidden, what it holds not -/
def RepW (K : PySem.W.Frag) (H : Hp) : D → Pr → V → Prop
  | .lst ds, P, v => ∃ a vs, v = .ref a ∧ H a = some (.lst vs) ∧ Reps K H ds P vs
  | .arg ns, P, v => ∃ a, v = .ref a ∧ SqL K H a (ns.map V.int)
  | .dik ks ds, P, v => ∃ a vs, v = .ref a ∧ ks.length = vs.length ∧ Rd H a (.dK (ks.zip vs)) ∧ Reps K H ds P vs
  | .dit ks ds, P, v => ∃ a vs, v = .ref a ∧ ks.length = vs.length ∧ Rd H a (.dT (ks.zip vs)) ∧ Reps K H ds P vs
  | .tab p q, P, v => ∃ a, v = .ref a ∧ TabP H p q a
  | d, P, v => Rep K H d P v
/-- an own slot's object: it may be written -/
def RepO (K : PySem.W.Frag) (H : Hp) : D → Pr → V → Prop
  | .lst ds, P, v => ∃ a vs, v = .ref a ∧ H a = some (.lst vs) ∧ Reps K H ds P vs
  | .dik ks ds, P, v => ∃ a vs, v = .ref a ∧ ks.length = vs.length ∧ H a = some (.dK (ks.zip vs)) ∧ Reps K H ds P vs
  | .dit ks ds, P, v => ∃ a vs, v = .ref a ∧ ks.length = vs.length ∧ H a = some (.dT (ks.zip vs)) ∧ Reps K H ds P vs
  | .non, _, v => v = .non
  | .bl b, _, v => v = .bl b
  | .int i, _, v => v = .int i
  | .str x, _, v => v = .str x
  | .tab p q, _, v => ∃ a, v = .ref a ∧ TabP H p q a
  | _, _, _ => False

/-- an object that may change (or a list, a dict that is locked) -/
def isMut : Option HO → Prop
  | some (.lst _) => True
  | some (.dK _) => True
  | some (.dT _) => True
  | some (.ins _ _ _) => True
  | some (.set _ _) => True
  | some (.frz _ (.lst _)) => True
  | some (.frz _ (.dK _)) => True
  | some (.frz _ (.dT _)) => True
  | some (.tbl _) => True
  | _ => False
theorem isMut.nt {H : Hp} {b : Addr} (h : isMut (H b)) {xs : List V} : ¬ Rd H b (.tup xs) := by
  rintro (e | ⟨o, e⟩) <;> (rw [e] at h; exact h)
theorem isMut.some {o : Option HO} (h : isMut o) : o ≠ none := by rintro rfl; exact h
theorem Rd.keep {H H' : Hp} {a : Addr} {u : HO} (r : Rd H a u) (k : ∀ o, H a = some o → H' a = some o) : Rd H' a u := by
  rcases r with e | ⟨o, e⟩
  · exact .inl (k _ e)
  · exact .inr ⟨o, k _ e⟩
theorem Rd.some {H : Hp} {a : Addr} {u : HO} (r : Rd H a u) : H a ≠ none := by
  rcases r with e | ⟨o, e⟩ <;> (rw [e]; intro z; cases z)

theorem TabP.ext {H H' : Hp} {p a : Addr} {q : Str} (t : TabP H p q a) (e : ∀ b o, H b = some o → H' b = some o) : TabP H' p q a := ⟨t.1, t.2.ext e⟩
theorem TabS.mono {H H' : Hp} {P : Pr} {p a : Addr} {q : Str} (hm : ∀ b, P b → isMut (H b)) (k : ∀ b o, H b = some o → ¬ P b → H' b = some o) (ka : ∀ o, H a = some o → H' a = some o) (t : TabP H p q a) : TabP H' p q a := by
  obtain ⟨e, ps, h1, h2, h3⟩ := t
  refine ⟨e, ps, ka _ h1, h2, fun pos cv hc => ?_⟩
  obtain ⟨c, e1, e2⟩ := h3 pos cv hc
  exact ⟨c, e1, k _ _ e2 fun z => by have := hm c z; rw [e2] at this; exact this⟩
section
variable {K : PySem.W.Frag} {H H' : Hp}
mutual
theorem Rep.mono : ∀ (d : D) {P P' : Pr} {v : V}, (∀ b, P b → isMut (H b)) → (∀ b o, H b = some o → ¬ P b → H' b = some o) → (∀ b, P' b → P b ∨ H b = none) → Rep K H d P v → Rep K H' d P' v
  | .non, _, _, _, _, _, _, h => by unfold Rep at h ⊢; exact h
  | .bl _, _, _, _, _, _, _, h => by unfold Rep at h ⊢; exact h
  | .int _, _, _, _, _, _, _, h => by unfold Rep at h ⊢; exact h
  | .str _, _, _, _, _, _, _, h => by unfold Rep at h ⊢; exact h
  | .tup ds, P, P', v, hm, k, hp, h => by
    unfold Rep at h ⊢
    obtain ⟨a, vs, rfl, ht, hr⟩ := h
    exact ⟨a, vs, rfl, k a _ ht fun z => (hm a z).nt (.inl ht), Reps.mono ds hm k hp hr⟩
  | .ftu ds, P, P', v, hm, k, hp, h => by
    unfold Rep at h ⊢
    obtain ⟨a, vs, o, rfl, ht, hd, hr⟩ := h
    exact ⟨a, vs, o, rfl, k a _ ht fun z => (hm a z).nt (.inr ⟨o, ht⟩), hd, Reps.mono ds hm k hp hr⟩
  | .tab p q, P, P', v, hm, k, hp, h => by
    unfold Rep at h ⊢
    obtain ⟨a, rfl, ha, ht⟩ := h
    refine ⟨a, rfl, fun z => ?_, TabS.mono hm k (fun o e => k a o e ha) ht⟩
    rcases hp a z with z | z
    · exact ha z
    · obtain ⟨_, ps, h1, _⟩ := ht
      rw [h1] at z; cases z
  | .lst ds, P, P', v, hm, k, hp, h => by
    unfold Rep at h ⊢
    obtain ⟨a, vs, rfl, ha, ht, hr⟩ := h
    refine ⟨a, vs, rfl, fun z => ?_, k a _ ht ha, Reps.mono ds (P := fun b => P b ∨ b = a) (fun b z => ?_) (fun b o e n => k b o e fun z => n (.inl z)) (fun b z => ?_) hr⟩
    · rcases hp a z with z | z
      · exact ha z
      · rw [ht] at z; cases z
    · rcases z with z | rfl
      · exact hm b z
      · rw [ht]; trivial
    · rcases z with z | z
      · rcases hp b z with z | z
        · exact .inl (.inl z)
        · exact .inr z
      · exact .inl (.inr z)
  | .arg ns, P, P', v, hm, k, hp, h => by
    unfold Rep at h ⊢
    obtain ⟨a, rfl, h⟩ := h
    refine ⟨a, rfl, ?_⟩
    rcases h with ⟨ha, ht⟩ | h
    · refine .inl ⟨fun z => ?_, Rd.keep ht fun o e => k a o e ha⟩
      rcases hp a z with z | z
      · exact ha z
      · exact Rd.some ht z
    · exact .inr h
  | .dik ks ds, P, P', v, hm, k, hp, h => by
    unfold Rep at h ⊢
    obtain ⟨a, vs, rfl, ha, hl, ht, hr⟩ := h
    refine ⟨a, vs, rfl, fun z => ?_, hl, Rd.keep ht fun o e => k a o e ha, Reps.mono ds (P := fun b => P b ∨ b = a) (fun b z => ?_) (fun b o e n => k b o e fun z => n (.inl z)) (fun b z => ?_) hr⟩
    · rcases hp a z with z | z
      · exact ha z
      · exact Rd.some ht z
    · rcases z with z | rfl
      · exact hm b z
      · rcases ht with e | ⟨o, e⟩ <;> (rw [e]; trivial)
    · rcases z with z | z
      · rcases hp b z with z | z
        · exact .inl (.inl z)
        · exact .inr z
      · exact .inl (.inr z)
  | .dit ks ds, P, P', v, hm, k, hp, h => by
    unfold Rep at h ⊢
    obtain ⟨a, vs, rfl, ha, hl, ht, hr⟩ := h
    refine ⟨a, vs, rfl, fun z => ?_, hl, Rd.keep ht fun o e => k a o e ha, Reps.mono ds (P := fun b => P b ∨ b = a) (fun b z => ?_) (fun b o e n => k b o e fun z => n (.inl z)) (fun b z => ?_) hr⟩
    · rcases hp a z with z | z
      · exact ha z
      · exact Rd.some ht z
    · rcases z with z | rfl
      · exact hm b z
      · rcases ht with e | ⟨o, e⟩ <;> (rw [e]; trivial)
    · rcases z with z | z
      · rcases hp b z with z | z
        · exact .inl (.inl z)
        · exact .inr z
      · exact .inl (.inr z)
theorem Reps.mono : ∀ (ds : List D) {P P' : Pr} {vs : List V}, (∀ b, P b → isMut (H b)) → (∀ b o, H b = some o → ¬ P b → H' b = some o) → (∀ b, P' b → P b ∨ H b = none) → Reps K H ds P vs → Reps K H' ds P' vs
  | [], _, _, _, _, _, _, h => by unfold Reps at h ⊢; exact h
  | d :: ds, P, P', vs, hm, k, hp, h => by
    unfold Reps at h ⊢
    obtain ⟨v, ws, rfl, h1, h2⟩ := h
    exact ⟨v, ws, rfl, Rep.mono d hm k hp h1, Reps.mono ds hm k hp h2⟩
end
theorem Reps.length : ∀ {ds : List D} {P : Pr} {vs : List V}, Reps K H ds P vs → vs.length = ds.length
  | [], _, _, h => by unfold Reps at h; subst h; rfl
  | d :: ds, P, vs, h => by
    unfold Reps at h
    obtain ⟨v, ws, rfl, _, h2⟩ := h
    rw [List.length_cons, List.length_cons, Reps.length h2]
theorem Reps.nil {P : Pr} : Reps K H [] P [] := by unfold Reps; rfl
theorem Reps.cons {d : D} {ds : List D} {P : Pr} {v : V} {vs : List V} (h : Rep K H d P v) (h2 : Reps K H ds P vs) : Reps K H (d :: ds) P (v :: vs) := by
  unfold Reps; exact ⟨v, vs, rfl, h, h2⟩
theorem Reps.nil_iff {P : Pr} {vs : List V} (h : Reps K H [] P vs) : vs = [] := by unfold Reps at h; exact h
theorem Reps.cons_iff {d : D} {ds : List D} {P : Pr} {vs : List V} (h : Reps K H (d :: ds) P vs) : ∃ v ws, vs = v :: ws ∧ Rep K H d P v ∧ Reps K H ds P ws := by unfold Reps at h; exact h
theorem Reps.get : ∀ {ds : List D} {P : Pr} {vs : List V} {i : Nat} {d : D}, Reps K H ds P vs → ds[i]? = some d → ∃ v, vs[i]? = some v ∧ Rep K H d P v
  | [], _, _, _, _, _, e => by simp at e
  | d :: ds, P, vs, 0, d', h, e => by
    obtain ⟨v, ws, rfl, h1, _⟩ := h.cons_iff
    simp at e; subst e
    exact ⟨v, rfl, h1⟩
  | d :: ds, P, vs, i + 1, d', h, e => by
    obtain ⟨v, ws, rfl, _, h2⟩ := h.cons_iff
    simpa using Reps.get h2 (by simpa using e)
theorem Reps.append : ∀ {ds es : List D} {P : Pr} {vs ws : List V}, Reps K H ds P vs → Reps K H es P ws → Reps K H (ds ++ es) P (vs ++ ws)
  | [], _, _, _, _, h, h2 => by rw [h.nil_iff]; exact h2
  | d :: ds, es, P, vs, ws, h, h2 => by
    obtain ⟨v, us, rfl, h1, h3⟩ := h.cons_iff
    exact Reps.cons h1 (Reps.append h3 h2)
/-- forbidding less -/
theorem Rep.less {d : D} {P P' : Pr} {v : V} (hm : ∀ b, P b → isMut (H b)) (h : Rep K H d P v) (hp : ∀ b, P' b → P b) : Rep K H d P' v := h.mono d hm (fun _ _ e _ => e) fun b z => .inl (hp b z)
theorem Reps.less {ds : List D} {P P' : Pr} {vs : List V} (hm : ∀ b, P b → isMut (H b)) (h : Reps K H ds P vs) (hp : ∀ b, P' b → P b) : Reps K H ds P' vs := h.mono ds hm (fun _ _ e _ => e) fun b z => .inl (hp b z)
/-- nothing that stood is changed -/
theorem Rep.same {d : D} {P : Pr} {v : V} (hm : ∀ b, P b → isMut (H b)) (h : Rep K H d P v) (k : Same H H') : Rep K H' d P v := h.mono d hm (fun b o e _ => k b o e) fun _ z => .inl z
theorem Reps.same {ds : List D} {P : Pr} {vs : List V} (hm : ∀ b, P b → isMut (H b)) (h : Reps K H ds P vs) (k : Same H H') : Reps K H' ds P vs := h.mono ds hm (fun b o e _ => k b o e) fun _ z => .inl z
theorem mutL {a : Addr} {P : Pr} {vs : List V} (hm : ∀ b, P b → isMut (H b)) (h : H a = some (.lst vs)) : ∀ b, P b ∨ b = a → isMut (H b) := fun b z => by
  rcases z with z | rfl
  · exact hm b z
  · rw [h]; trivial
theorem mutK {a : Addr} {P : Pr} {vs : List (Key × V)} (hm : ∀ b, P b → isMut (H b)) (h : Rd H a (.dK vs)) : ∀ b, P b ∨ b = a → isMut (H b) := fun b z => by
  rcases z with z | rfl
  · exact hm b z
  · rcases h with e | ⟨o, e⟩ <;> (rw [e]; trivial)
theorem mutT {a : Addr} {P : Pr} {vs : List (List Key × V)} (hm : ∀ b, P b → isMut (H b)) (h : Rd H a (.dT vs)) : ∀ b, P b ∨ b = a → isMut (H b) := fun b z => by
  rcases z with z | rfl
  · exact hm b z
  · rcases h with e | ⟨o, e⟩ <;> (rw [e]; trivial)
theorem Rep.weak {d : D} {P : Pr} {v : V} (hm : ∀ b, P b → isMut (H b)) (h : Rep K H d P v) : RepW K H d P v := by
  cases d with
  | lst ds =>
    unfold Rep at h; unfold RepW
    obtain ⟨a, vs, rfl, _, ht, hr⟩ := h
    exact ⟨a, vs, rfl, ht, hr.less (mutL hm ht) fun b z => .inl z⟩
  | arg ns =>
    unfold Rep at h; unfold RepW
    obtain ⟨a, rfl, h⟩ := h
    rcases h with ⟨_, h⟩ | h
    · exact ⟨a, rfl, .inl h⟩
    · refine ⟨a, rfl, .inr ?_⟩
      rcases h with h | h
      · rcases h with e | ⟨o, e⟩ <;> cases e
      · exact h
  | dik ks ds =>
    unfold Rep at h; unfold RepW
    obtain ⟨a, vs, rfl, _, hl, ht, hr⟩ := h
    exact ⟨a, vs, rfl, hl, ht, hr.less (mutK hm ht) fun b z => .inl z⟩
  | dit ks ds =>
    unfold Rep at h; unfold RepW
    obtain ⟨a, vs, rfl, _, hl, ht, hr⟩ := h
    exact ⟨a, vs, rfl, hl, ht, hr.less (mutT hm ht) fun b z => .inl z⟩
  | non => exact h
  | bl _ => exact h
  | int _ => exact h
  | str _ => exact h
  | tup _ => exact h
  | ftu _ => exact h
  | tab p q => unfold Rep at h; unfold RepW; obtain ⟨a, rfl, _, ht⟩ := h; exact ⟨a, rfl, ht⟩
theorem RepO.weak {d : D} {P : Pr} {v : V} (h : RepO K H d P v) : RepW K H d P v := by
  cases d with
  | lst ds => obtain ⟨a, vs, rfl, ht, hr⟩ := h; exact ⟨a, vs, rfl, ht, hr⟩
  | dik ks ds => obtain ⟨a, vs, rfl, hl, ht, hr⟩ := h; exact ⟨a, vs, rfl, hl, .inl ht, hr⟩
  | dit ks ds => obtain ⟨a, vs, rfl, hl, ht, hr⟩ := h; exact ⟨a, vs, rfl, hl, .inl ht, hr⟩
  | non => unfold RepW Rep; exact h
  | bl _ => unfold RepW Rep; exact h
  | int _ => unfold RepW Rep; exact h
  | str _ => unfold RepW Rep; exact h
  | tup _ => exact False.elim h
  | arg _ => exact False.elim h
  | ftu _ => exact False.elim h
  | tab p q => exact h
theorem Rep.of_same {d : D} {P : Pr} {v : V} (hm : ∀ b, P b → isMut (H b)) (h : Rep K H d P v) (k : ∀ b o, H b = some o → ¬ P b → H' b = some o) : Rep K H' d P v := h.mono d hm k fun _ z => .inl z
/-- a new list, tuple -/
theorem Rep.newL {ds : List D} {P : Pr} {vs : List V} {p : Addr} (hm : ∀ b, P b → isMut (H b)) (h : Reps K H ds P vs) (hp : H p = none) : Rep K (upd H p (.lst vs)) (.lst ds) P (.ref p) := by
  unfold Rep
  refine ⟨p, vs, rfl, fun z => (hm p z).some hp, upd_same, h.mono ds hm (fun b o e _ => ?_) fun b z => ?_⟩
  · rw [upd_ne (ne_of_none e hp)]; exact e
  · rcases z with z | rfl
    · exact .inl z
    · exact .inr hp
theorem Rep.newT {ds : List D} {P : Pr} {vs : List V} {p : Addr} (hm : ∀ b, P b → isMut (H b)) (h : Reps K H ds P vs) (hp : H p = none) : Rep K (upd H p (.tup vs)) (.tup ds) P (.ref p) := by
  unfold Rep
  refine ⟨p, vs, rfl, upd_same, h.mono ds hm (fun b o e _ => ?_) fun b z => .inl z⟩
  rw [upd_ne (ne_of_none e hp)]; exact e
theorem Same.new {p : Addr} {o : HO} (hp : H p = none) : Same H (upd H p o) := fun b u e => by rw [upd_ne (ne_of_none e hp)]; exact e
end

/-- the own slots' objects -/
def OA (O : List Nat) (σ : St) (b : Addr) : Prop := ∃ i, i ∈ O ∧ σ[i]? = some (some (.ref b))
def FA (P0 : Pr) (O : List Nat) (σ : St) : Pr := fun b => P0 b ∨ OA O σ b
/-- the names' data ρ lie in the slots σ over H. P0: forbidden here; O: the own slots, whose lists and dicts this def may change: nothing else leads to them -/
structure Sim (K : PySem.W.Frag) (P0 : Pr) (O W : List Nat) (ρ : Env) (σ : St) (H : Hp) : Prop where
  sub : ∀ i ∈ W, i ∈ O
  len : ρ.length ≤ σ.length
  dom : ∀ b, FA P0 O σ b → isMut (H b)
  val : ∀ i d, ρ[i]? = some (some d) → i ∉ O → ∃ v, σ[i]? = some (some v) ∧ Rep K H d (FA P0 O σ) v
  own : ∀ i d, ρ[i]? = some (some d) → i ∈ O → ∃ v, σ[i]? = some (some v) ∧ RepO K H d (FA P0 O σ) v
  sep : ∀ i j a, i ∈ O → j ∈ O → σ[i]? = some (some (.ref a)) → σ[j]? = some (some (.ref a)) → i = j
  sep0 : ∀ a, OA O σ a → ¬ P0 a
/-- what an expression may do to the heap -/
structure Keep (O : List Nat) (σ : St) (H H' : Hp) : Prop where
  keep : ∀ b o, H b = some o → ¬ OA O σ b → H' b = some o
  some : ∀ b, H b ≠ none → H' b ≠ none
theorem Keep.refl {W : List Nat} {σ : St} {H : Hp} : Keep W σ H H := ⟨fun _ _ e _ => e, fun _ e => e⟩
theorem Keep.trans {W : List Nat} {σ : St} {H H1 H2 : Hp} (a : Keep W σ H H1) (b : Keep W σ H1 H2) : Keep W σ H H2 :=
  ⟨fun c o e n => b.keep c o (a.keep c o e n) n, fun c e => b.some c (a.some c e)⟩
theorem Keep.same {W : List Nat} {σ : St} {H H' : Hp} (k : Same H H') : Keep W σ H H' := ⟨fun b o e _ => k b o e, fun b e => by
  cases q : H b with
  | none => exact absurd q e
  | some o => rw [k b o q]; intro z; cases z⟩
section
variable {K : PySem.W.Frag} {P0 : Pr} {O W : List Nat} {ρ ρ' : Env} {σ : St} {H H' : Hp}
theorem Sim.oaw (S : Sim K P0 O W ρ σ H) {b : Addr} (z : OA W σ b) : OA O σ b := let ⟨i, hi, e⟩ := z; ⟨i, S.sub i hi, e⟩
theorem Sim.rep (S : Sim K P0 O W ρ σ H) (k : Keep W σ H H') {d : D} {v : V} (h : Rep K H d (FA P0 O σ) v) : Rep K H' d (FA P0 O σ) v :=
  h.of_same S.dom fun b o e n => k.keep b o e fun z => n (.inr (S.oaw z))
/-- all that stood stands -/
theorem Sim.same (S : Sim K P0 O W ρ σ H) (k : Same H H') : Sim K P0 O W ρ σ H' where
  sub := S.sub
  len := S.len
  dom := fun b z => by
    have q := S.dom b z
    cases e : H b with
    | none => rw [e] at q; exact q.elim
    | some o => rw [k b o e, ← e]; exact q
  val := fun i d e n => let ⟨v, h1, h2⟩ := S.val i d e n; ⟨v, h1, h2.same S.dom k⟩
  own := fun i d e n => by
    obtain ⟨v, h1, h2⟩ := S.own i d e n
    refine ⟨v, h1, ?_⟩
    cases d with
    | lst ds => obtain ⟨a, vs, rfl, ht, hr⟩ := h2; exact ⟨a, vs, rfl, k _ _ ht, hr.same S.dom k⟩
    | dik ks ds => obtain ⟨a, vs, rfl, hl, ht, hr⟩ := h2; exact ⟨a, vs, rfl, hl, k _ _ ht, hr.same S.dom k⟩
    | dit ks ds => obtain ⟨a, vs, rfl, hl, ht, hr⟩ := h2; exact ⟨a, vs, rfl, hl, k _ _ ht, hr.same S.dom k⟩
    | non => exact h2
    | bl _ => exact h2
    | int _ => exact h2
    | str _ => exact h2
    | tup _ => exact h2
    | arg _ => exact h2
    | ftu _ => exact h2
    | tab p q => obtain ⟨a, rfl, ht⟩ := h2; exact ⟨a, rfl, ht.ext k⟩
  sep := S.sep
  sep0 := S.sep0
/-- what lies in a slot, for reading -/
theorem Sim.look (S : Sim K P0 O W ρ σ H) {i : Nat} {d : D} (h : look i ρ = .ok d) : ∃ v, σ[i]? = some (some v) ∧ RepW K H d (FA P0 O σ) v := by
  unfold Y.look at h
  split at h
  · rename_i d' e
    cases h
    by_cases hi : i ∈ O
    · obtain ⟨v, h1, h2⟩ := S.own i d e hi
      exact ⟨v, h1, h2.weak⟩
    · obtain ⟨v, h1, h2⟩ := S.val i d e hi
      exact ⟨v, h1, h2.weak S.dom⟩
  · cases h
end
/-- what a handle says of a value; Hs: the heap ahead -/
def HdR (K : PySem.W.Frag) (P0 : Pr) (O : List Nat) (Hs : Hp) (σ : St) (H : Hp) : Hd → V → Prop
  | .fr d, v => Rep K H d (FA P0 O σ) v ∧ (d.isMu = true → ∀ a, v = .ref a → Hs a = none)
  | .vl d, v => Rep K H d (FA P0 O σ) v
  | .ow i, v => i ∈ O ∧ σ[i]? = some (some v)
section
variable {K : PySem.W.Frag} {P0 : Pr} {O W : List Nat} {ρ ρ' : Env} {σ : St} {Hs Hs' H H' : Hp}
theorem HdR.keep (S : Sim K P0 O W ρ σ H) (k : Keep W σ H H') {h : Hd} {v : V} (r : HdR K P0 O Hs σ H h v) : HdR K P0 O Hs σ H' h v := by
  cases h with
  | fr d => exact ⟨S.rep k r.1, r.2⟩
  | vl d => exact S.rep k r
  | ow i => exact r
/-- ahead of that -/
theorem HdR.back (k : ∀ b, Hs' b ≠ none → Hs b ≠ none) {h : Hd} {v : V} (r : HdR K P0 O Hs σ H h v) : HdR K P0 O Hs' σ H h v := by
  cases h with
  | fr d => exact ⟨r.1, fun m a e => Classical.byContradiction fun z => k a z (r.2 m a e)⟩
  | vl d => exact r
  | ow i => exact r
theorem HdR.d (S : Sim K P0 O W ρ σ H) {h : Hd} {v : V} {d : D} (r : HdR K P0 O Hs σ H h v) (e : h.d ρ = .ok d) : RepW K H d (FA P0 O σ) v := by
  cases h with
  | fr d' => cases e; exact r.1.weak S.dom
  | vl d' => cases e; exact Rep.weak S.dom r
  | ow i =>
    obtain ⟨w, h1, h2⟩ := S.look e
    have q : σ[i]? = some (some v) := r.2
    rw [q] at h1; cases h1
    exact h2
theorem HdR.v {h : Hd} {v : V} {d : D} (r : HdR K P0 O Hs σ H h v) (e : h.v = .ok d) : Rep K H d (FA P0 O σ) v := by
  cases h with
  | fr d' => cases e; exact r.1
  | vl d' => cases e; exact r
  | ow i => cases e
end
end Y

set_option Elab.async false
set_option linter.all false
set_option maxRecDepth 100000
namespace Y
open PySem PySem.Spec PyProof.Rows L2

/-- no exception is told on -/
def R.nox {α : Type} : R α → R α
  | .er _ _ => .stk
  | x => x
@[simp] theorem R.nox_ok {α : Type} (a : α) : (R.ok a).nox = .ok a := id rfl
@[simp] theorem R.nox_stk {α : Type} : (R.stk : R α).nox = .stk := id rfl
abbrev EK := Str → List D → Hp → Prop
def Res (E : EK) (W : List Nat) (σ : St) (H : Hp) {α : Type} (r : R α) (k : α → Prop) : Prop := match r with
  | .ok a => k a
  | .er c ds => ∀ H', Keep W σ H H' → E c ds H'
  | .stk => False
section
variable {E : EK} {O W : List Nat} {σ : St} {H H1 : Hp} {α β : Type}
theorem Res.of_bind {r : R α} {f : α → R β} {k : β → Prop} (h : Res E W σ H (r >>= f) k) : Res E W σ H r fun a => Res E W σ H (f a) k := by cases r <;> exact h
theorem Res.mono {r : R α} {k k' : α → Prop} (h : Res E W σ H r k) (i : ∀ a, k a → k' a) : Res E W σ H r k' := by
  cases r with
  | ok a => exact i a h
  | er c ds => exact h
  | stk => exact h
theorem Res.keep {r : R α} {k : α → Prop} (h : Res E W σ H r k) (kp : Keep W σ H H1) : Res E W σ H1 r k := by
  cases r with
  | ok a => exact h
  | er c ds => exact fun H' k2 => h H' (kp.trans k2)
  | stk => exact h
theorem Res.of_nox {r : R α} {f : α → R β} {k : β → Prop} (h : Res E W σ H (r.nox >>= f) k) : ∃ a, r = .ok a ∧ Res E W σ H (f a) k := by
  cases r with
  | ok a => exact ⟨a, rfl, h⟩
  | er c ds => exact h.elim
  | stk => exact h.elim
end

def tM (K : PySem.W.Frag) (P0 : Pr) (O W : List Nat) (E : EK) (m : EM) : TE := fun σ H Q => ∃ ρ, Sim K P0 O W ρ σ H ∧
  Res E W σ H (m ρ) fun a => ∀ v H', Sim K P0 O W a.2 σ H' → Keep W σ H H' → HdR K P0 O H σ H' a.1 v → Q v H'
/-- several, from the left -/
def HdRs (K : PySem.W.Frag) (P0 : Pr) (O : List Nat) (Hs : Hp) (σ : St) (H : Hp) : List Hd → List V → Prop
  | [], vs => vs = []
  | h :: hs, vs => ∃ v ws, vs = v :: ws ∧ HdR K P0 O Hs σ H h v ∧ HdRs K P0 O Hs σ H hs ws
abbrev AM := Env → R (List Hd × Env)
def tMs (K : PySem.W.Frag) (P0 : Pr) (O W : List Nat) (E : EK) (m : AM) : TA := fun σ H Q => ∃ ρ, Sim K P0 O W ρ σ H ∧
  Res E W σ H (m ρ) fun a => ∀ vs H', Sim K P0 O W a.2 σ H' → Keep W σ H H' → HdRs K P0 O H σ H' a.1 vs → Q vs H'
abbrev BM := Env → R (Bool × Env)
def tMt (K : PySem.W.Frag) (P0 : Pr) (O W : List Nat) (E : EK) (m : BM) : TT := fun σ H Q => ∃ ρ, Sim K P0 O W ρ σ H ∧
  Res E W σ H (m ρ) fun a => ∀ H', Sim K P0 O W a.2 σ H' → Keep W σ H H' → Q a.1 H'
theorem PE.imp {X : Cx} {e : Expr} {t t' : TE} (h : PE X e t) (i : ∀ σ H Q, t' σ H Q → t σ H Q) : PE X e t' := ⟨fun pins s σ H Q I q => h.run pins s σ H Q I (i σ H Q q)⟩
theorem PT.imp {X : Cx} {e : Expr} {t t' : TT} (h : PT X e t) (i : ∀ σ H Q, t' σ H Q → t σ H Q) : PT X e t' := ⟨fun pins s σ H Q I q => h.run pins s σ H Q I (i σ H Q q)⟩
theorem PW.imp {X : Cx} {e : Expr} {t t' : TT} (h : PW X e t) (i : ∀ σ H Q, t' σ H Q → t σ H Q) : PW X e t' := ⟨fun w pins s σ H Q I q => h.run w pins s σ H Q I (i σ H Q q)⟩
theorem PA.imp {X : Cx} {e : List Expr} {t t' : TA} (h : PA X e t) (i : ∀ σ H Q, t' σ H Q → t σ H Q) : PA X e t' := ⟨fun p pins s σ H Q I q => h.run p pins s σ H Q I (i σ H Q q)⟩
theorem PS.imp {X : Cx} {e : Stmt} {t t' : TS} (h : PS X e t) (i : ∀ D σ H, t' D σ H → t D σ H) : PS X e t' := ⟨fun pins s σ H D I q => h.run pins s σ H D I (i D σ H q)⟩
theorem PSs.imp {X : Cx} {e : List Stmt} {t t' : TS} (h : PSs X e t) (i : ∀ D σ H, t' D σ H → t D σ H) : PSs X e t' := ⟨fun pins s σ H D I q => h.run pins s σ H D I (i D σ H q)⟩
theorem PE.or {X : Cx} {e : Expr} {t t' : TE} (h : PE X e t) (h' : PE X e t') : PE X e fun σ H Q => t σ H Q ∨ t' σ H Q :=
  ⟨fun pins s σ H Q I q => q.elim (h.run pins s σ H Q I) (h'.run pins s σ H Q I)⟩
section
variable {K : PySem.W.Frag} {P0 : Pr} {O W : List Nat} {ρ ρ' : Env} {σ : St} {Hs Hs' H H' : Hp}
theorem HdRs.keep (S : Sim K P0 O W ρ σ H) (k : Keep W σ H H') : ∀ {hs : List Hd} {vs : List V}, HdRs K P0 O Hs σ H hs vs → HdRs K P0 O Hs σ H' hs vs
  | [], _, r => r
  | h :: hs, _, ⟨v, ws, e, r1, r2⟩ => ⟨v, ws, e, r1.keep S k, HdRs.keep S k r2⟩
theorem HdRs.back (k : ∀ b, Hs' b ≠ none → Hs b ≠ none) : ∀ {hs : List Hd} {vs : List V}, HdRs K P0 O Hs σ H hs vs → HdRs K P0 O Hs' σ H hs vs
  | [], _, r => r
  | h :: hs, _, ⟨v, ws, e, r1, r2⟩ => ⟨v, ws, e, r1.back k, HdRs.back k r2⟩
end

def cVar (i : Nat) : EM := fun ρ => do
  let d ← (look i ρ).nox
  pure (.vl d, ρ)
def cOwn (i : Nat) : EM := fun ρ => do
  let _ ← (look i ρ).nox
  pure (.ow i, ρ)
def cC (d : D) : EM := fun ρ => .ok (.fr d, ρ)
theorem look_some {i : Nat} {ρ : Env} {d : D} (h : look i ρ = .ok d) : ρ[i]? = some (some d) := by
  unfold look at h
  split at h
  · rename_i e; cases h; exact e
  · cases h
section
variable {X : Cx} {P0 : Pr} {O W : List Nat} {E : EK} {pos : Pos}
abbrev CEx (X : Cx) (P0 : Pr) (O W : List Nat) (E : EK) (e : Expr) (m : EM) : Prop := PE X e (tM X.K P0 O W E m)
theorem ce_var (i : Nat) {x : Str} (ho : i ∉ O := by decide) (hN : X.N[i]? = some x := by rfl) (hv : Vis X.env.scope x := by first | exact Or.inl rfl | exact Or.inr (Or.inl rfl) | exact Or.inr (Or.inr rfl)) (hd : (x == ("__debug__" : Str)) = false := by decide)
    (hcd : (x == ("__classdict__" : Str)) = false := by decide) : CEx X P0 O W E (.Name x pos) (cVar i) := PE.imp (pe_var (i := i) hN hv hd hcd) fun σ H Q ⟨ρ, S, h⟩ => by
  obtain ⟨d, e, h⟩ := h.of_nox
  obtain ⟨v, h1, h2⟩ := S.val i d (look_some e) ho
  exact ⟨v, h1, h v H S .refl h2⟩
theorem ce_own (i : Nat) {x : Str} (ho : i ∈ O := by decide) (hN : X.N[i]? = some x := by rfl) (hv : Vis X.env.scope x := by first | exact Or.inl rfl | exact Or.inr (Or.inl rfl) | exact Or.inr (Or.inr rfl)) (hd : (x == ("__debug__" : Str)) = false := by decide)
    (hcd : (x == ("__classdict__" : Str)) = false := by decide) : CEx X P0 O W E (.Name x pos) (cOwn i) := PE.imp (pe_var (i := i) hN hv hd hcd) fun σ H Q ⟨ρ, S, h⟩ => by
  obtain ⟨d, e, h⟩ := h.of_nox
  obtain ⟨v, h1, h2⟩ := S.own i d (look_some e) ho
  exact ⟨v, h1, h v H S .refl ⟨ho, h1⟩⟩
theorem c_of {v : V} {d : D} (h : ∀ H P, Rep X.K H d P v) (hm : d.isMu = false) : ∀ σ H Q, tM X.K P0 O W E (cC d) σ H Q → tC v σ H Q := fun σ H Q ⟨ρ, S, q⟩ =>
  q v H S .refl ⟨h _ _, fun z => by rw [hm] at z; cases z⟩
theorem ce_int {i j} : CEx X P0 O W E (.Constant (.int i) j pos) (cC (.int i)) := PE.imp pe_int (c_of (fun _ _ => by unfold Rep; rfl) rfl)
theorem ce_bl {i j} : CEx X P0 O W E (.Constant (.bool i) j pos) (cC (.bl i)) := PE.imp pe_bl (c_of (fun _ _ => by unfold Rep; rfl) rfl)
theorem ce_str {i j} : CEx X P0 O W E (.Constant (.str i) j pos) (cC (.str i)) := PE.imp pe_str (c_of (fun _ _ => by unfold Rep; rfl) rfl)
theorem ce_non {j} : CEx X P0 O W E (.Constant .none j pos) (cC .non) := PE.imp pe_non (c_of (fun _ _ => by unfold Rep; rfl) rfl)
/-- a module's constant: a number, a text, True, None -/
theorem ce_glob {x : Str} {v : V} {d : D} {u : Value} (h : ∀ H P, Rep X.K H d P v) (hm : d.isMu = false) (r : RelV v u) (hx : X.mg x = some u) (hg : Gl X x := by rfl) (hd : (x == ("__debug__" : Str)) = false := by decide) : CEx X P0 O W E (.Name x pos) (cC d) :=
  PE.imp (pe_glob hg hx r hd) (c_of h hm)
end

def cOp (f : D → D → R D) (a b : EM) : EM := fun ρ => do
  let (h1, ρ1) ← a ρ
  let (h2, ρ2) ← b ρ1
  let x ← (h1.d ρ2).nox
  let y ← (h2.d ρ2).nox
  let z ← (f x y).nox
  pure (.fr z, ρ2)
/-- what is told on of an operation: new data -/
def Out (K : PySem.W.Frag) (P : Pr) (H : Hp) (d : D) (Q : VK) : Prop := ∀ v H', Same H H' → Rep K H' d P v → (d.isMu = true → ∀ a, v = .ref a → H a = none) → Q v H'
def rD (K : PySem.W.Frag) (f : D → D → R D) : R2 := fun x y H Q => ∃ (P : Pr) (dx dy dz : D), (∀ b, P b → isMut (H b)) ∧ RepW K H dx P x ∧ RepW K H dy P y ∧ f dx dy = .ok dz ∧ Out K P H dz Q
theorem Same.some {H H' : Hp} (k : Same H H') : ∀ b, H b ≠ none → H' b ≠ none := fun b e => by
  cases q : H b with
  | none => exact absurd q e
  | some o => rw [k b o q]; intro z; cases z
section
variable {K : PySem.W.Frag} {P0 : Pr} {O W : List Nat} {E : EK}
/-- an operation's end, told to what follows -/
theorem out_of {ρ : Env} {σ : St} {H H1 : Hp} {Q : VK} {d : D} (S : Sim K P0 O W ρ σ H1) (k : Keep W σ H H1)
    (h : ∀ v H', Sim K P0 O W ρ σ H' → Keep W σ H H' → HdR K P0 O H σ H' (.fr d) v → Q v H') : Out K (FA P0 O σ) H1 d Q := fun v H' sm r fr =>
  h v H' (S.same sm) (k.trans (Keep.same sm)) ⟨r, fun m a e => Classical.byContradiction fun z => k.some a z (fr m a e)⟩
theorem tM_op {f : D → D → R D} {a b : EM} (σ : St) (H : Hp) (Q : VK) (h : tM K P0 O W E (cOp f a b) σ H Q) : tOp (rD K f) (tM K P0 O W E a) (tM K P0 O W E b) σ H Q := by
  obtain ⟨ρ, S, h⟩ := h
  refine ⟨ρ, S, h.of_bind.mono fun ⟨h1, ρ1⟩ q x H1 S1 k1 r1 => ⟨ρ1, S1, (q.keep k1).of_bind.mono fun ⟨h2, ρ2⟩ q2 y H2 S2 k2 r2 => ?_⟩⟩
  obtain ⟨dx, e1, q3⟩ := q2.of_nox
  obtain ⟨dy, e2, q4⟩ := q3.of_nox
  obtain ⟨dz, e3, q5⟩ := q4.of_nox
  exact ⟨FA P0 O σ, dx, dy, dz, S2.dom, (r1.keep S1 k2).d S2 e1, r2.d S2 e2, e3, out_of S2 (k1.trans k2) q5⟩
/-- new data of no object -/
theorem Out.flat {P : Pr} {H : Hp} {d : D} {v : V} {Q : VK} (h : Out K P H d Q) (r : Rep K H d P v) (hm : d.isMu = false) : Q v H := h v H (fun _ _ e => e) r fun z => by rw [hm] at z; cases z
theorem Out.int {P : Pr} {H : Hp} {i : Int} {Q : VK} (h : Out K P H (.int i) Q) : Q (.int i) H := h.flat (by unfold Rep; rfl) rfl
theorem Out.bl {P : Pr} {H : Hp} {i : Bool} {Q : VK} (h : Out K P H (.bl i) Q) : Q (.bl i) H := h.flat (by unfold Rep; rfl) rfl
theorem Out.str {P : Pr} {H : Hp} {i : Str} {Q : VK} (h : Out K P H (.str i) Q) : Q (.str i) H := h.flat (by unfold Rep; rfl) rfl
theorem Out.non {P : Pr} {H : Hp} {Q : VK} (h : Out K P H .non Q) : Q .non H := h.flat (by unfold Rep; rfl) rfl
theorem Out.newL {P : Pr} {H : Hp} {ds : List D} {vs : List V} {Q : VK} (h : Out K P H (.lst ds) Q) (hm : ∀ b, P b → isMut (H b)) (r : Reps K H ds P vs) {p : Addr} (hp : H p = none) : Q (.ref p) (upd H p (.lst vs)) :=
  h _ _ (Same.new hp) (Rep.newL hm r hp) fun _ a e => by cases e; exact hp
theorem Out.newT {P : Pr} {H : Hp} {ds : List D} {vs : List V} {Q : VK} (h : Out K P H (.tup ds) Q) (hm : ∀ b, P b → isMut (H b)) (r : Reps K H ds P vs) {p : Addr} (hp : H p = none) : Q (.ref p) (upd H p (.tup vs)) :=
  h _ _ (Same.new hp) (Rep.newT hm r hp) fun z => by cases z
/-- reading a datum's form -/
theorem RepW.int {H : Hp} {i : Int} {P : Pr} {v : V} (h : RepW K H (.int i) P v) : v = .int i := by unfold RepW Rep at h; exact h
theorem RepW.bl {H : Hp} {i : Bool} {P : Pr} {v : V} (h : RepW K H (.bl i) P v) : v = .bl i := by unfold RepW Rep at h; exact h
theorem RepW.str {H : Hp} {i : Str} {P : Pr} {v : V} (h : RepW K H (.str i) P v) : v = .str i := by unfold RepW Rep at h; exact h
theorem RepW.non {H : Hp} {P : Pr} {v : V} (h : RepW K H .non P v) : v = .non := by unfold RepW Rep at h; exact h
theorem RepW.tup {H : Hp} {ds : List D} {P : Pr} {v : V} (h : RepW K H (.tup ds) P v) : ∃ a vs, v = .ref a ∧ H a = some (.tup vs) ∧ Reps K H ds P vs := by unfold RepW Rep at h; exact h
theorem RepW.ftu {H : Hp} {ds : List D} {P : Pr} {v : V} (h : RepW K H (.ftu ds) P v) : ∃ a vs o, v = .ref a ∧ H a = some (.frz o (.tup vs)) ∧ o.dict = none ∧ Reps K H ds P vs := by unfold RepW Rep at h; exact h
theorem SqT.fz {H : Hp} {a : Addr} {o : Obj} {vs : List V} (h : H a = some (.frz o (.tup vs))) : SqT K H a vs := .inl (.inr ⟨o, h⟩)
theorem RepW.lst {H : Hp} {ds : List D} {P : Pr} {v : V} (h : RepW K H (.lst ds) P v) : ∃ a vs, v = .ref a ∧ H a = some (.lst vs) ∧ Reps K H ds P vs := h
theorem RepW.arg {H : Hp} {ds : List Int} {P : Pr} {v : V} (h : RepW K H (.arg ds) P v) : ∃ a, v = .ref a ∧ SqL K H a (ds.map V.int) := h
theorem Rep.ftu_of {H : Hp} {ds : List D} {P : Pr} {a : Addr} {o : Obj} {vs : List V} (h : H a = some (.frz o (.tup vs))) (hd : o.dict = none) (r : Reps K H ds P vs) : Rep K H (.ftu ds) P (.ref a) := by unfold Rep; exact ⟨a, vs, o, rfl, h, hd, r⟩
theorem Rep.tup_of {H : Hp} {ds : List D} {P : Pr} {a : Addr} {vs : List V} (h : H a = some (.tup vs)) (r : Reps K H ds P vs) : Rep K H (.tup ds) P (.ref a) := by unfold Rep; exact ⟨a, vs, rfl, h, r⟩
/-- a list or a tuple, for reading -/
def seqOf : D → Option (List D)
  | .lst ds => some ds
  | .tup ds => some ds
  | .arg ns => some (ns.map D.int)
  | .ftu ds => some ds
  | _ => none
theorem reps_ints {H : Hp} {P : Pr} : ∀ ns : List Int, Reps K H (ns.map D.int) P (ns.map V.int)
  | [] => Reps.nil
  | n :: ns => Reps.cons (by unfold Rep; rfl) (reps_ints ns)
theorem RepW.seq {H : Hp} {d : D} {ds : List D} {P : Pr} {v : V} (h : RepW K H d P v) (e : seqOf d = some ds) : ∃ a vs, v = .ref a ∧ (SqL K H a vs ∨ SqT K H a vs) ∧ Reps K H ds P vs := by
  cases d <;> simp only [seqOf, Option.some.injEq, reduceCtorEq] at e
  · subst e; obtain ⟨a, vs, rfl, h1, h2⟩ := h.tup; exact ⟨a, vs, rfl, .inr (SqT.of h1), h2⟩
  · subst e; obtain ⟨a, vs, rfl, h1, h2⟩ := h.lst; exact ⟨a, vs, rfl, .inl (SqL.of h1), h2⟩
  · subst e; obtain ⟨a, rfl, h1⟩ := h.arg; exact ⟨a, _, rfl, .inl h1, reps_ints _⟩
  · subst e; obtain ⟨a, vs, o, rfl, h1, _, h2⟩ := h.ftu; exact ⟨a, vs, rfl, .inr (SqT.fz h1), h2⟩
end

/-- sizes that the machine bears -/
def szOk (n : Nat) : Bool := decide (n ≤ sizeLine)
def addD : D → D → R D
  | .int i, .int j => .ok (.int (i + j))
  | .str x, .str y => if szOk (x.length + y.length) = true then .ok (.str (x ++ y)) else .stk
  | .tup x, .tup y => if szOk (x.length + y.length) = true then .ok (.tup (x ++ y)) else .stk
  | .lst x, .lst y => if szOk (x.length + y.length) = true then .ok (.lst (x ++ y)) else .stk
  | _, _ => .stk
/-- either factor is small, or both are of at most 2 ^ 26 bits -/
def mulOk (i j : Int) : Bool := decide (i.natAbs < 2 ^ 64) || decide (j.natAbs < 2 ^ 64) || decide (i.natAbs.log2 < 2 ^ 26 - 8 ∧ j.natAbs.log2 < 2 ^ 26 - 8)
/-- a text as many times as told -/
def repS (k : Int) (x : Str) : Str := if k < 1 then Str.empty else if (k == 1 || x.length == 0) = true then x else ⟨(List.replicate k.toNat x.cps).foldl (· ++ ·) #[]⟩
def mulD : D → D → R D
  | .int i, .int j => if mulOk i j = true then .ok (.int (i * j)) else .stk
  | .lst x, .int k => if k < 2 ^ 20 ∧ -(2 ^ 20) < k ∧ szOk (x.length * k.toNat) = true then .ok (.lst (List.replicate k.toNat x).flatten) else .stk
  | .str x, .int k => if k < 2 ^ 20 ∧ -(2 ^ 20) < k ∧ szOk (x.length * k.toNat) = true then .ok (.str (repS k x)) else .stk
  | .tup x, .int k => if x.isEmpty = false ∧ -(2 ^ 20) < k ∧ k ≤ 1000 ∧ x.length ≤ 1000 then .ok (.tup (List.replicate k.toNat x).flatten) else .stk
  | _, _ => .stk
def smallPos (j : Int) : Bool := decide (0 < j ∧ j < 1073741824)
def fdivD : D → D → R D
  | .int i, .int j => if smallPos j = true then .ok (.int (i / j)) else .stk
  | _, _ => .stk
def modD : D → D → R D
  | .int i, .int j => if 0 < j then .ok (.int (i % j)) else .stk
  | _, _ => .stk
def shOk (i j : Int) : Bool := decide (0 ≤ j ∧ j ≤ 1000000 ∧ i.natAbs < 2 ^ 64)
def shlD : D → D → R D
  | .int i, .int j => if shOk i j = true then .ok (.int (i * 2 ^ j.toNat)) else .stk
  | _, _ => .stk
def shrD : D → D → R D
  | .int i, .int j => if 0 ≤ j then .ok (.int (i / 2 ^ j.toNat)) else .stk
  | _, _ => .stk
def andD : D → D → R D
  | .int i, .int j => .ok (.int (Builtin.bitAnd i j))
  | _, _ => .stk
def xorD : D → D → R D
  | .int i, .int j => .ok (.int (Builtin.bitXor i j))
  | _, _ => .stk
theorem mulOk_ok {i j : Int} (h : mulOk i j = true) : IntMulOk i j := by
  unfold mulOk at h
  simp only [Bool.or_eq_true, decide_eq_true_eq] at h
  rcases h with (h | h) | ⟨h1, h2⟩
  · exact IntMulOk.of_left (intBits_le_64 (by omega) (by omega))
  · exact IntMulOk.of_right (intBits_le_64 (by omega) (by omega))
  · have b : ∀ x : Int, Builtin.Int.intBits x ≤ x.natAbs.log2 + 1 := fun x => by
      unfold Builtin.Int.intBits
      split <;> omega
    have h3 := b i
    have h4 := b j
    have e : bitsLine = 134217728 := by decide
    unfold IntMulOk
    intro z
    rw [Bool.and_eq_true] at z
    have z2 := z.2
    unfold Builtin.Int.intTooBig at z2
    have z3 := of_decide_eq_true z2
    rw [e] at z3
    omega
section
variable {X : Cx}
theorem od_int {f : Value → Value → Sem Value} {g : D → D → R D} {C : Int → Int → Prop} {h : Int → Int → Int} (ho : OpR X f (rI C fun i j => .int (h i j))) (hg : ∀ x y z, g x y = .ok z → ∃ i j, x = .int i ∧ y = .int j ∧ z = .int (h i j) ∧ C i j) : OpR X f (rD X.K g) := by
  intro pins s σ H x y v u Q I rx ry ⟨P, dx, dy, dz, hm, r1, r2, e, out⟩
  obtain ⟨i, j, rfl, rfl, rfl, c⟩ := hg dx dy dz e
  obtain rfl := r1.int
  obtain rfl := r2.int
  exact ho pins s σ H _ _ v u Q I rx ry ⟨i, j, rfl, rfl, c, out.int⟩
theorem od_and : OpR X (binaryOp .BitAnd) (rD X.K andD) := od_int (C := fun _ _ => True) (h := Builtin.bitAnd) (fun pins s σ H x y v u Q I rx ry ⟨i, j, e1, e2, _, q⟩ => op_and pins s σ H x y v u Q I rx ry ⟨i, j, e1, e2, q⟩) fun x y z e => by
  cases x <;> cases y <;> simp only [andD, R.ok.injEq, reduceCtorEq] at e
  exact ⟨_, _, rfl, rfl, e.symm, trivial⟩
theorem od_xor : OpR X (binaryOp .BitXor) (rD X.K xorD) := od_int (C := fun _ _ => True) (h := Builtin.bitXor) (fun pins s σ H x y v u Q I rx ry ⟨i, j, e1, e2, _, q⟩ => op_xor pins s σ H x y v u Q I rx ry ⟨i, j, e1, e2, q⟩) fun x y z e => by
  cases x <;> cases y <;> simp only [xorD, R.ok.injEq, reduceCtorEq] at e
  exact ⟨_, _, rfl, rfl, e.symm, trivial⟩
theorem od_fdiv : OpR X (binaryOp .FloorDiv) (rD X.K fdivD) := od_int op_fdiv fun x y z e => by
  cases x <;> cases y <;> simp only [fdivD, R.ok.injEq, reduceCtorEq] at e
  split at e
  · rename_i c; cases e; exact ⟨_, _, rfl, rfl, rfl, by unfold smallPos at c; have c := of_decide_eq_true c; exact c⟩
  · cases e
theorem od_mod : OpR X (binaryOp .Mod) (rD X.K modD) := od_int op_mod fun x y z e => by
  cases x <;> cases y <;> simp only [modD, R.ok.injEq, reduceCtorEq] at e
  split at e
  · rename_i c; cases e; exact ⟨_, _, rfl, rfl, rfl, c⟩
  · cases e
theorem od_shl : OpR X (binaryOp .LShift) (rD X.K shlD) := od_int op_shl fun x y z e => by
  cases x <;> cases y <;> simp only [shlD, R.ok.injEq, reduceCtorEq] at e
  split at e
  · rename_i c; cases e; exact ⟨_, _, rfl, rfl, rfl, by unfold shOk at c; have c := of_decide_eq_true c; exact c⟩
  · cases e
theorem od_shr : OpR X (binaryOp .RShift) (rD X.K shrD) := od_int op_shr fun x y z e => by
  cases x <;> cases y <;> simp only [shrD, R.ok.injEq, reduceCtorEq] at e
  split at e
  · rename_i c; cases e; exact ⟨_, _, rfl, rfl, rfl, c⟩
  · cases e
theorem od_add : OpR X (binaryOp .Add) (rD X.K addD) := by
  intro pins s σ H x y v u Q I rx ry ⟨P, dx, dy, dz, hm, r1, r2, e, out⟩
  cases dx <;> cases dy <;> simp only [addD, R.ok.injEq, reduceCtorEq] at e
  · subst e
    obtain rfl := r1.int
    obtain rfl := r2.int
    exact op_add pins s σ H _ _ v u Q I rx ry ⟨_, _, rfl, rfl, out.int⟩
  · split at e
    · rename_i c; cases e
      obtain rfl := r1.str
      obtain rfl := r2.str
      exact op_add_str pins s σ H _ _ v u Q I rx ry ⟨_, _, rfl, rfl, of_decide_eq_true c, out.str⟩
    · cases e
  · split at e
    · rename_i c; cases e
      obtain ⟨a, vs, rfl, h1, h2⟩ := r1.tup
      obtain ⟨b, ws, rfl, h3, h4⟩ := r2.tup
      refine op_catA pins s σ H _ _ v u Q I rx ry ⟨a, b, vs, ws, rfl, rfl, SqT.of h1, SqT.of h3, by rw [h2.length, h4.length]; exact of_decide_eq_true c, fun z => ?_, fun _ z => ?_, fun _ _ p hp => out.newT hm (h2.append h4) hp⟩
      · subst z
        have z := h2.length
        have z := List.length_eq_zero_iff.mp (show _ = 0 from z.symm)
        subst z
        rw [List.nil_append] at out
        exact out.flat (Rep.tup_of h3 h4) rfl
      · subst z
        have z := h4.length
        have z := List.length_eq_zero_iff.mp (show _ = 0 from z.symm)
        subst z
        rw [List.append_nil] at out
        exact out.flat (Rep.tup_of h1 h2) rfl
    · cases e
  · split at e
    · rename_i c; cases e
      obtain ⟨a, vs, rfl, h1, h2⟩ := r1.lst
      obtain ⟨b, ws, rfl, h3, h4⟩ := r2.lst
      exact op_cat pins s σ H _ _ v u Q I rx ry ⟨a, b, vs, ws, rfl, rfl, h1, h3, by rw [h2.length, h4.length]; exact of_decide_eq_true c, fun p hp => out.newL hm (h2.append h4) hp⟩
    · cases e
end
end Y

set_option Elab.async false
set_option linter.all false
set_option maxRecDepth 100000
namespace Y
open PySem PySem.Spec PyProof.Rows L2

section
open PySem.AutoSeq1 (wpAny_loadPart')
theorem tuple_mulS (l : Addr) (items : Array Value) (n : Nat) (dd : Option Addr) (sl : Array (Option Value)) (x : Int) (u : Tok) (c0 : (decide (x < -(2 ^ 63)) || decide (x ≥ 2 ^ 63)) = false) (c1 : (items.isEmpty || x == 1) = true) :
    Meets (Builtin.«tuple.__mul__» ⟨[.ref l, .int x u], []⟩) (fun _ R s => s.heap.get? l = some { cls := .type "tuple", dict := dd, data := .seq items n, slots := sl } ∧
      R (.ok (.ret (Value.ref l))) s) :=
  .of_wp fun prog w A R s h => by
    obtain ⟨hp, g, d, tk, os⟩ := s
    obtain ⟨hl, h⟩ := h
    have f1 := AutoSeq1.idx_int
    wp_walk using wpAny_loadPart' hl
    repeat (first
      | (refine wpAny_ite_false (decide_eq_false (by rw [c0]; exact Bool.false_ne_true)) ?_; wp_walk using wpAny_loadPart' hl)
      | (refine wpAny_ite_true (decide_eq_true c1) ?_; wp_walk using wpAny_loadPart' hl))
    exact ⟨_, rfl, h⟩
theorem tuple_mulE (l : Addr) (items : Array Value) (n : Nat) (dd : Option Addr) (sl : Array (Option Value)) (x : Int) (u : Tok) (c0 : (decide (x < -(2 ^ 63)) || decide (x ≥ 2 ^ 63)) = false) (c1 : (items.isEmpty || x == 1) = false) (c2 : (decide (x ≤ 0) || items.isEmpty) = true) :
    Meets (Builtin.«tuple.__mul__» ⟨[.ref l, .int x u], []⟩) (fun _ R s => s.heap.get? l = some { cls := .type "tuple", dict := dd, data := .seq items n, slots := sl } ∧
      R (.ok (.ret (Value.ref s.heap.objs.size))) { s with heap := s.heap.push { cls := Value.type "tuple", data := Data.seq #[] }, toks := s.toks }) :=
  .of_wp fun prog w A R s h => by
    obtain ⟨hp, g, d, tk, os⟩ := s
    obtain ⟨hl, h⟩ := h
    have f1 := AutoSeq1.idx_int
    wp_walk using wpAny_loadPart' hl
    repeat (first
      | (refine wpAny_ite_false (decide_eq_false (by rw [c0]; exact Bool.false_ne_true)) ?_; wp_walk using wpAny_loadPart' hl)
      | (refine wpAny_ite_false (decide_eq_false (by rw [c1]; exact Bool.false_ne_true)) ?_; wp_walk using wpAny_loadPart' hl)
      | (refine wpAny_ite_true (decide_eq_true c2) ?_; wp_walk using wpAny_loadPart' hl))
    exact ⟨_, rfl, h⟩
end
/-- a tuple times an int: once is the tuple itself -/
theorem op_repT1 {X : Cx} : OpR X (binaryOp .Mult) (fun x y H Q => ∃ l xs, x = .ref l ∧ y = .int 1 ∧ SqT X.K H l xs ∧ Q (.ref l) H) := by
  intro pins s σ H x y v u Q I rx ry h
  obtain ⟨l, xs, rfl, rfl, hT, q⟩ := h
  cases rx
  obtain ⟨t, rfl⟩ := ry
  obtain ⟨its, r, ⟨⟨cls, dd, data, sl⟩, ho, hc, n, hd⟩, hs⟩ := I.tuple hT
  simp only at hc hd
  subst hc hd
  have c0 : (decide ((1 : Int) < -(2 ^ 63)) || decide ((1 : Int) ≥ 2 ^ 63)) = false := by decide
  refine wpAny_binaryOp_repeat_ref (T := "tuple") (U := "int") (by decide) ⟨_, ho, rfl⟩ (fun s' => typeIs_int s' 1 t) noFill_tuple_mul F.fills_int_mul F.slot_int_rmul repeat_tuple F.slot_int_index.lookup
    (call_meets F.slot_int_rmul (typeIs_int s 1 t) F.entry_int_rmul (F.args_int_rmul_2 _ _) (int_rmul_tuple 1 t l its.toArray n dd sl)
      ⟨ho, rfl, ⟨_, ho, rfl⟩, call_meets F.slot_tuple_mul ⟨_, ho, rfl⟩ F.entry_tuple_mul (F.args_tuple_mul_2 _ _) (tuple_mulS l its.toArray n dd sl 1 t c0 (by simp)) ⟨ho, ?_⟩⟩)
  exact ⟨.ref l, H, I, rfl, q⟩
/-- no time or fewer: an empty tuple -/
theorem op_repT0 {X : Cx} : OpR X (binaryOp .Mult) (fun x y H Q => ∃ l k xs, x = .ref l ∧ y = .int k ∧ SqT X.K H l xs ∧ xs ≠ [] ∧ k ≤ 0 ∧ -(2 ^ 20) < k ∧ ∀ p, H p = none → Q (.ref p) (upd H p (.tup []))) := by
  intro pins s σ H x y v u Q I rx ry h
  obtain ⟨l, k, xs, rfl, rfl, hT, hne, h1, h2, q⟩ := h
  cases rx
  obtain ⟨t, rfl⟩ := ry
  obtain ⟨its, r, ⟨⟨cls, dd, data, sl⟩, ho, hc, n, hd⟩, hs⟩ := I.tuple hT
  simp only at hc hd
  subst hc hd
  have hi : its.toArray.isEmpty = false := by
    cases its with
    | nil => exact absurd (List.eq_nil_of_length_eq_zero r.length) hne
    | cons a b => rfl
  have c0 : (decide (k < -(2 ^ 63)) || decide (k ≥ 2 ^ 63)) = false := by
    rw [decide_eq_false (by omega), decide_eq_false (by omega)] <;> rfl
  have c1 : (its.toArray.isEmpty || k == 1) = false := by
    rw [hi, Bool.false_or]
    exact beq_eq_false_iff_ne.mpr (by omega)
  have c2 : (decide (k ≤ 0) || its.toArray.isEmpty) = true := by
    rw [decide_eq_true h1, Bool.true_or]
  refine wpAny_binaryOp_repeat_ref (T := "tuple") (U := "int") (by decide) ⟨_, ho, rfl⟩ (fun s' => typeIs_int s' k t) noFill_tuple_mul F.fills_int_mul F.slot_int_rmul repeat_tuple F.slot_int_index.lookup
    (call_meets F.slot_int_rmul (typeIs_int s k t) F.entry_int_rmul (F.args_int_rmul_2 _ _) (int_rmul_tuple k t l its.toArray n dd sl)
      ⟨ho, rfl, ⟨_, ho, rfl⟩, call_meets F.slot_tuple_mul ⟨_, ho, rfl⟩ F.entry_tuple_mul (F.args_tuple_mul_2 _ _) (tuple_mulE l its.toArray n dd sl k t c0 c1 c2) ⟨ho, ?_⟩⟩)
  refine ⟨.ref s.heap.objs.size, _, I.laid (t' := s.toks) (o := .tup []) (fun b ob q => Heap.get?_push_of_some _ q) (Nat.le_refl _) ?_, rfl, q _ (I.hok.fresh (Nat.le_refl _))⟩
  exact ⟨Nat.zero_le _, [], .nil, IsTup.new _ _⟩
theorem rep_all {K : PySem.W.Frag} {H : Hp} {P : Pr} {ds : List D} {vs : List V} (h : Reps K H ds P vs) : ∀ k : Nat, Reps K H (List.replicate k ds).flatten P (List.replicate k vs).flatten
  | 0 => Reps.nil
  | k + 1 => by rw [List.replicate_succ, List.replicate_succ, List.flatten_cons, List.flatten_cons]; exact h.append (rep_all h k)
noncomputable instance : DecidableEq (List D) := fun _ _ => Classical.propDecidable _
noncomputable instance : DecidableEq D := fun _ _ => Classical.propDecidable _
section
variable {X : Cx}
theorem repS_len (k : Int) (x : Str) : (⟨(List.replicate k.toNat x.cps).foldl (· ++ ·) #[]⟩ : Str).length = x.length * k.toNat := by
  show Array.size _ = _
  have h : ∀ (m : Nat) (a : Array Nat), ((List.replicate m x.cps).foldl (· ++ ·) a).size = a.size + x.cps.size * m := by
    intro m
    induction m with
    | zero => intro a; simp
    | succ m ih => intro a; rw [List.replicate_succ, List.foldl_cons, ih, Array.size_append, Nat.mul_succ]; omega
  rw [h, Array.size_empty, Nat.zero_add]
  rfl
/-- a text times an int -/
theorem op_repS : OpR X (binaryOp .Mult) (fun x y H Q => ∃ i k, x = .str i ∧ y = .int k ∧ -(2 ^ 20) < k ∧ k < 2 ^ 20 ∧ i.length * k.toNat ≤ sizeLine ∧ Q (.str (repS k i)) H) := by
  intro pins s σ H x y v u Q I rx ry h
  obtain ⟨i, k, rfl, rfl, h1, h2, hz, q⟩ := h
  obtain ⟨t, rfl⟩ := rx
  obtain ⟨t', rfl⟩ := ry
  have hs : sizeLine ≤ 2 ^ 40 := by decide
  refine PySem.P.mul_str ?_ (fun c _ => ?_) (fun _ _ => decide_eq_false (by omega)) ?_
  · rw [decide_eq_false (by omega), decide_eq_false (by omega)]; rfl
  · have e : ((i.length * k.toNat : Nat) : Int) = (i.length : Int) * k := by rw [Int.natCast_mul, Int.toNat_of_nonneg (by omega)]
    have := (Int.le_ediv_iff_mul_le (a := (i.length : Int)) (b := 2 ^ 63 - 1) (c := k) (by omega)).mpr (by rw [← e]; omega)
    omega
  · unfold repS at q
    by_cases c1 : k < 1
    · rw [if_pos c1] at q ⊢
      exact ⟨by decide, ⟨.str _, H, I.tok _, ⟨_, rfl⟩, q⟩⟩
    · rw [if_neg c1] at q ⊢
      by_cases c2 : (k == 1 || i.length == 0) = true
      · rw [if_pos c2] at q ⊢
        exact ⟨.str _, H, I, ⟨_, rfl⟩, q⟩
      · rw [if_neg c2] at q ⊢
        exact ⟨by rw [repS_len]; exact hz, ⟨.str _, H, I.tok _, ⟨_, rfl⟩, q⟩⟩
theorem od_mul : OpR X (binaryOp .Mult) (rD X.K mulD) := by
  intro pins s σ H x y v u Q I rx ry ⟨P, dx, dy, dz, hm, r1, r2, e, out⟩
  cases dx <;> cases dy <;> simp only [mulD, R.ok.injEq, reduceCtorEq] at e
  case int.int =>
    split at e
    · rename_i c; cases e
      obtain rfl := r1.int
      obtain rfl := r2.int
      obtain ⟨t, rfl⟩ := rx
      obtain ⟨t', rfl⟩ := ry
      exact mul_int ⟨.int _, H, I.tok _, ⟨_, rfl⟩, out.int⟩ (mulOk_ok c)
    · cases e
  case str.int =>
    split at e
    · rename_i c; cases e
      obtain rfl := r1.str
      obtain rfl := r2.int
      exact op_repS pins s σ H _ _ v u Q I rx ry ⟨_, _, rfl, rfl, by omega, by omega, of_decide_eq_true c.2.2, out.str⟩
    · cases e
  case tup.int =>
    split at e
    · rename_i c; cases e
      obtain ⟨a, vs, rfl, h1, h2⟩ := r1.tup
      obtain rfl := r2.int
      rename_i ds k
      have hne : vs ≠ [] := fun z => by
        have z2 := h2.length
        rw [z] at z2
        have z3 := List.length_eq_zero_iff.mp z2.symm
        rw [z3] at c
        exact absurd c.1 (by decide)
      by_cases c1 : k = 1
      · subst c1
        have e1 : (List.replicate (1 : Int).toNat ds).flatten = ds := by
          show ds ++ [] = ds
          exact List.append_nil _
        rw [e1] at out
        exact op_repT1 pins s σ H _ _ v u Q I rx ry ⟨a, vs, rfl, rfl, SqT.of h1, out.flat (Rep.tup_of h1 h2) rfl⟩
      · by_cases c2 : k ≤ 0
        · have e1 : (List.replicate k.toNat ds).flatten = [] := by
            have : k.toNat = 0 := by omega
            rw [this]; rfl
          rw [e1] at out
          exact op_repT0 pins s σ H _ _ v u Q I rx ry ⟨a, _, vs, rfl, rfl, SqT.of h1, hne, c2, c.2.1, fun p hp => out.newT hm Reps.nil hp⟩
        · exact op_repT pins s σ H _ _ v u Q I rx ry ⟨a, _, vs, rfl, rfl, SqT.of h1, hne, by omega, c.2.2.1, by rw [h2.length]; exact c.2.2.2, fun p hp => out.newT hm (rep_all h2 _) hp⟩
    · cases e
  case lst.int =>
    split at e
    · rename_i c
      have c : _ ∧ _ ∧ _ := c
      cases e
      obtain ⟨a, vs, rfl, h1, h2⟩ := r1.lst
      obtain rfl := r2.int
      exact op_rep pins s σ H _ _ v u Q I rx ry ⟨a, _, vs, rfl, rfl, h1, by omega, by omega, by rw [h2.length]; exact of_decide_eq_true c.2.2, fun p hp => out.newL hm (rep_all h2 _) hp⟩
    · cases e
end

mutual
def toPy : D → PyData
  | .non => .none
  | .bl b => .bool b
  | .int i => .int i
  | .str x => .str x
  | .tup ds => .tuple (toPys ds)
  | .lst ds => .list (toPys ds)
  | .arg ns => .list (ns.map .int)
  | .dik _ _ => .dict []
  | .dit _ _ => .dict []
  | .ftu ds => .tuple (toPys ds)
  | .tab _ _ => .dict []
def toPys : List D → List PyData
  | [] => []
  | d :: ds => toPy d :: toPys ds
end
def dOk (d : D) : Bool := SeqAt.shaped (toPy d)
def eqP (x y : D) : Bool := PyData.eqv (toPy x) (toPy y)
theorem dp_ints {K : PySem.W.Frag} {H : Hp} : ∀ ns : List Int, DpAll K H (ns.map V.int) (ns.map PyData.int)
  | [] => .nil
  | n :: ns => .cons (.int n) (dp_ints ns)
mutual
theorem Rep.dp {K : PySem.W.Frag} {H : Hp} : ∀ (d : D) {P : Pr} {v : V}, (toPy d).canLay0 = true → Rep K H d P v → Dp K H v (toPy d)
  | .non, _, _, _, h => by unfold Rep at h; subst h; exact .non
  | .bl b, _, _, _, h => by unfold Rep at h; subst h; exact .bl b
  | .int i, _, _, _, h => by unfold Rep at h; subst h; exact .int i
  | .str i, _, _, _, h => by unfold Rep at h; subst h; exact .str i
  | .tup ds, P, v, c, h => by
    unfold Rep at h
    obtain ⟨a, vs, rfl, h1, h2⟩ := h
    unfold toPy at c ⊢
    exact .tup (SqT.of h1) (Reps.dp ds (by simpa [PyData.canLay0] using c) h2)
  | .lst ds, P, v, c, h => by
    unfold Rep at h
    obtain ⟨a, vs, rfl, _, h1, h2⟩ := h
    unfold toPy at c ⊢
    exact .lst (SqL.of h1) (Reps.dp ds (by simpa [PyData.canLay0] using c) h2)
  | .arg ns, P, v, c, h => by
    unfold Rep at h
    unfold toPy
    obtain ⟨a, rfl, h⟩ := h
    rcases h with ⟨_, h⟩ | h
    · exact .lst (.inl h) (dp_ints ns)
    · refine .lst (.inr ?_) (dp_ints ns)
      rcases h with h | h
      · rcases h with e | ⟨o, e⟩ <;> cases e
      · exact h
  | .dik _ _, _, _, c, _ => by simp [toPy, PyData.canLay0] at c
  | .dit _ _, _, _, c, _ => by simp [toPy, PyData.canLay0] at c
  | .tab _ _, _, _, c, _ => by simp [toPy, PyData.canLay0] at c
  | .ftu ds, P, v, c, h => by
    unfold Rep at h
    obtain ⟨a, vs, o, rfl, h1, _, h2⟩ := h
    unfold toPy at c ⊢
    exact .tup (SqT.fz h1) (Reps.dp ds (by simpa [PyData.canLay0] using c) h2)
theorem Reps.dp {K : PySem.W.Frag} {H : Hp} : ∀ (ds : List D) {P : Pr} {vs : List V}, PyData.canLayAll0 (toPys ds) = true → Reps K H ds P vs → DpAll K H vs (toPys ds)
  | [], _, _, _, h => by rw [h.nil_iff]; exact .nil
  | d :: ds, P, vs, c, h => by
    obtain ⟨v, ws, rfl, h1, h2⟩ := h.cons_iff
    unfold toPys at c ⊢
    have c := Bool.and_eq_true_iff.mp (show (PyData.canLay0 (toPy d) && PyData.canLayAll0 (toPys ds)) = true by simpa [PyData.canLayAll0] using c)
    exact .cons (Rep.dp d c.1 h1) (Reps.dp ds c.2 h2)
end
theorem RepW.dp {K : PySem.W.Frag} {H : Hp} {d : D} {P : Pr} {v : V} (c : dOk d = true) (h : RepW K H d P v) : Dp K H v (toPy d) := by
  have c := SeqAt.canLay_of_shaped c
  cases d with
  | lst ds =>
    obtain ⟨a, vs, rfl, h1, h2⟩ := h
    unfold toPy at c ⊢
    exact .lst (SqL.of h1) (Reps.dp ds (by simpa [PyData.canLay0] using c) h2)
  | arg ns =>
    obtain ⟨a, rfl, h1⟩ := h
    unfold toPy
    exact .lst h1 (dp_ints ns)
  | dik _ _ => simp [toPy, PyData.canLay0] at c
  | dit _ _ => simp [toPy, PyData.canLay0] at c
  | tab _ _ => simp [toPy, PyData.canLay0] at c
  | non => exact Rep.dp (P := P) _ c h
  | bl _ => exact Rep.dp (P := P) _ c h
  | int _ => exact Rep.dp (P := P) _ c h
  | str _ => exact Rep.dp (P := P) _ c h
  | tup _ => exact Rep.dp (P := P) _ c h
  | ftu _ => exact Rep.dp (P := P) _ c h
def eqD (x y : D) : R D := if (dOk x && dOk y) = true then .ok (.bl (eqP x y)) else .stk
def neD (x y : D) : R D := if (dOk x && dOk y) = true then .ok (.bl (!eqP x y)) else .stk
def ltD : D → D → R D
  | .int i, .int j => .ok (.bl (decide (i < j)))
  | .str x, .str y => .ok (.bl (decide (x.cps.toList < y.cps.toList)))
  | _, _ => .stk
def leD : D → D → R D
  | .int i, .int j => .ok (.bl (decide (i ≤ j)))
  | _, _ => .stk
def gtD : D → D → R D
  | .int i, .int j => .ok (.bl (decide (j < i)))
  | _, _ => .stk
def geD : D → D → R D
  | .int i, .int j => .ok (.bl (decide (j ≤ i)))
  | _, _ => .stk
def isNon : D → Bool
  | .non => true
  | _ => false
def isD : D → D → R D
  | x, .non => .ok (.bl (isNon x))
  | .bl a, .bl b => .ok (.bl (decide (a = b)))
  | _, _ => .stk
def flatD : D → Bool
  | .non => true
  | .bl _ => true
  | .int _ => true
  | .str _ => true
  | _ => false
/-- in a text of one sign, a list of data, a tuple of flat data -/
def inB : D → D → Option Bool
  | .str a, .str b => if a.length = 1 then some (decide (a.cps.getD 0 0 ∈ b.cps.toList)) else none
  | x, .lst ds => if (dOk x && dOk (.lst ds)) = true then some (ds.any fun z => eqP z x) else none
  | x, .tup ds => if (flatD x && ds.all flatD) = true then some (ds.any fun z => eqP z x) else none
  | _, _ => none
def inD (x y : D) : R D := match inB x y with | some b => .ok (.bl b) | none => .stk
def ninD (x y : D) : R D := match inB x y with | some b => .ok (.bl (!b)) | none => .stk
section
variable {K : PySem.W.Frag} {H : Hp} {P : Pr}
theorem RepW.isNon {d : D} {v : V} (h : RepW K H d P v) : decide (v = .non) = isNon d := by
  cases d with
  | non => rw [h.non]; rfl
  | bl _ => rw [h.bl]; rfl
  | int _ => rw [h.int]; rfl
  | str _ => rw [h.str]; rfl
  | tup _ => obtain ⟨a, vs, rfl, _⟩ := h.tup; rfl
  | lst _ => obtain ⟨a, vs, rfl, _⟩ := h.lst; rfl
  | arg _ => obtain ⟨a, rfl, _⟩ := h.arg; rfl
  | ftu _ => obtain ⟨a, vs, o, rfl, _⟩ := h.ftu; rfl
  | dik _ _ => obtain ⟨a, vs, rfl, _⟩ := h; rfl
  | dit _ _ => obtain ⟨a, vs, rfl, _⟩ := h; rfl
  | tab _ _ => obtain ⟨a, rfl, _⟩ := h; rfl
theorem flat_rep {d : D} {v : V} (f : flatD d = true) (h : Rep K H d P v) : flatV v = true := by
  cases d <;> unfold Rep at h <;> first | (subst h; rfl) | (simp [flatD] at f)
theorem flat_eq {d e : D} {v w : V} (f : flatD d = true) (g : flatD e = true) (h : Rep K H d P v) (h2 : Rep K H e P w) : eqV v w = eqP d e := by
  cases d <;> unfold Rep at h <;> first | (simp [flatD] at f; done) | skip
  all_goals (cases e <;> unfold Rep at h2 <;> first | (simp [flatD] at g; done) | skip)
  all_goals (subst h; subst h2; simp [eqV, eqP, toPy, PyData.eqv])
theorem flats_rep : ∀ {ds : List D} {vs : List V}, ds.all flatD = true → Reps K H ds P vs → vs.all flatV = true
  | [], _, _, h => by rw [h.nil_iff]; rfl
  | d :: ds, vs, f, h => by
    obtain ⟨v, ws, rfl, h1, h2⟩ := h.cons_iff
    rw [List.all_cons, Bool.and_eq_true] at f ⊢
    exact ⟨flat_rep f.1 h1, flats_rep f.2 h2⟩
theorem inV_rep {x : D} {v : V} (g : flatD x = true) (hx : Rep K H x P v) : ∀ {ds : List D} {vs : List V}, ds.all flatD = true → Reps K H ds P vs → inV v vs = ds.any fun z => eqP z x
  | [], _, _, h => by rw [h.nil_iff]; rfl
  | d :: ds, vs, f, h => by
    obtain ⟨w, ws, rfl, h1, h2⟩ := h.cons_iff
    rw [List.all_cons, Bool.and_eq_true] at f
    have ih := inV_rep g hx f.2 h2
    unfold inV at ih ⊢
    rw [List.any_cons, List.any_cons, ih, flat_eq f.1 g h1 hx]
theorem flatW {d : D} {v : V} (f : flatD d = true) (h : RepW K H d P v) : Rep K H d P v := by
  cases d <;> first | exact h | (simp [flatD] at f)
theorem dp_any {x : D} : ∀ ds : List D, ((toPys ds).any fun z => PyData.eqv z (toPy x)) = ds.any fun z => eqP z x
  | [] => rfl
  | d :: ds => by unfold toPys; rw [List.any_cons, List.any_cons, dp_any ds]; rfl
end
section
variable {X : Cx}
theorem od_eq (hu : X.A.units + 64 < cLine) : OpR X (compareOp .Eq) (rD X.K eqD) := by
  intro pins s σ H x y v u Q I rx ry ⟨P, dx, dy, dz, hm, r1, r2, e, out⟩
  unfold eqD at e
  split at e
  · rename_i c; cases e
    rw [Bool.and_eq_true] at c
    exact op_eqD hu pins s σ H x y v u Q I rx ry ⟨_, _, r1.dp c.1, r2.dp c.2, c.1, c.2, out.bl⟩
  · cases e
theorem od_ne (hu : X.A.units + 64 < cLine) : OpR X (compareOp .NotEq) (rD X.K neD) := by
  intro pins s σ H x y v u Q I rx ry ⟨P, dx, dy, dz, hm, r1, r2, e, out⟩
  unfold neD at e
  split at e
  · rename_i c; cases e
    rw [Bool.and_eq_true] at c
    exact op_neD hu pins s σ H x y v u Q I rx ry ⟨_, _, r1.dp c.1, r2.dp c.2, c.1, c.2, out.bl⟩
  · cases e
theorem od_cmp {op : CmpOp} {f : D → D → R D} {p : Int → Int → Bool} (ho : OpR X (compareOp op) (rI0 fun i j => .bl (p i j))) (hf : ∀ x y z, f x y = .ok z → ∃ i j, x = .int i ∧ y = .int j ∧ z = .bl (p i j)) : OpR X (compareOp op) (rD X.K f) := by
  intro pins s σ H x y v u Q I rx ry ⟨P, dx, dy, dz, hm, r1, r2, e, out⟩
  obtain ⟨i, j, rfl, rfl, rfl⟩ := hf _ _ _ e
  obtain rfl := r1.int
  obtain rfl := r2.int
  exact ho pins s σ H _ _ v u Q I rx ry ⟨_, _, rfl, rfl, out.bl⟩
theorem od_le : OpR X (compareOp .LtE) (rD X.K leD) := od_cmp op_le fun x y z e => by
  cases x <;> cases y <;> simp only [leD, R.ok.injEq, reduceCtorEq] at e
  exact ⟨_, _, rfl, rfl, e.symm⟩
theorem od_gt : OpR X (compareOp .Gt) (rD X.K gtD) := od_cmp op_gt fun x y z e => by
  cases x <;> cases y <;> simp only [gtD, R.ok.injEq, reduceCtorEq] at e
  exact ⟨_, _, rfl, rfl, e.symm⟩
theorem od_ge : OpR X (compareOp .GtE) (rD X.K geD) := od_cmp op_ge fun x y z e => by
  cases x <;> cases y <;> simp only [geD, R.ok.injEq, reduceCtorEq] at e
  exact ⟨_, _, rfl, rfl, e.symm⟩
theorem od_lt : OpR X (compareOp .Lt) (rD X.K ltD) := by
  intro pins s σ H x y v u Q I rx ry ⟨P, dx, dy, dz, hm, r1, r2, e, out⟩
  cases dx <;> cases dy <;> simp only [ltD, R.ok.injEq, reduceCtorEq] at e
  · subst e
    obtain rfl := r1.int
    obtain rfl := r2.int
    exact op_lt pins s σ H _ _ v u Q I rx ry ⟨_, _, rfl, rfl, out.bl⟩
  · subst e
    obtain rfl := r1.str
    obtain rfl := r2.str
    exact op_lt_str pins s σ H _ _ v u Q I rx ry ⟨_, _, rfl, rfl, out.bl⟩
theorem od_is : OpR X (compareOp .Is) (rD X.K isD) := by
  intro pins s σ H x y v u Q I rx ry ⟨P, dx, dy, dz, hm, r1, r2, e, out⟩
  unfold isD at e
  split at e
  · cases e
    obtain rfl := r2.non
    exact op_isN pins s σ H _ _ v u Q I rx ry ⟨rfl, by rw [r1.isNon]; exact out.bl⟩
  · cases e
    obtain rfl := r1.bl
    obtain rfl := r2.bl
    exact op_is_bl pins s σ H _ _ v u Q I rx ry ⟨_, _, rfl, rfl, out.bl⟩
  · cases e
theorem one_sign {a : Str} (h : a.length = 1) : a = ⟨#[a.cps.getD 0 0]⟩ := by
  refine Str.ext' ?_
  have h : a.cps.size = 1 := h
  apply Array.ext
  · simpa using h
  · intro i h1 h2
    have : i = 0 := by simp at h2; omega
    subst this
    simp [Array.getD, h]
theorem od_nin (hu : X.A.units + 65 < cLine) : OpR X (compareOp .NotIn) (rD X.K ninD) := by
  intro pins s σ H x y v u Q I rx ry ⟨P, dx, dy, dz, hm, r1, r2, e, out⟩
  unfold ninD at e
  split at e
  · rename_i b eb
    cases e
    unfold inB at eb
    split at eb
    · split at eb
      · rename_i c; cases eb
        obtain rfl := r1.str
        obtain rfl := r2.str
        refine op_notIn_sign pins s σ H _ _ v u Q I rx ry ⟨_, _, congrArg V.str (one_sign c), rfl, out.bl⟩
      · cases eb
    · split at eb
      · rename_i c; cases eb
        rw [Bool.and_eq_true] at c
        refine op_notInD hu pins s σ H _ _ v u Q I rx ry ⟨_, toPys _, r1.dp c.1, by have q := r2.dp c.2; unfold toPy at q; exact q, c.1, by have q := c.2; unfold dOk toPy at q; exact q, ?_⟩
        rw [dp_any]
        exact out.bl
      · cases eb
    · split at eb
      · rename_i c; cases eb
        rw [Bool.and_eq_true] at c
        obtain ⟨a, vs, rfl, h1, h2⟩ := r2.tup
        refine op_notIn_seq pins s σ H _ _ v u Q I rx ry ⟨a, vs, rfl, .inr (SqT.of h1), flat_rep c.1 (flatW c.1 r1), flats_rep c.2 h2, ?_⟩
        rw [if_pos rfl, inV_rep c.1 (flatW c.1 r1) c.2 h2]
        exact out.bl
      · cases eb
    · cases eb
  · cases e
end
end Y

set_option Elab.async false
set_option linter.all false
set_option maxRecDepth 100000
namespace Y
open PySem PySem.Spec PyProof.Rows L2

section
variable {X : Cx} {P0 : Pr} {O W : List Nat} {E : EK} {a b c : Expr} {ma mb mc : EM} {pos : Pos}
theorem ce_bin {op : Operator} {f : D → D → R D} (ho : OpR X (binaryOp op) (rD X.K f)) (ha : CEx X P0 O W E a ma) (hb : CEx X P0 O W E b mb) : CEx X P0 O W E (.BinOp a op b pos) (cOp f ma mb) := PE.imp (pe_op ho ha hb) tM_op
theorem ce_cmp {op : CmpOp} {f : D → D → R D} (ho : OpR X (compareOp op) (rD X.K f)) (ha : CEx X P0 O W E a ma) (hb : CEx X P0 O W E b mb) (hm : behindInMarks op b = false := by rfl) : CEx X P0 O W E (.Compare a [op] [b] pos) (cOp f ma mb) := PE.imp (pe_cmpR ho ha hb hm) tM_op
/-- a handle's truth -/
def truD : D → R Bool
  | .non => .ok false
  | .bl b => .ok b
  | .int i => .ok (i != 0)
  | .str x => if szOk x.length = true then .ok (x.length != 0) else .stk
  | .tup ds => .ok (!ds.isEmpty)
  | .lst ds => .ok (!ds.isEmpty)
  | .arg ns => .ok (!ns.isEmpty)
  | .dik _ _ => .stk
  | .dit _ _ => .stk
  | .ftu ds => .ok (!ds.isEmpty)
  | .tab _ _ => .stk
theorem truD_ok {K : PySem.W.Frag} {H : Hp} {P : Pr} {d : D} {v : V} {k : Bool} (h : truD d = .ok k) (r : RepW K H d P v) : TruV K v H k := by
  cases d <;> simp only [truD, R.ok.injEq, reduceCtorEq] at h
  · rw [r.non]; exact h.symm
  · rw [r.bl]; exact h.symm
  · rw [r.int]; exact h.symm
  · split at h
    · rename_i c; cases h
      rw [r.str]
      exact ⟨of_decide_eq_true c, by
        show (_ != _) = (_ != _)
        simp only [bne, Nat.beq_eq_true_eq]
        congr 1
        exact Bool.eq_iff_iff.mpr (by simp)⟩
    · cases h
  · obtain ⟨a, vs, rfl, h1, h2⟩ := r.tup
    refine .inr (.inl ⟨vs, SqT.of h1, ?_⟩)
    rw [← h]
    rename_i ds
    have := h2.length
    cases vs <;> cases ds <;> simp at this ⊢
  · obtain ⟨a, vs, rfl, h1, h2⟩ := r.lst
    refine .inl ⟨vs, SqL.of h1, ?_⟩
    rw [← h]
    rename_i ds
    have := h2.length
    cases vs <;> cases ds <;> simp at this ⊢
  · obtain ⟨a, rfl, h1⟩ := r.arg
    refine .inl ⟨_, h1, ?_⟩
    rw [← h]
    rename_i ns
    cases ns <;> rfl
  · obtain ⟨a, vs, o, rfl, h1, hdn, h2⟩ := r.ftu
    clear hdn
    refine .inr (.inl ⟨vs, SqT.fz h1, ?_⟩)
    rw [← h]
    rename_i ds
    have := h2.length
    cases vs <;> cases ds <;> simp at this ⊢
abbrev CT (X : Cx) (P0 : Pr) (O W : List Nat) (E : EK) (e : Expr) (m : BM) : Prop := PT X e (tMt X.K P0 O W E m)
def cTru (m : EM) : BM := fun ρ => do
  let (h, ρ1) ← m ρ
  let d ← (h.d ρ1).nox
  let b ← (truD d).nox
  pure (b, ρ1)
theorem ct_val (ha : CEx X P0 O W E a ma) (he : ∀ whole, isTrue a X.env whole = (do let v ← whole; standAt a.pos; holding [v] (truthy v)) := by intro _; rfl) : CT X P0 O W E a (cTru ma) := PT.imp (pt_truth ha he) fun σ H Q ⟨ρ, S, h⟩ =>
  ⟨ρ, S, h.of_bind.mono fun ⟨h1, ρ1⟩ q v H1 S1 k1 r1 => by
    obtain ⟨d, e1, q⟩ := q.of_nox
    obtain ⟨k, e2, q⟩ := q.of_nox
    exact ⟨k, truD_ok e2 (r1.d S1 e1), q H1 S1 k1⟩⟩
/-- a comparison as a test -/
def cBl (m : EM) : BM := fun ρ => do
  let (h, ρ1) ← m ρ
  let d ← h.v.nox
  match d with
  | .bl k => pure (k, ρ1)
  | _ => .stk
theorem tM_bl {m : EM} (σ : St) (H : Hp) (Q : Bool → Hp → Prop) (h : tMt X.K P0 O W E (cBl m) σ H Q) : tTest (tM X.K P0 O W E m) σ H Q := by
  obtain ⟨ρ, S, h⟩ := h
  refine ⟨ρ, S, h.of_bind.mono fun ⟨h1, ρ1⟩ q v H1 S1 k1 r1 => ?_⟩
  obtain ⟨d, e1, q⟩ := q.of_nox
  have r := r1.v e1
  cases d <;> first | (exact q.elim) | skip
  unfold Rep at r
  exact ⟨_, r, q H1 S1 k1⟩
theorem tTest_imp {t t' : TE} (i : ∀ σ H Q, t' σ H Q → t σ H Q) {σ : St} {H : Hp} {Q : Bool → Hp → Prop} (h : tTest t' σ H Q) : tTest t σ H Q := i σ H _ h
theorem ct_cmp {op : CmpOp} {f : D → D → R D} (ho : OpR X (compareOp op) (rD X.K f)) (ha : CEx X P0 O W E a ma) (hb : CEx X P0 O W E b mb) (hm : behindInMarks op b = false := by rfl) : CT X P0 O W E (.Compare a [op] [b] pos) (cBl (cOp f ma mb)) := PT.imp (pt_cmpR ho ha hb hm) fun σ H Q h => tTest_imp tM_op (tM_bl σ H Q h)
def cNotT (m : BM) : BM := fun ρ => do
  let (b, ρ1) ← m ρ
  pure (!b, ρ1)
theorem ct_not {m : BM} (h : CT X P0 O W E a m) : CT X P0 O W E (.UnaryOp .Not a pos) (cNotT m) := PT.imp (pt_not h) fun σ H Q ⟨ρ, S, h⟩ => ⟨ρ, S, h.of_bind.mono fun ⟨b, ρ1⟩ q => q⟩
abbrev CW (X : Cx) (P0 : Pr) (O W : List Nat) (E : EK) (e : Expr) (m : BM) : Prop := PW X e (tMt X.K P0 O W E m)
def cOrT (a b : BM) : BM := fun ρ => do
  let (k, ρ1) ← a ρ
  if k = true then pure (true, ρ1) else b ρ1
theorem cw_or1 {m : BM} (h : CT X P0 O W E a m) : CW X P0 O W E (.BoolOp .Or [a] pos) m := pw_or1 h
theorem cw_or {rest : List Expr} {m n : BM} (h : CT X P0 O W E a m) (h2 : CW X P0 O W E (.BoolOp .Or (b :: rest) pos) n) : CW X P0 O W E (.BoolOp .Or (a :: b :: rest) pos) (cOrT m n) := PW.imp (pw_or h h2) fun σ H Q ⟨ρ, S, h⟩ =>
  ⟨ρ, S, h.of_bind.mono fun ⟨k, ρ1⟩ q H1 S1 k1 => by
    cases k with
    | false => exact ⟨ρ1, S1, (q.keep k1).mono fun ⟨k2, ρ2⟩ q2 H2 S2 k3 => q2 H2 S2 (k1.trans k3)⟩
    | true => exact q H1 S1 k1⟩
theorem ct_w {m : BM} (h : CW X P0 O W E a m) : CT X P0 O W E a m := h.pt
theorem HdR.then {K : PySem.W.Frag} {ρ : Env} {σ : St} {H H1 H2 : Hp} {hd : Hd} {v : V} (k : Keep W σ H H1) (r : HdR K P0 O H1 σ H2 hd v) : HdR K P0 O H σ H2 hd v := r.back k.some
def cAnd (a b : EM) : EM := fun ρ => do
  let (h, ρ1) ← a ρ
  let d ← (h.d ρ1).nox
  let k ← (truD d).nox
  if k = true then b ρ1 else pure (h, ρ1)
def cNot (m : EM) : EM := fun ρ => do
  let (h, ρ1) ← m ρ
  let d ← (h.d ρ1).nox
  let k ← (truD d).nox
  pure (.fr (.bl (!k)), ρ1)
theorem ce_one {op : BoolOp} (h : CEx X P0 O W E a ma) : CEx X P0 O W E (.BoolOp op [a] pos) ma := pe_one h
theorem ce_and {rest : List Expr} (h : CEx X P0 O W E a ma) (h2 : CEx X P0 O W E (.BoolOp .And (b :: rest) pos) mb) : CEx X P0 O W E (.BoolOp .And (a :: b :: rest) pos) (cAnd ma mb) := PE.imp (pe_andT h h2) fun σ H Q ⟨ρ, S, h⟩ =>
  ⟨ρ, S, h.of_bind.mono fun ⟨h1, ρ1⟩ q v H1 S1 k1 r1 => by
    obtain ⟨d, e1, q⟩ := q.of_nox
    obtain ⟨k, e2, q⟩ := q.of_nox
    refine ⟨k, truD_ok e2 (r1.d S1 e1), ?_⟩
    cases k with
    | true => exact ⟨ρ1, S1, (q.keep k1).mono fun ⟨h2, ρ2⟩ q2 w H2 S2 k2 r2 => q2 w H2 S2 (k1.trans k2) (r2.back k1.some)⟩
    | false => exact q v H1 S1 k1 r1⟩
theorem ce_not (h : CEx X P0 O W E a ma) : CEx X P0 O W E (.UnaryOp .Not a pos) (cNot ma) := PE.imp (pe_notT h) fun σ H Q ⟨ρ, S, h⟩ =>
  ⟨ρ, S, h.of_bind.mono fun ⟨h1, ρ1⟩ q v H1 S1 k1 r1 => by
    obtain ⟨d, e1, q⟩ := q.of_nox
    obtain ⟨k, e2, q⟩ := q.of_nox
    exact ⟨k, truD_ok e2 (r1.d S1 e1), (out_of S1 k1 q).bl⟩⟩
def cChain2 (g : D → D → R D) (c : EM) (h2 : Hd) : EM := fun ρ2 => do
  let (h3, ρ3) ← c ρ2
  let y ← (h2.d ρ3).nox
  let w ← (h3.d ρ3).nox
  let z ← (g y w).nox
  pure (.fr z, ρ3)
def cChain (f g : D → D → R D) (a b c : EM) : EM := fun ρ => do
  let (h1, ρ1) ← a ρ
  let (h2, ρ2) ← b ρ1
  let x ← (h1.d ρ2).nox
  let y ← (h2.d ρ2).nox
  let z ← (f x y).nox
  match z with
  | .bl k => if k = true then cChain2 g c h2 ρ2 else .ok (.fr (.bl false), ρ2)
  | _ => .stk
theorem tM_chain {f g : D → D → R D} (σ : St) (H : Hp) (Q : VK) (h : tM X.K P0 O W E (cChain f g ma mb mc) σ H Q) : tChain (rD X.K f) (rD X.K g) (tM X.K P0 O W E ma) (tM X.K P0 O W E mb) (tM X.K P0 O W E mc) σ H Q := by
  obtain ⟨ρ, S, h⟩ := h
  refine ⟨ρ, S, h.of_bind.mono fun ⟨h1, ρ1⟩ q x H1 S1 k1 r1 => ⟨ρ1, S1, (q.keep k1).of_bind.mono fun ⟨h2, ρ2⟩ q2 y H2 S2 k2 r2 => ?_⟩⟩
  obtain ⟨dx, e1, q3⟩ := q2.of_nox
  obtain ⟨dy, e2, q4⟩ := q3.of_nox
  obtain ⟨dz, e3, q5⟩ := q4.of_nox
  refine ⟨FA P0 O σ, dx, dy, dz, S2.dom, (r1.keep S1 k2).d S2 e1, r2.d S2 e2, e3, fun v H3 sm r fr => ?_⟩
  cases dz <;> first | (exact q5.elim) | skip
  rename_i bb
  unfold Rep at r
  refine ⟨bb, r, ?_⟩
  have k3 : Keep W σ H2 H3 := Keep.same sm
  have S3 := S2.same sm
  cases bb with
  | false =>
    refine (if_neg Bool.false_ne_true).mpr ?_
    exact (q5 : ∀ v H', _) (.bl false) H3 S3 ((k1.trans k2).trans k3) ⟨by unfold Rep; rfl, fun z => by cases z⟩
  | true =>
    have q5 : Res E W σ H1 (cChain2 g mc h2 ρ2) _ := q5
    unfold cChain2 at q5
    refine (if_pos rfl).mpr ⟨ρ2, S3, (q5.keep (k2.trans k3)).of_bind.mono fun ⟨h3, ρ3⟩ q6 w H4 S4 k4 r4 => ?_⟩
    obtain ⟨dy2, e5, q7⟩ := q6.of_nox
    obtain ⟨dw, e6, q8⟩ := q7.of_nox
    obtain ⟨du, e7, q9⟩ := q8.of_nox
    exact ⟨FA P0 O σ, dy2, dw, du, S4.dom, ((r2.keep S2 k3).keep S3 k4).d S4 e5, r4.d S4 e6, e7, out_of S4 (((k1.trans k2).trans k3).trans k4) q9⟩
theorem ce_chain {op op' : CmpOp} {f g : D → D → R D} (ho : OpR X (compareOp op) (rD X.K f)) (ho' : OpR X (compareOp op') (rD X.K g)) (ha : CEx X P0 O W E a ma) (hb : CEx X P0 O W E b mb) (hc : CEx X P0 O W E c mc)
    (hm : lastMarks [op, op'] [b, c] = false := by with_unfolding_all rfl) : CEx X P0 O W E (.Compare a [op, op'] [b, c] pos) (cChain f g ma mb mc) := PE.imp (pe_chain ho ho' ha hb hc hm) tM_chain
def cNeg (m : EM) : EM := fun ρ => do
  let (h, ρ1) ← m ρ
  let d ← h.v.nox
  match d with
  | .int i => pure (.fr (.int (-i)), ρ1)
  | _ => .stk
theorem ce_neg (h : CEx X P0 O W E a ma) : CEx X P0 O W E (.UnaryOp .USub a pos) (cNeg ma) := PE.imp (pe_un un_neg h) fun σ H Q ⟨ρ, S, h⟩ =>
  ⟨ρ, S, h.of_bind.mono fun ⟨h1, ρ1⟩ q v H1 S1 k1 r1 => by
    obtain ⟨d, e1, q⟩ := q.of_nox
    have r := r1.v e1
    cases d <;> first | (exact q.elim) | skip
    unfold Rep at r
    exact ⟨_, r, (out_of S1 k1 q).int⟩⟩
end
end Y

set_option Elab.async false
set_option linter.all false
set_option maxRecDepth 100000
namespace Y
open PySem PySem.Spec PyProof.Rows L2

def cNil : AM := fun ρ => .ok ([], ρ)
def cCons (a : EM) (as : AM) : AM := fun ρ => do
  let (h, ρ1) ← a ρ
  let (hs, ρ2) ← as ρ1
  pure (h :: hs, ρ2)
def vsOf : List Hd → R (List D)
  | [] => .ok []
  | h :: hs => do
    let d ← h.v.nox
    let ds ← vsOf hs
    pure (d :: ds)
def dsOf : List Hd → Env → R (List D)
  | [], _ => .ok []
  | h :: hs, ρ => do
    let d ← (h.d ρ).nox
    let ds ← dsOf hs ρ
    pure (d :: ds)
def RepWs (K : PySem.W.Frag) (H : Hp) : List D → Pr → List V → Prop
  | [], _, vs => vs = []
  | d :: ds, P, vs => ∃ v ws, vs = v :: ws ∧ RepW K H d P v ∧ RepWs K H ds P ws
theorem R.ok_of {α β : Type} {r : R α} {f : α → R β} {b : β} (h : (r >>= f) = .ok b) : ∃ a, r = .ok a ∧ f a = .ok b := by
  cases r with
  | ok a => exact ⟨a, rfl, h⟩
  | er c ds => cases h
  | stk => cases h
theorem R.nox_of {α : Type} {r : R α} {a : α} (h : r.nox = .ok a) : r = .ok a := by cases r <;> first | exact h | cases h
theorem RepWs.get1 {K : PySem.W.Frag} {H : Hp} {d : D} {P : Pr} {vs : List V} (h : RepWs K H [d] P vs) : ∃ v, vs = [v] ∧ RepW K H d P v := by
  obtain ⟨v, ws, rfl, h1, h2⟩ := h
  have h2 : ws = [] := h2
  subst h2
  exact ⟨v, rfl, h1⟩
theorem RepWs.get2 {K : PySem.W.Frag} {H : Hp} {d e : D} {P : Pr} {vs : List V} (h : RepWs K H [d, e] P vs) : ∃ v w, vs = [v, w] ∧ RepW K H d P v ∧ RepW K H e P w := by
  obtain ⟨v, ws, rfl, h1, h2⟩ := h
  obtain ⟨w, rfl, h3⟩ := RepWs.get1 h2
  exact ⟨v, w, rfl, h1, h3⟩
section
variable {K : PySem.W.Frag} {P0 : Pr} {O W : List Nat} {ρ : Env} {σ : St} {Hs H : Hp}
theorem HdRs.vs : ∀ {hs : List Hd} {vs : List V} {ds : List D}, HdRs K P0 O Hs σ H hs vs → vsOf hs = .ok ds → Reps K H ds (FA P0 O σ) vs
  | [], _, _, r, e => by cases e; have r : _ = [] := r; subst r; exact Reps.nil
  | h :: hs, _, _, ⟨v, ws, e, r1, r2⟩, q => by
    obtain ⟨d, e1, q⟩ := R.ok_of q
    obtain ⟨ds, e2, q⟩ := R.ok_of q
    cases q
    subst e
    exact Reps.cons (r1.v (R.nox_of e1)) (HdRs.vs r2 e2)
theorem HdRs.ds (S : Sim K P0 O W ρ σ H) : ∀ {hs : List Hd} {vs : List V} {ds : List D}, HdRs K P0 O Hs σ H hs vs → dsOf hs ρ = .ok ds → RepWs K H ds (FA P0 O σ) vs
  | [], _, _, r, e => by cases e; exact r
  | h :: hs, _, _, ⟨v, ws, e, r1, r2⟩, q => by
    obtain ⟨d, e1, q⟩ := R.ok_of q
    obtain ⟨ds, e2, q⟩ := R.ok_of q
    cases q
    subst e
    exact ⟨v, ws, rfl, r1.d S (R.nox_of e1), HdRs.ds S r2 e2⟩
end
section
variable {X : Cx} {P0 : Pr} {O W : List Nat} {E : EK} {a b c e : Expr} {es : List Expr} {ma mb mc : EM} {ms : AM} {pos : Pos}
abbrev CA (X : Cx) (P0 : Pr) (O W : List Nat) (E : EK) (es : List Expr) (m : AM) : Prop := PA X es (tMs X.K P0 O W E m)
theorem ca_nil : CA X P0 O W E [] cNil := PA.imp pa_nil fun σ H Q ⟨ρ, S, h⟩ => h [] H S .refl rfl
theorem ca_cons (h : CEx X P0 O W E e ma) (hs : CA X P0 O W E es ms) (hst : starEach (e :: es) X.env = (false, eval e X.env) :: starEach es X.env := by rfl) : CA X P0 O W E (e :: es) (cCons ma ms) := PA.imp (pa_cons h hs hst) fun σ H Q ⟨ρ, S, h⟩ =>
  ⟨ρ, S, h.of_bind.mono fun ⟨h1, ρ1⟩ q v H1 S1 k1 r1 => ⟨ρ1, S1, (q.keep k1).of_bind.mono fun ⟨hs, ρ2⟩ q2 vs H2 S2 k2 r2 => q2 _ H2 S2 (k1.trans k2) ⟨v, vs, rfl, r1.keep S1 k2, HdRs.back k1.some r2⟩⟩⟩
def cTup (m : AM) : EM := fun ρ => do
  let (hs, ρ1) ← m ρ
  let ds ← (vsOf hs).nox
  if szOk ds.length = true then pure (.fr (.tup ds), ρ1) else .stk
def cLst (m : AM) : EM := fun ρ => do
  let (hs, ρ1) ← m ρ
  let ds ← (vsOf hs).nox
  if szOk ds.length = true then pure (.fr (.lst ds), ρ1) else .stk
theorem ce_tup {x1} (h : CA X P0 O W E es ms) : CEx X P0 O W E (.Tuple es x1 pos) (cTup ms) := PE.imp (pe_tup h) fun σ H Q ⟨ρ, S, h⟩ =>
  ⟨ρ, S, h.of_bind.mono fun ⟨hs, ρ1⟩ q vs H1 S1 k1 r1 => by
    obtain ⟨ds, e1, q⟩ := q.of_nox
    have rr := HdRs.vs r1 e1
    by_cases c : szOk ds.length = true
    · rw [if_pos c] at q
      exact ⟨by rw [rr.length]; exact of_decide_eq_true c, fun p hp => (out_of S1 k1 q).newT S1.dom rr hp⟩
    · rw [if_neg c] at q
      exact q.elim⟩
theorem ce_lst (h : CA X P0 O W E es ms) : CEx X P0 O W E (.List es pos) (cLst ms) := PE.imp (pe_lst h) fun σ H Q ⟨ρ, S, h⟩ =>
  ⟨ρ, S, h.of_bind.mono fun ⟨hs, ρ1⟩ q vs H1 S1 k1 r1 => by
    obtain ⟨ds, e1, q⟩ := q.of_nox
    have rr := HdRs.vs r1 e1
    by_cases c : szOk ds.length = true
    · rw [if_pos c] at q
      exact ⟨by rw [rr.length]; exact of_decide_eq_true c, fun p hp => (out_of S1 k1 q).newL S1.dom rr hp⟩
    · rw [if_neg c] at q
      exact q.elim⟩

def cCall (f : List D → R D) (m : AM) : EM := fun ρ => do
  let (hs, ρ1) ← m ρ
  let ds ← (dsOf hs ρ1).nox
  let z ← (f ds).nox
  pure (.fr z, ρ1)
def rDs (K : PySem.W.Frag) (f : List D → R D) : List V → Hp → VK → Prop := fun xs H Q => ∃ (P : Pr) (ds : List D) (dz : D), (∀ b, P b → isMut (H b)) ∧ RepWs K H ds P xs ∧ f ds = .ok dz ∧ Out K P H dz Q
theorem tM_call {f : List D → R D} (σ : St) (H : Hp) (Q : VK) (h : tM X.K P0 O W E (cCall f ms) σ H Q) : tCB (rDs X.K f) (tMs X.K P0 O W E ms) σ H Q := by
  obtain ⟨ρ, S, h⟩ := h
  refine ⟨ρ, S, h.of_bind.mono fun ⟨hs, ρ1⟩ q vs H1 S1 k1 r1 => ?_⟩
  obtain ⟨ds, e1, q⟩ := q.of_nox
  obtain ⟨z, e2, q⟩ := q.of_nox
  exact ⟨FA P0 O σ, ds, z, S1.dom, HdRs.ds S1 r1 e1, e2, out_of S1 k1 q⟩
theorem ce_callB {f : List D → R D} {id : String} {x : Str} {p : Pos} (hc : CallR X (.builtin id) (rDs X.K f)) (hm : X.mg x = none) (hv : bootBuiltins x = some (.builtin id)) (ha : CA X P0 O W E (e :: es) ms) (hg : Gl X x := by rfl) (hn : x ≠ "__name__" := by decide) (hdb : (x == ("__debug__" : Str)) = false := by decide)
    (he : starEach (e :: es) X.env = (false, eval e X.env) :: starEach es X.env := by rfl) (hpl : (backTo pos (starEach es X.env)).any (·.1) = false := by rfl) : CEx X P0 O W E (.Call (.Name x p) (e :: es) [] pos) (cCall f ms) := PE.imp (pe_callB hc hg hm hv ha hn hdb he hpl) tM_call
theorem ce_callT {f : List D → R D} {T : String} {x : Str} {p : Pos} (hc : CallR X (.type T) (rDs X.K f)) (hm : X.mg x = none) (hv : bootBuiltins x = some (.type T)) (ha : CA X P0 O W E (e :: es) ms) (hg : Gl X x := by rfl) (hn : x ≠ "__name__" := by decide) (hdb : (x == ("__debug__" : Str)) = false := by decide)
    (he : starEach (e :: es) X.env = (false, eval e X.env) :: starEach es X.env := by rfl) (hpl : (backTo pos (starEach es X.env)).any (·.1) = false := by rfl) : CEx X P0 O W E (.Call (.Name x p) (e :: es) [] pos) (cCall f ms) := PE.imp (pe_callTy hc hg hm hv ha hn hdb he hpl) tM_call
def lenD : List D → R D
  | [.str x] => if szOk x.length = true then .ok (.int x.length) else .stk
  | [.tup ds] => .ok (.int ds.length)
  | [.lst ds] => .ok (.int ds.length)
  | [.arg ns] => .ok (.int ns.length)
  | [.ftu ds] => .ok (.int ds.length)
  | _ => .stk
def max2D : List D → R D
  | [.int i, .int j] => .ok (.int (max i j))
  | _ => .stk
def min2D : List D → R D
  | [.int i, .int j] => .ok (.int (min i j))
  | _ => .stk
def divmodD : List D → R D
  | [.int i, .int j] => if smallPos j = true then .ok (.tup [.int (i / j), .int (i % j)]) else .stk
  | _ => .stk
/-- the ints of a list -/
def intsOf : List D → Option (List Int)
  | [] => some []
  | .int i :: ds => (intsOf ds).map (i :: ·)
  | _ => none
def blsOf : List D → Option (List Bool)
  | [] => some []
  | .bl i :: ds => (blsOf ds).map (i :: ·)
  | _ => none
def strsOf : List D → Option (List Str)
  | [] => some []
  | .str i :: ds => (strsOf ds).map (i :: ·)
  | _ => none
def sumD : List D → R D
  | [.lst ds] => match intsOf ds with
    | some ns => .ok (.int ns.sum)
    | none => .stk
  | _ => .stk
def allD : List D → R D
  | [.lst ds] => match blsOf ds with
    | some bs => .ok (.bl (bs.all id))
    | none => .stk
  | _ => .stk
/-- tuple(x), list(x) -/
def tupleD : List D → R D
  | [.lst ds] => .ok (.tup ds)
  | [.tup ds] => .ok (.tup ds)
  | [.ftu ds] => .ok (.ftu ds)
  | _ => .stk
def intOfD : List D → R D
  | [.int i] => .ok (.int i)
  | [.bl k] => .ok (.int (if k then 1 else 0))
  | [.str x] => if x.length = 1 ∧ 48 ≤ x.cps.getD 0 0 ∧ x.cps.getD 0 0 < 58 then .ok (.int ((x.cps.getD 0 0 : Nat) - 48)) else .stk
  | _ => .stk
def strOfD : List D → R D
  | [.int i] => if i.natAbs.log2 < 1920 then .ok (.str (toString i)) else .stk
  | _ => .stk
theorem ints_rep {K : PySem.W.Frag} {H : Hp} {P : Pr} : ∀ {ds : List D} {ns : List Int} {vs : List V}, intsOf ds = some ns → Reps K H ds P vs → vs = ns.map V.int
  | [], ns, vs, e, h => by simp [intsOf] at e; subst e; exact h.nil_iff
  | d :: ds, ns, vs, e, h => by
    cases d <;> simp [intsOf] at e
    obtain ⟨ms, e1, rfl⟩ := e
    obtain ⟨v, ws, rfl, h1, h2⟩ := h.cons_iff
    unfold Rep at h1
    rw [h1, ints_rep e1 h2]
    rfl
theorem bls_rep {K : PySem.W.Frag} {H : Hp} {P : Pr} : ∀ {ds : List D} {ns : List Bool} {vs : List V}, blsOf ds = some ns → Reps K H ds P vs → vs = ns.map V.bl
  | [], ns, vs, e, h => by simp [blsOf] at e; subst e; exact h.nil_iff
  | d :: ds, ns, vs, e, h => by
    cases d <;> simp [blsOf] at e
    obtain ⟨ms, e1, rfl⟩ := e
    obtain ⟨v, ws, rfl, h1, h2⟩ := h.cons_iff
    unfold Rep at h1
    rw [h1, bls_rep e1 h2]
    rfl
theorem strs_rep {K : PySem.W.Frag} {H : Hp} {P : Pr} : ∀ {ds : List D} {ns : List Str} {vs : List V}, strsOf ds = some ns → Reps K H ds P vs → vs = ns.map V.str
  | [], ns, vs, e, h => by simp [strsOf] at e; subst e; exact h.nil_iff
  | d :: ds, ns, vs, e, h => by
    cases d <;> simp [strsOf] at e
    obtain ⟨ms, e1, rfl⟩ := e
    obtain ⟨v, ws, rfl, h1, h2⟩ := h.cons_iff
    unfold Rep at h1
    rw [h1, strs_rep e1 h2]
    rfl
theorem int2_of {f : Int → Int → D} {g : List D → R D} {ds : List D} {z : D} (hg : ∀ ds, g ds = match ds with | [.int i, .int j] => .ok (f i j) | _ => .stk) (h : g ds = .ok z) : ∃ i j, ds = [.int i, .int j] ∧ z = f i j := by
  rw [hg] at h
  split at h
  · cases h; exact ⟨_, _, rfl, rfl⟩
  · cases h
theorem cd_len : CallR X (.builtin "len") (rDs X.K lenD) := by
  intro pins s σ H xs us Q I r ⟨P, ds, dz, hm, rs, e, out⟩
  unfold lenD at e
  split at e
  · split at e
    · rename_i c; cases e
      obtain ⟨v, rfl, r1⟩ := rs.get1
      obtain rfl := r1.str
      exact call_len pins s σ H _ us Q I r ⟨_, _, rfl, ⟨of_decide_eq_true c, rfl⟩, out.int⟩
    · cases e
  · cases e
    obtain ⟨v, rfl, r1⟩ := rs.get1
    obtain ⟨a, vs, rfl, h1, h2⟩ := r1.tup
    rw [← h2.length] at out
    exact call_len pins s σ H _ us Q I r ⟨_, _, rfl, .inr ⟨vs, SqT.of h1, rfl⟩, out.int⟩
  · cases e
    obtain ⟨v, rfl, r1⟩ := rs.get1
    obtain ⟨a, vs, rfl, h1, h2⟩ := r1.lst
    rw [← h2.length] at out
    exact call_len pins s σ H _ us Q I r ⟨_, _, rfl, .inl ⟨vs, SqL.of h1, rfl⟩, out.int⟩
  · cases e
    obtain ⟨v, rfl, r1⟩ := rs.get1
    obtain ⟨a, rfl, h1⟩ := r1.arg
    refine call_len pins s σ H _ us Q I r ⟨_, _, rfl, .inl ⟨_, h1, rfl⟩, ?_⟩
    rw [List.length_map]
    exact out.int
  · cases e
    obtain ⟨v, rfl, r1⟩ := rs.get1
    obtain ⟨a, vs, o, rfl, h1, _, h2⟩ := r1.ftu
    rw [← h2.length] at out
    exact call_len pins s σ H _ us Q I r ⟨_, _, rfl, .inr ⟨vs, SqT.fz h1, rfl⟩, out.int⟩
  · cases e
theorem cd_max (hc : X.calm = true) : CallR X (.builtin "max") (rDs X.K max2D) := by
  intro pins s σ H xs us Q I r ⟨P, ds, dz, hm, rs, e, out⟩
  obtain ⟨i, j, rfl, rfl⟩ := int2_of (f := fun i j => .int (max i j)) (fun ds => by unfold max2D; rfl) e
  obtain ⟨v, w, rfl, r1, r2⟩ := rs.get2
  obtain rfl := r1.int
  obtain rfl := r2.int
  refine call_max2 hc pins s σ H _ us Q I r ⟨i, j, rfl, ?_⟩
  rw [show (if j > i then j else i) = max i j by omega]
  exact out.int
theorem cd_min (hc : X.calm = true) : CallR X (.builtin "min") (rDs X.K min2D) := by
  intro pins s σ H xs us Q I r ⟨P, ds, dz, hm, rs, e, out⟩
  obtain ⟨i, j, rfl, rfl⟩ := int2_of (f := fun i j => .int (min i j)) (fun ds => by unfold min2D; rfl) e
  obtain ⟨v, w, rfl, r1, r2⟩ := rs.get2
  obtain rfl := r1.int
  obtain rfl := r2.int
  refine call_min2 hc pins s σ H _ us Q I r ⟨i, j, rfl, ?_⟩
  rw [show (if j < i then j else i) = min i j by omega]
  exact out.int
theorem cd_divmod : CallR X (.builtin "divmod") (rDs X.K divmodD) := by
  intro pins s σ H xs us Q I r ⟨P, ds, dz, hm, rs, e, out⟩
  unfold divmodD at e
  split at e
  · split at e
    · rename_i c; cases e
      obtain ⟨v, w, rfl, r1, r2⟩ := rs.get2
      obtain rfl := r1.int
      obtain rfl := r2.int
      refine call_divmod pins s σ H _ us Q I r ⟨_, _, rfl, by unfold smallPos at c; have c := of_decide_eq_true c; exact c, fun p hp => out.newT hm (Reps.cons (by unfold Rep; rfl) (Reps.cons (by unfold Rep; rfl) Reps.nil)) hp⟩
    · cases e
  · cases e
theorem cd_sum (hc : X.calm = true) : CallR X (.builtin "sum") (rDs X.K sumD) := by
  intro pins s σ H xs us Q I r ⟨P, ds, dz, hm, rs, e, out⟩
  unfold sumD at e
  split at e
  · split at e
    · rename_i ns c; cases e
      obtain ⟨v, rfl, r1⟩ := rs.get1
      obtain ⟨a, vs, rfl, h1, h2⟩ := r1.lst
      obtain rfl := ints_rep c h2
      exact cr_sum hc pins s σ H _ us Q I r ⟨a, ns, rfl, SqL.of h1, out.int⟩
    · cases e
  · cases e
theorem cd_all (hc : X.calm = true) : CallR X (.builtin "all") (rDs X.K allD) := by
  intro pins s σ H xs us Q I r ⟨P, ds, dz, hm, rs, e, out⟩
  unfold allD at e
  split at e
  · split at e
    · rename_i ns c; cases e
      obtain ⟨v, rfl, r1⟩ := rs.get1
      obtain ⟨a, vs, rfl, h1, h2⟩ := r1.lst
      obtain rfl := bls_rep c h2
      exact cr_all hc pins s σ H _ us Q I r ⟨a, ns, rfl, SqL.of h1, out.bl⟩
    · cases e
  · cases e
theorem cd_tuple : CallR X (.type "tuple") (rDs X.K tupleD) := by
  intro pins s σ H xs us Q I r ⟨P, ds, dz, hm, rs, e, out⟩
  unfold tupleD at e
  split at e
  · cases e
    obtain ⟨v, rfl, r1⟩ := rs.get1
    obtain ⟨a, vs, rfl, h1, h2⟩ := r1.lst
    exact call_tuple_of pins s σ H _ us Q I r ⟨a, vs, rfl, .inl ⟨SqL.of h1, fun l hl => out.newT hm h2 hl⟩⟩
  · cases e
    obtain ⟨v, rfl, r1⟩ := rs.get1
    obtain ⟨a, vs, rfl, h1, h2⟩ := r1.tup
    exact call_tuple_of pins s σ H _ us Q I r ⟨a, vs, rfl, .inr ⟨SqT.of h1, out.flat (Rep.tup_of h1 h2) rfl⟩⟩
  · cases e
    obtain ⟨v, rfl, r1⟩ := rs.get1
    obtain ⟨a, vs, o, rfl, h1, hd, h2⟩ := r1.ftu
    exact call_tuple_of pins s σ H _ us Q I r ⟨a, vs, rfl, .inr ⟨SqT.fz h1, out.flat (Rep.ftu_of h1 hd h2) rfl⟩⟩
  · cases e
theorem cd_str : CallR X (.type "str") (rDs X.K strOfD) := by
  intro pins s σ H xs us Q I r ⟨P, ds, dz, hm, rs, e, out⟩
  unfold strOfD at e
  split at e
  · split at e
    · rename_i c; cases e
      obtain ⟨v, rfl, r1⟩ := rs.get1
      obtain rfl := r1.int
      exact call_str_int pins s σ H _ us Q I r ⟨_, rfl, c, out.str⟩
    · cases e
  · cases e
theorem digit_text : ∀ c : Nat, 48 ≤ c → c < 58 → PySem.intText? ⟨#[c]⟩ = some ((c : Int) - 48) := by
  intro c h1 h2
  have : c = 48 ∨ c = 49 ∨ c = 50 ∨ c = 51 ∨ c = 52 ∨ c = 53 ∨ c = 54 ∨ c = 55 ∨ c = 56 ∨ c = 57 := by omega
  rcases this with rfl | rfl | rfl | rfl | rfl | rfl | rfl | rfl | rfl | rfl <;> decide +kernel
theorem cd_int : CallR X (.type "int") (rDs X.K intOfD) := by
  intro pins s σ H xs us Q I r ⟨P, ds, dz, hm, rs, e, out⟩
  unfold intOfD at e
  split at e
  · cases e
    obtain ⟨v, rfl, r1⟩ := rs.get1
    obtain rfl := r1.int
    exact call_int1 pins s σ H _ us Q I r (.inl ⟨_, rfl, out.int⟩)
  · cases e
    obtain ⟨v, rfl, r1⟩ := rs.get1
    obtain rfl := r1.bl
    exact call_int1 pins s σ H _ us Q I r (.inr ⟨_, rfl, out.int⟩)
  · split at e
    · rename_i x c; cases e
      obtain ⟨v, rfl, r1⟩ := rs.get1
      obtain rfl := r1.str
      refine call_int_str pins s σ H _ us Q I r ⟨x, _, rfl, ?_, by rw [c.1]; decide, out.int⟩
      have q := digit_text _ c.2.1 c.2.2
      rw [one_sign c.1]
      exact q
    · cases e
  · cases e
end
end Y

set_option Elab.async false
set_option linter.all false
set_option maxRecDepth 100000
namespace Y
open PySem PySem.Spec PyProof.Rows L2

def ixD : D → D → R D
  | .str x, .int i => match atI x.cps.toList i with
    | some c => if szOk x.length = true then .ok (.str ⟨#[c]⟩) else .stk
    | none => .stk
  | .tup ds, .int i => match atI ds i with | some d => .ok d | none => .stk
  | .lst ds, .int i => match atI ds i with | some d => .ok d | none => .stk
  | .arg ns, .int i => match atI ns i with | some n => .ok (.int n) | none => .stk
  | .ftu ds, .int i => match atI ds i with | some d => .ok d | none => .stk
  | _, _ => .stk
def cIx (a b : EM) : EM := fun ρ => do
  let (h1, ρ1) ← a ρ
  let (h2, ρ2) ← b ρ1
  let x ← (h1.d ρ2).nox
  let y ← (h2.d ρ2).nox
  let z ← (ixD x y).nox
  pure (.vl z, ρ2)
theorem Reps.atI {K : PySem.W.Frag} {H : Hp} {P : Pr} {ds : List D} {vs : List V} {i : Int} {d : D} (h : Reps K H ds P vs) (e : L2.atI ds i = some d) : ∃ v, L2.atI vs i = some v ∧ Rep K H d P v := by
  unfold L2.atI at e ⊢
  rw [h.length]
  cases q : ixN ds.length i with
  | none => rw [q] at e; cases e
  | some j => rw [q] at e; exact h.get e
theorem ints_atI {ns : List Int} {i n : Int} (e : atI ns i = some n) : atI (ns.map V.int) i = some (.int n) := by
  unfold atI at e ⊢
  rw [List.length_map]
  cases q : ixN ns.length i with
  | none => rw [q] at e; cases e
  | some j =>
    rw [q] at e
    show (ns.map V.int)[j]? = _
    rw [List.getElem?_map, show ns[j]? = some n from e]
    rfl
/-- the items of ds[lo:hi] -/
def cutD (ds : List D) (lo hi : Option Int) : List D := (ds.drop (HT.sIx ds.length 0 lo)).take (HT.sIx ds.length ds.length hi - HT.sIx ds.length 0 lo)
theorem Reps.drop {K : PySem.W.Frag} {H : Hp} {P : Pr} : ∀ (n : Nat) {ds : List D} {vs : List V}, Reps K H ds P vs → Reps K H (ds.drop n) P (vs.drop n)
  | 0, _, _, h => h
  | n + 1, [], _, h => by rw [h.nil_iff]; exact Reps.nil
  | n + 1, d :: ds, _, h => by
    obtain ⟨v, ws, rfl, _, h2⟩ := h.cons_iff
    exact Reps.drop n h2
theorem Reps.take {K : PySem.W.Frag} {H : Hp} {P : Pr} : ∀ (n : Nat) {ds : List D} {vs : List V}, Reps K H ds P vs → Reps K H (ds.take n) P (vs.take n)
  | 0, _, _, h => Reps.nil
  | n + 1, [], _, h => by rw [h.nil_iff]; exact Reps.nil
  | n + 1, d :: ds, _, h => by
    obtain ⟨v, ws, rfl, h1, h2⟩ := h.cons_iff
    exact Reps.cons h1 (Reps.take n h2)
theorem Reps.cut {K : PySem.W.Frag} {H : Hp} {P : Pr} {ds : List D} {vs : List V} (h : Reps K H ds P vs) (lo hi : Option Int) : Reps K H (cutD ds lo hi) P (cutV vs lo hi) := by
  unfold cutD cutV
  rw [h.length]
  exact (h.drop _).take _
def sliceD : D → Option Int → Option Int → R D
  | .str x, lo, hi => if szOk x.length = true then .ok (.str (cutS x lo hi)) else .stk
  | .tup ds, lo, hi => .ok (.tup (cutD ds lo hi))
  | .lst ds, lo, hi => .ok (.lst (cutD ds lo hi))
  | _, _, _ => .stk
abbrev OM := Env → R (Option Int × Env)
def cNoPart : OM := fun ρ => .ok (none, ρ)
def cPart (m : EM) : OM := fun ρ => do
  let (h, ρ1) ← m ρ
  let d ← h.v.nox
  match d with
  | .int i => pure (some i, ρ1)
  | _ => .stk
def cSlice (a : EM) (lo hi : OM) : EM := fun ρ => do
  let (h, ρ1) ← a ρ
  let (l, ρ2) ← lo ρ1
  let (u, ρ3) ← hi ρ2
  let d ← (h.d ρ3).nox
  let z ← (sliceD d l u).nox
  pure (.fr z, ρ3)
def tMo (K : PySem.W.Frag) (P0 : Pr) (O W : List Nat) (E : EK) (m : OM) : TO := fun σ H Q => ∃ ρ, Sim K P0 O W ρ σ H ∧ Res E W σ H (m ρ) fun a => ∀ H', Sim K P0 O W a.2 σ H' → Keep W σ H H' → Q a.1 H'
theorem PO.imp {X : Cx} {e : Option Expr} {t t' : TO} (h : PO X e t) (i : ∀ σ H Q, t' σ H Q → t σ H Q) : PO X e t' := by
  cases h with
  | mk h => exact ⟨fun pins s σ H Q I q => h pins s σ H Q I (i σ H Q q)⟩
section
variable {X : Cx} {P0 : Pr} {O W : List Nat} {E : EK} {a b c e : Expr} {es : List Expr} {ma mb mc : EM} {ms : AM} {pos : Pos}
abbrev CO (X : Cx) (P0 : Pr) (O W : List Nat) (E : EK) (e : Option Expr) (m : OM) : Prop := PO X e (tMo X.K P0 O W E m)
theorem co_none : CO X P0 O W E none cNoPart := PO.imp po_none fun σ H Q ⟨ρ, S, h⟩ => h H S .refl
theorem co_some (h : CEx X P0 O W E e ma) : CO X P0 O W E (some e) (cPart ma) := PO.imp (po_some h) fun σ H Q ⟨ρ, S, h⟩ =>
  ⟨ρ, S, h.of_bind.mono fun ⟨h1, ρ1⟩ q v H1 S1 k1 r1 => by
    obtain ⟨d, e1, q⟩ := q.of_nox
    have r := r1.v e1
    cases d <;> first | (exact q.elim) | skip
    unfold Rep at r
    exact ⟨_, r, q H1 S1 k1⟩⟩
theorem ce_ix (ha : CEx X P0 O W E a ma) (hb : CEx X P0 O W E b mb) (hs : PlainIx b := by intro _ _; rfl) : CEx X P0 O W E (.Subscript a b pos) (cIx ma mb) := PE.imp (pe_ix ix_seq ha hb hs) fun σ H Q ⟨ρ, S, h⟩ => by
  refine ⟨ρ, S, h.of_bind.mono fun ⟨h1, ρ1⟩ q x H1 S1 k1 r1 => ⟨ρ1, S1, (q.keep k1).of_bind.mono fun ⟨h2, ρ2⟩ q2 y H2 S2 k2 r2 => ?_⟩⟩
  obtain ⟨dx, e1, q3⟩ := q2.of_nox
  obtain ⟨dy, e2, q4⟩ := q3.of_nox
  obtain ⟨dz, e3, q5⟩ := q4.of_nox
  have rx := (r1.keep S1 k2).d S2 e1
  have ry := r2.d S2 e2
  have fin : ∀ v, Rep X.K H2 dz (FA P0 O σ) v → Q v H2 := fun v r => q5 v H2 S2 (k1.trans k2) r
  unfold ixD at e3
  split at e3
  · split at e3
    · split at e3
      · rename_i c' hc z; cases e3
        obtain rfl := rx.str
        obtain rfl := ry.int
        exact .inr (.inr ⟨_, _, _, rfl, rfl, of_decide_eq_true z, hc, fin _ (by unfold Rep; rfl)⟩)
      · cases e3
    · cases e3
  · split at e3
    · rename_i d hd; cases e3
      obtain ⟨p, vs, rfl, t1, t2⟩ := rx.tup
      obtain rfl := ry.int
      obtain ⟨v, e4, r4⟩ := t2.atI hd
      exact .inr (.inl ⟨p, vs, _, v, rfl, rfl, SqT.of t1, e4, fin v r4⟩)
    · cases e3
  · split at e3
    · rename_i d hd; cases e3
      obtain ⟨p, vs, rfl, t1, t2⟩ := rx.lst
      obtain rfl := ry.int
      obtain ⟨v, e4, r4⟩ := t2.atI hd
      exact .inl ⟨p, vs, _, v, rfl, rfl, SqL.of t1, e4, fin v r4⟩
    · cases e3
  · split at e3
    · rename_i d hd; cases e3
      obtain ⟨p, rfl, t1⟩ := rx.arg
      obtain rfl := ry.int
      exact .inl ⟨p, _, _, _, rfl, rfl, t1, ints_atI hd, fin _ (by unfold Rep; rfl)⟩
    · cases e3
  · split at e3
    · rename_i d hd; cases e3
      obtain ⟨p, vs, o, rfl, t1, _, t2⟩ := rx.ftu
      obtain rfl := ry.int
      obtain ⟨v, e4, r4⟩ := t2.atI hd
      exact .inr (.inl ⟨p, vs, _, v, rfl, rfl, SqT.fz t1, e4, fin v r4⟩)
    · cases e3
  · cases e3
theorem ce_slice {lo hi : Option Expr} {ml mh : OM} {p2 : Pos} (ha : CEx X P0 O W E a ma) (hl : CO X P0 O W E lo ml) (hh : CO X P0 O W E hi mh) : CEx X P0 O W E (.Subscript a (.Slice lo hi none p2) pos) (cSlice ma ml mh) := PE.imp (pe_slice (sl_list.or (sl_tupA.or sl_str)) ha hl hh) fun σ H Q ⟨ρ, S, h⟩ => by
  refine ⟨ρ, S, h.of_bind.mono fun ⟨h1, ρ1⟩ q x H1 S1 k1 r1 => ⟨ρ1, S1, (q.keep k1).of_bind.mono fun ⟨l, ρ2⟩ q2 H2 S2 k2 => ⟨ρ2, S2, (q2.keep k2).of_bind.mono fun ⟨u, ρ3⟩ q3 H3 S3 k3 => ?_⟩⟩⟩
  obtain ⟨dx, e1, q4⟩ := q3.of_nox
  obtain ⟨dz, e3, q5⟩ := q4.of_nox
  have rx := (r1.keep S1 (k2.trans k3)).d S3 e1
  have out := out_of S3 ((k1.trans k2).trans k3) q5
  unfold sliceD at e3
  split at e3
  · split at e3
    · rename_i z; cases e3
      obtain rfl := rx.str
      exact .inr (.inr ⟨_, rfl, of_decide_eq_true z, out.str⟩)
    · cases e3
  · cases e3
    obtain ⟨p, vs, rfl, t1, t2⟩ := rx.tup
    have t3 := t2.cut l u
    refine .inr (.inl ⟨p, vs, rfl, SqT.of t1, fun z => ?_, fun _ p hp => out.newT S3.dom t3 hp⟩)
    have e4 : cutV vs l u = vs := by
      unfold cutV
      rw [z.1, z.2, List.drop_zero, Nat.sub_zero, List.take_length]
    rw [e4] at t3
    exact out.flat (Rep.tup_of t1 t3) rfl
  · cases e3
    obtain ⟨p, vs, rfl, t1, t2⟩ := rx.lst
    exact .inl ⟨p, vs, rfl, SqL.of t1, fun p hp => out.newL S3.dom (t2.cut l u) hp⟩
  · cases e3
end

/-- behind a statement or an expression: U: own slots that keep their objects -/
structure Tr (O U : List Nat) (σ : St) (H : Hp) (σ' : St) (H' : Hp) : Prop where
  keep : ∀ b o, H b = some o → ¬ OA O σ b → H' b = some o
  some : ∀ b, H b ≠ none → H' b ≠ none
  own : ∀ b, OA O σ' b → OA O σ b ∨ H b = none
  unch : ∀ i ∈ U, σ'[i]? = σ[i]?
theorem Tr.of {O W U : List Nat} {σ : St} {H H' : Hp} (hs : ∀ i ∈ W, i ∈ O) (k : Keep W σ H H') : Tr O U σ H σ H' := ⟨fun b o e n => k.keep b o e fun ⟨i, hi, z⟩ => n ⟨i, hs i hi, z⟩, k.some, fun _ z => .inl z, fun _ _ => rfl⟩
theorem Tr.refl {O U : List Nat} {σ : St} {H : Hp} : Tr O U σ H σ H := ⟨fun _ _ e _ => e, fun _ e => e, fun _ z => .inl z, fun _ _ => rfl⟩
theorem Tr.trans {O U : List Nat} {σ σ1 σ2 : St} {H H1 H2 : Hp} (a : Tr O U σ H σ1 H1) (b : Tr O U σ1 H1 σ2 H2) : Tr O U σ H σ2 H2 where
  keep := fun c o e n => b.keep c o (a.keep c o e n) fun z => by
    rcases a.own c z with z | z
    · exact n z
    · rw [e] at z; cases z
  some := fun c e => b.some c (a.some c e)
  own := fun c z => by
    rcases b.own c z with z | z
    · exact a.own c z
    · exact .inr (Classical.byContradiction fun q => a.some c q z)
  unch := fun i hi => (b.unch i hi).trans (a.unch i hi)
theorem Tr.less {O U U' : List Nat} {σ σ1 : St} {H H1 : Hp} (a : Tr O U σ H σ1 H1) (h : ∀ i ∈ U', i ∈ U) : Tr O U' σ H σ1 H1 := ⟨a.keep, a.some, a.own, fun i hi => a.unch i (h i hi)⟩
section
variable {K : PySem.W.Frag} {P0 : Pr} {O W U : List Nat} {ρ ρ' : Env} {σ σ' : St} {H H' : Hp}
end
end Y

set_option Elab.async false
set_option linter.all false
set_option maxRecDepth 100000
namespace Y
open PySem PySem.Spec PyProof.Rows L2

/-- v is the datum d that the handle tells, and stays so -/
def Hold (K : PySem.W.Frag) (O : List Nat) (h : Hd) (d : D) (v : V) (P0 : Pr) (ρ : Env) (σ : St) (H : Hp) : Prop := match h with
  | .ow i => i ∈ O ∧ ρ[i]? = some (some d) ∧ σ[i]? = some (some v)
  | _ => Rep K H d (FA P0 O σ) v
def Hd.ws : Hd → List Nat
  | .ow i => [i]
  | _ => []
section
variable {K : PySem.W.Frag} {P0 P1 : Pr} {O W : List Nat} {ρ ρ' : Env} {σ σ' : St} {H H' Hs : Hp} {h : Hd} {d : D} {v : V}
theorem Hold.rep (S : Sim K P0 O W ρ σ H) (o : Hold K O h d v P0 ρ σ H) : RepW K H d (FA P0 O σ) v := by
  cases h with
  | fr d' => exact Rep.weak S.dom o
  | vl d' => exact Rep.weak S.dom o
  | ow i =>
    obtain ⟨w, h1, h2⟩ := S.own i d o.2.1 o.1
    rw [o.2.2] at h1; cases h1
    exact h2.weak
theorem HdR.hold (r : HdR K P0 O Hs σ H h v) (e : h.d ρ = .ok d) : Hold K O h d v P0 ρ σ H := by
  cases h with
  | fr d' => cases e; exact r.1
  | vl d' => cases e; exact r
  | ow i => exact ⟨r.1, look_some e, r.2⟩
theorem Hold.keep (S : Sim K P0 O W ρ σ H) (o : Hold K O h d v P0 ρ σ H) (k : ∀ b o, H b = some o → ¬ FA P0 O σ b → H' b = some o) (w : ∀ b, FA P0 O σ' b → FA P0 O σ b ∨ H b = none)
    (hw : ∀ w ∈ h.ws, σ'[w]? = σ[w]? ∧ ρ'[w]? = ρ[w]?) : Hold K O h d v P0 ρ' σ' H' := by
  cases h with
  | fr d' => exact Rep.mono d S.dom k w o
  | vl d' => exact Rep.mono d S.dom k w o
  | ow i =>
    obtain ⟨h1, h2⟩ := hw i (by simp [Hd.ws])
    exact ⟨o.1, h2.trans o.2.1, h1.trans o.2.2⟩
theorem Hold.grow (S : Sim K P0 O W ρ σ H) (o : Hold K O h d v P0 ρ σ H) (w : ∀ b, P1 b → P0 b ∨ H b = none) (k : Same H H') : Hold K O h d v P1 ρ σ H' := by
  have q : ∀ b, FA P1 O σ b → FA P0 O σ b ∨ H b = none := fun b z => by
    rcases z with z | z
    · rcases w b z with z | z
      · exact .inl (.inl z)
      · exact .inr z
    · exact .inl (.inr z)
  cases h with
  | fr d' => exact Rep.mono d S.dom (fun b o e _ => k b o e) q o
  | vl d' => exact Rep.mono d S.dom (fun b o e _ => k b o e) q o
  | ow i => exact o
end
theorem Hold.mem {K : PySem.W.Frag} {P0 : Pr} {O : List Nat} {ρ : Env} {σ : St} {H : Hp} {h : Hd} {d : D} {v : V} (o : Hold K O h d v P0 ρ σ H) : ∀ w ∈ h.ws, w ∈ O := by
  cases h with
  | fr _ => exact fun w z => nomatch z
  | vl _ => exact fun w z => nomatch z
  | ow i =>
    intro w z
    have z : w = i := by simpa [Hd.ws] using z
    rw [z]; exact o.1
/-- an iterator gives ds; ws: own slots that it reads from; Ok: what must stay -/
structure Src (K : PySem.W.Frag) (O W : List Nat) (ds : List D) (ws : List Nat) (J : It) (Ok : Pr → Env → St → Hp → Prop) : Prop where
  go : ∀ P0 i ρ σ H, Sim K P0 O W ρ σ H → Ok P0 ρ σ H → i < ds.length → J.go i H
  stop : ∀ P0 ρ σ H, Sim K P0 O W ρ σ H → Ok P0 ρ σ H → J.stop ds.length H
  yld : ∀ P0 (i : Nat) ρ σ H x H' d, Sim K P0 O W ρ σ H → Ok P0 ρ σ H → ds[i]? = some d → J.yld i H x H' → Same H H' ∧ Rep K H' d (FA P0 O σ) x
  keep : ∀ P0 ρ σ H ρ' σ' H', Sim K P0 O W ρ σ H → (∀ b o, H b = some o → ¬ FA P0 O σ b → H' b = some o) → (∀ b, FA P0 O σ' b → FA P0 O σ b ∨ H b = none) → (∀ w ∈ ws, σ'[w]? = σ[w]? ∧ ρ'[w]? = ρ[w]?) → Ok P0 ρ σ H → Ok P0 ρ' σ' H'
  mem : ∀ P0 ρ σ H, Ok P0 ρ σ H → ∀ w ∈ ws, w ∈ O
  grow : ∀ P0 P1 ρ σ H H', Sim K P0 O W ρ σ H → (∀ b, P1 b → P0 b ∨ H b = none) → Same H H' → Ok P0 ρ σ H → Ok P1 ρ σ H'
abbrev IM := Env → R ((List D × List Nat) × Env)
def tMi (K : PySem.W.Frag) (P0 : Pr) (O W : List Nat) (E : EK) (m : IM) : TI := fun σ H R => ∃ ρ, Sim K P0 O W ρ σ H ∧
  Res E W σ H (m ρ) fun a => ∀ J H' Ok, Sim K P0 O W a.2 σ H' → Keep W σ H H' → Src K O W a.1.1 a.1.2 J Ok → Ok P0 a.2 σ H' → a.1.1.length ≤ sizeLine → R J H'
theorem PI.imp {X : Cx} {tg e : Expr} {t t' : TI} (h : PI X tg e t) (i : ∀ σ H R, t' σ H R → t σ H R) : PI X tg e t' := ⟨fun pins s σ H R I q => h.run pins s σ H R I (i σ H R q)⟩
theorem PI.or {X : Cx} {tg e : Expr} {t t' : TI} (h : PI X tg e t) (h' : PI X tg e t') : PI X tg e fun σ H R => t σ H R ∨ t' σ H R :=
  ⟨fun pins s σ H R I q => q.elim (h.run pins s σ H R I) (h'.run pins s σ H R I)⟩
section
variable {K : PySem.W.Frag} {O W : List Nat} {h h2 : Hd}
/-- over a list that a handle tells -/
theorem src_list {a : Addr} {ds : List D} : Src K O W ds h.ws (Itl K a) (Hold K O h (.lst ds) (.ref a)) where
  go := fun P0 i ρ σ H S ok hi => by
    obtain ⟨p, vs, e, t1, t2⟩ := (ok.rep S).lst
    cases e
    exact walk_list.goes i H (by rw [t2.length]; exact hi) (SqL.of t1)
  stop := fun P0 ρ σ H S ok => by
    obtain ⟨p, vs, e, t1, t2⟩ := (ok.rep S).lst
    cases e
    rw [← t2.length]
    exact walk_list.stops H (SqL.of t1)
  yld := fun P0 i ρ σ H x H' d S ok hd y => by
    obtain ⟨p, vs, e, t1, t2⟩ := (ok.rep S).lst
    cases e
    obtain ⟨v, e1, r⟩ := t2.get hd
    obtain ⟨e2, e3⟩ := walk_list.yields i H x H' (by rw [t2.length]; exact (List.getElem?_eq_some_iff.mp hd).1) (SqL.of t1) y
    subst e2
    rw [e1] at e3; cases e3
    exact ⟨fun _ _ z => z, r⟩
  keep := fun P0 ρ σ H ρ' σ' H' S k w hw ok => ok.keep S k w hw
  mem := fun P0 ρ σ H ok => ok.mem
  grow := fun P0 P1 ρ σ H H' S w k ok => ok.grow S w k
theorem src_tup {a : Addr} {ds : List D} : Src K O W ds h.ws (Itt K a) (Hold K O h (.tup ds) (.ref a)) where
  go := fun P0 i ρ σ H S ok hi => by
    obtain ⟨p, vs, e, t1, t2⟩ := (ok.rep S).tup
    cases e
    exact walk_tup.goes i H (by rw [t2.length]; exact hi) (SqT.of t1)
  stop := fun P0 ρ σ H S ok => by
    obtain ⟨p, vs, e, t1, t2⟩ := (ok.rep S).tup
    cases e
    rw [← t2.length]
    exact walk_tup.stops H (SqT.of t1)
  yld := fun P0 i ρ σ H x H' d S ok hd y => by
    obtain ⟨p, vs, e, t1, t2⟩ := (ok.rep S).tup
    cases e
    obtain ⟨v, e1, r⟩ := t2.get hd
    obtain ⟨e2, e3⟩ := walk_tup.yields i H x H' (by rw [t2.length]; exact (List.getElem?_eq_some_iff.mp hd).1) (SqT.of t1) y
    subst e2
    rw [e1] at e3; cases e3
    exact ⟨fun _ _ z => z, r⟩
  keep := fun P0 ρ σ H ρ' σ' H' S k w hw ok => ok.keep S k w hw
  mem := fun P0 ρ σ H ok => ok.mem
  grow := fun P0 P1 ρ σ H H' S w k ok => ok.grow S w k
theorem src_ftu {a : Addr} {ds : List D} : Src K O W ds h.ws (Itt K a) (Hold K O h (.ftu ds) (.ref a)) where
  go := fun P0 i ρ σ H S ok hi => by
    obtain ⟨p, vs, o, e, t1, _, t2⟩ := (ok.rep S).ftu
    cases e
    exact walk_tup.goes i H (by rw [t2.length]; exact hi) (SqT.fz t1)
  stop := fun P0 ρ σ H S ok => by
    obtain ⟨p, vs, o, e, t1, _, t2⟩ := (ok.rep S).ftu
    cases e
    rw [← t2.length]
    exact walk_tup.stops H (SqT.fz t1)
  yld := fun P0 i ρ σ H x H' d S ok hd y => by
    obtain ⟨p, vs, o, e, t1, _, t2⟩ := (ok.rep S).ftu
    cases e
    obtain ⟨v, e1, r⟩ := t2.get hd
    obtain ⟨e2, e3⟩ := walk_tup.yields i H x H' (by rw [t2.length]; exact (List.getElem?_eq_some_iff.mp hd).1) (SqT.fz t1) y
    subst e2
    rw [e1] at e3; cases e3
    exact ⟨fun _ _ z => z, r⟩
  keep := fun P0 ρ σ H ρ' σ' H' S k w hw ok => ok.keep S k w hw
  mem := fun P0 ρ σ H ok => ok.mem
  grow := fun P0 P1 ρ σ H H' S w k ok => ok.grow S w k
theorem src_arg {a : Addr} {ns : List Int} : Src K O W (ns.map D.int) h.ws (Itl K a) (Hold K O h (.arg ns) (.ref a)) where
  go := fun P0 i ρ σ H S ok hi => by
    obtain ⟨p, e, t1⟩ := (ok.rep S).arg
    cases e
    exact walk_list.goes i H (by simpa using hi) t1
  stop := fun P0 ρ σ H S ok => by
    obtain ⟨p, e, t1⟩ := (ok.rep S).arg
    cases e
    have := walk_list.stops H t1
    simpa using this
  yld := fun P0 i ρ σ H x H' d S ok hd y => by
    obtain ⟨p, e, t1⟩ := (ok.rep S).arg
    cases e
    obtain ⟨e2, e3⟩ := walk_list.yields i H x H' (by have := (List.getElem?_eq_some_iff.mp hd).1; simpa using this) t1 y
    subst e2
    rw [List.getElem?_map] at e3 hd
    cases q : ns[i]? with
    | none => rw [q] at hd; cases hd
    | some n => rw [q] at hd e3; cases hd; cases e3; exact ⟨fun _ _ z => z, by unfold Rep; rfl⟩
  keep := fun P0 ρ σ H ρ' σ' H' S k w hw ok => ok.keep S k w hw
  mem := fun P0 ρ σ H ok => ok.mem
  grow := fun P0 P1 ρ σ H H' S w k ok => ok.grow S w k
theorem src_range {lo : Int} {n : Nat} : Src K O W ((List.range n).map fun i => D.int (lo + (i : Nat))) [] (Itr lo n) (fun _ _ _ _ => True) where
  go := fun P0 i ρ σ H S ok hi => by simpa [Itr] using hi
  stop := fun P0 ρ σ H S ok => by simp [Itr]
  yld := fun P0 i ρ σ H x H' d S ok hd y => by
    obtain ⟨e1, e2⟩ := y
    subst e1
    rw [List.getElem?_map] at hd
    cases q : (List.range n)[i]? with
    | none => rw [q] at hd; cases hd
    | some j =>
      rw [q] at hd; cases hd
      have : j = i := by
        obtain ⟨h1, h2⟩ := List.getElem?_eq_some_iff.mp q
        simpa using h2.symm
      subst this
      exact ⟨fun _ _ z => z, by unfold Rep; exact e2⟩
  keep := fun _ _ _ _ _ _ _ _ _ _ _ _ => trivial
  mem := fun _ _ _ _ _ w z => nomatch z
  grow := fun _ _ _ _ _ _ _ _ _ _ => trivial
theorem src_str {z : Str} : Src K O W (z.cps.toList.map fun c => D.str ⟨#[c]⟩) [] (Its z) (fun _ _ _ _ => True) where
  go := fun P0 i ρ σ H S ok hi => by simpa [Its] using hi
  stop := fun P0 ρ σ H S ok => by simp [Its]
  yld := fun P0 i ρ σ H x H' d S ok hd y => by
    obtain ⟨e1, c, e2, e3⟩ := y
    subst e1
    rw [List.getElem?_map, Array.getElem?_toList, e2] at hd
    cases hd
    exact ⟨fun _ _ z => z, by unfold Rep; exact e3⟩
  keep := fun _ _ _ _ _ _ _ _ _ _ _ _ => trivial
  mem := fun _ _ _ _ _ w z => nomatch z
  grow := fun _ _ _ _ _ _ _ _ _ _ => trivial
theorem Src.anyw {ds : List D} {J : It} {Ok : Pr → Env → St → Hp → Prop} (q : Src K O W ds [] J Ok) : Src K O W ds h.ws J (fun P0 ρ σ H => Ok P0 ρ σ H ∧ ∀ w ∈ h.ws, w ∈ O) where
  go := fun P0 i ρ σ H S ok => q.go P0 i ρ σ H S ok.1
  stop := fun P0 ρ σ H S ok => q.stop P0 ρ σ H S ok.1
  yld := fun P0 i ρ σ H x H' d S ok => q.yld P0 i ρ σ H x H' d S ok.1
  keep := fun P0 ρ σ H ρ' σ' H' S k w _ ok => ⟨q.keep P0 ρ σ H ρ' σ' H' S k w (fun _ z => nomatch z) ok.1, ok.2⟩
  mem := fun P0 ρ σ H ok => ok.2
  grow := fun P0 P1 ρ σ H H' S w k ok => ⟨q.grow P0 P1 ρ σ H H' S w k ok.1, ok.2⟩
end
def pairsD : List D → List D → List D
  | x :: xs, y :: ys => .tup [x, y] :: pairsD xs ys
  | _, _ => []
theorem pairsD_len : ∀ xs ys : List D, (pairsD xs ys).length = min xs.length ys.length
  | [], _ => by simp [pairsD]
  | _ :: _, [] => by simp [pairsD]
  | x :: xs, y :: ys => by simp [pairsD, pairsD_len xs ys]
theorem pairsD_get : ∀ {xs ys : List D} {i : Nat} {d : D}, (pairsD xs ys)[i]? = some d → ∃ x y, xs[i]? = some x ∧ ys[i]? = some y ∧ d = .tup [x, y]
  | [], _, _, _, h => by simp [pairsD] at h
  | _ :: _, [], _, _, h => by simp [pairsD] at h
  | x :: xs, y :: ys, 0, d, h => by simp [pairsD] at h; exact ⟨x, y, rfl, rfl, h.symm⟩
  | x :: xs, y :: ys, i + 1, d, h => by simpa using pairsD_get (i := i) (by simpa [pairsD] using h)
/-- a new pair at T -/
theorem pair_rep {K : PySem.W.Frag} {H : Hp} {P : Pr} {x y : D} {v w : V} {T : Addr} (hm : ∀ b, P b → isMut (H b)) (hT : H T = none) (h1 : Rep K H x P v) (h2 : Rep K H y P w) : Same H (upd H T (.tup [v, w])) ∧ Rep K (upd H T (.tup [v, w])) (.tup [x, y]) P (.ref T) :=
  ⟨Same.new hT, Rep.newT hm (Reps.cons h1 (Reps.cons h2 Reps.nil)) hT⟩
section
variable {K : PySem.W.Frag} {O W : List Nat} {h h2 : Hd}
end
section
variable {X : Cx} {P0 : Pr} {O W : List Nat} {E : EK} {a b c e tg : Expr} {es : List Expr} {ma mb mc : EM} {ms : AM} {pos : Pos}
abbrev CI (X : Cx) (P0 : Pr) (O W : List Nat) (E : EK) (tg e : Expr) (m : IM) : Prop := PI X tg e (tMi X.K P0 O W E m)
/-- over a list, a tuple, a text, the script -/
def itD : D → R (List D)
  | .lst ds => .ok ds
  | .tup ds => .ok ds
  | .arg ns => .ok (ns.map D.int)
  | .str z => .ok (z.cps.toList.map fun c => D.str ⟨#[c]⟩)
  | .ftu ds => .ok ds
  | _ => .stk
def cIter (m : EM) : IM := fun ρ => do
  let (h, ρ1) ← m ρ
  let d ← (h.d ρ1).nox
  let ds ← (itD d).nox
  if szOk ds.length = true then pure ((ds, h.ws), ρ1) else .stk
theorem ci_any (ha : CEx X P0 O W E a ma) : CI X P0 O W E tg a (cIter ma) := PI.imp (PI.or (pi_list ha) (PI.or (pi_tup ha) (pi_str ha))) fun σ H _ ⟨ρ, S, h⟩ => by
  unfold cIter at h
  cases em : ma ρ with
  | er c ds =>
    rw [em] at h
    exact .inl ⟨ρ, S, by rw [em]; exact h⟩
  | stk => rw [em] at h; exact h.elim
  | ok p =>
    obtain ⟨h1, ρ1⟩ := p
    rw [em] at h
    obtain ⟨d, ed, h⟩ := Res.of_nox (show Res E W σ H ((h1.d ρ1).nox >>= _) _ from h)
    obtain ⟨ds, ei, h⟩ := h.of_nox
    by_cases c : szOk ds.length = true
    · rw [if_pos c] at h
      have hz := of_decide_eq_true c
      cases d <;> simp only [itD, R.ok.injEq, reduceCtorEq] at ei
      · subst ei
        refine .inr (.inr ⟨ρ, S, ?_⟩)
        rw [em]
        intro v H1 S1 k1 r1
        obtain rfl := (r1.d S1 ed).str
        exact ⟨_, rfl, h _ H1 _ S1 k1 src_str.anyw ⟨trivial, (r1.hold ed).mem⟩ hz⟩
      · subst ei
        refine .inr (.inl ⟨ρ, S, ?_⟩)
        rw [em]
        intro v H1 S1 k1 r1
        obtain ⟨p, vs, rfl, t1, t2⟩ := (r1.d S1 ed).tup
        exact ⟨p, rfl, ⟨vs, SqT.of t1⟩, h _ H1 _ S1 k1 src_tup (r1.hold ed) hz⟩
      · subst ei
        refine .inl ⟨ρ, S, ?_⟩
        rw [em]
        intro v H1 S1 k1 r1
        obtain ⟨p, vs, rfl, t1, t2⟩ := (r1.d S1 ed).lst
        exact ⟨p, rfl, ⟨vs, SqL.of t1⟩, h _ H1 _ S1 k1 src_list (r1.hold ed) hz⟩
      · subst ei
        refine .inl ⟨ρ, S, ?_⟩
        rw [em]
        intro v H1 S1 k1 r1
        obtain ⟨p, rfl, t1⟩ := (r1.d S1 ed).arg
        exact ⟨p, rfl, ⟨_, t1⟩, h _ H1 _ S1 k1 src_arg (r1.hold ed) hz⟩
      · subst ei
        refine .inr (.inl ⟨ρ, S, ?_⟩)
        rw [em]
        intro v H1 S1 k1 r1
        obtain ⟨p, vs, o, rfl, t1, _, t2⟩ := (r1.d S1 ed).ftu
        exact ⟨p, rfl, ⟨vs, SqT.fz t1⟩, h _ H1 _ S1 k1 src_ftu (r1.hold ed) hz⟩
    · rw [if_neg c] at h
      exact h.elim
def rngOk (i : Int) : Bool := decide (-(2 ^ 62) ≤ i ∧ i < 2 ^ 62)
def rng1D : List D → R (List D)
  | [.int j] => if rngOk j = true then .ok ((List.range j.toNat).map fun i => D.int (0 + (i : Nat))) else .stk
  | _ => .stk
def rng2D : List D → R (List D)
  | [.int i, .int j] => if (rngOk i && rngOk j) = true then .ok ((List.range (j - i).toNat).map fun k => D.int (i + (k : Nat))) else .stk
  | _ => .stk
def cRange (f : List D → R (List D)) (m : AM) : IM := fun ρ => do
  let (hs, ρ1) ← m ρ
  let ds ← (vsOf hs).nox
  let xs ← (f ds).nox
  if szOk xs.length = true then pure ((xs, []), ρ1) else .stk
theorem ci_range1 {p : Pos} (hm : X.mg "range" = none) (ha : CA X P0 O W E [a] ms) (hg : Gl X "range" := by rfl) (hs : starEach [a] X.env = [(false, eval a X.env)] := by rfl) : CI X P0 O W E tg (.Call (.Name "range" p) [a] [] pos) (cRange rng1D ms) := PI.imp (pi_range1 hg hm ha hs) fun σ H R ⟨ρ, S, h⟩ => by
  refine ⟨ρ, S, h.of_bind.mono fun ⟨hs, ρ1⟩ q vs H1 S1 k1 r1 => ?_⟩
  obtain ⟨ds, e1, q⟩ := q.of_nox
  obtain ⟨xs, e2, q⟩ := q.of_nox
  have rr := HdRs.vs r1 e1
  by_cases c : szOk xs.length = true
  · rw [if_pos c] at q
    unfold rng1D at e2
    split at e2
    · split at e2
      · rename_i j z; cases e2
        obtain ⟨v, ws, rfl, h1, h2⟩ := rr.cons_iff
        have h2 := h2.nil_iff
        subst h2
        unfold Rep at h1
        subst h1
        unfold rngOk at z
        have z := of_decide_eq_true z
        exact ⟨_, rfl, z.1, z.2, q _ H1 _ S1 k1 src_range trivial (of_decide_eq_true c)⟩
      · cases e2
    · cases e2
  · rw [if_neg c] at q
    exact q.elim
theorem ci_range2 {p : Pos} (hm : X.mg "range" = none) (ha : CA X P0 O W E [a, b] ms) (hg : Gl X "range" := by rfl) (hs : starEach [a, b] X.env = [(false, eval a X.env), (false, eval b X.env)] := by rfl) (hs2 : starEach [b] X.env = [(false, eval b X.env)] := by rfl) : CI X P0 O W E tg (.Call (.Name "range" p) [a, b] [] pos) (cRange rng2D ms) := PI.imp (pi_range2 hg hm ha hs hs2) fun σ H R ⟨ρ, S, h⟩ => by
  refine ⟨ρ, S, h.of_bind.mono fun ⟨hs, ρ1⟩ q vs H1 S1 k1 r1 => ?_⟩
  obtain ⟨ds, e1, q⟩ := q.of_nox
  obtain ⟨xs, e2, q⟩ := q.of_nox
  have rr := HdRs.vs r1 e1
  by_cases c : szOk xs.length = true
  · rw [if_pos c] at q
    unfold rng2D at e2
    split at e2
    · split at e2
      · rename_i i j z; cases e2
        obtain ⟨v, ws, rfl, h1, h2⟩ := rr.cons_iff
        obtain ⟨w, us, rfl, h3, h4⟩ := h2.cons_iff
        have h4 := h4.nil_iff
        subst h4
        unfold Rep at h1 h3
        subst h1
        subst h3
        rw [Bool.and_eq_true] at z
        unfold rngOk at z
        have z1 := of_decide_eq_true z.1
        have z2 := of_decide_eq_true z.2
        exact ⟨_, _, rfl, ⟨z1.1, z1.2, z2.1, z2.2⟩, q _ H1 _ S1 k1 src_range trivial (of_decide_eq_true c)⟩
      · cases e2
    · cases e2
  · rw [if_neg c] at q
    exact q.elim
end
end Y

set_option Elab.async false
set_option linter.all false
set_option maxRecDepth 100000
namespace Y
open PySem PySem.Spec PyProof.Rows L2

theorem OA_of {O : List Nat} {σ σ' : St} (h : ∀ i ∈ O, σ'[i]? = σ[i]?) (b : Addr) : OA O σ' b ↔ OA O σ b := by
  constructor
  · rintro ⟨i, hi, e⟩; exact ⟨i, hi, (h i hi).symm.trans e⟩
  · rintro ⟨i, hi, e⟩; exact ⟨i, hi, (h i hi).trans e⟩
section
variable {K : PySem.W.Frag} {P0 P1 : Pr} {O W : List Nat} {ρ ρ' : Env} {σ σ' : St} {H H' : Hp} {d : D} {v : V}
theorem FA_of (h : ∀ i ∈ O, σ'[i]? = σ[i]?) (b : Addr) : FA P0 O σ' b ↔ FA P0 O σ b := or_congr Iff.rfl (OA_of h b)
/-- other slots, less known -/
theorem Sim.move (S : Sim K P0 O W ρ σ H) (hl : ρ'.length ≤ σ'.length) (ho : ∀ i ∈ O, σ'[i]? = σ[i]?) (hρ : ∀ i ∈ O, ∀ d, ρ'[i]? = some (some d) → ρ[i]? = some (some d))
    (hv : ∀ (i : Nat) d, ρ'[i]? = some (some d) → i ∉ O → ∃ v, σ'[i]? = some (some v) ∧ Rep K H d (FA P0 O σ) v) : Sim K P0 O W ρ' σ' H where
  sub := S.sub
  len := hl
  dom := fun b z => S.dom b ((FA_of ho b).mp z)
  val := fun i d e n => by
    obtain ⟨v, h1, h2⟩ := hv i d e n
    exact ⟨v, h1, h2.less S.dom fun b z => (FA_of ho b).mp z⟩
  own := fun i d e n => by
    obtain ⟨v, h1, h2⟩ := S.own i d (hρ i n d e) n
    refine ⟨v, (ho i n).trans h1, ?_⟩
    have fa : ∀ b, FA P0 O σ' b → FA P0 O σ b := fun b z => (FA_of ho b).mp z
    cases d with
    | lst ds => obtain ⟨a, vs, rfl, ht, hr⟩ := h2; exact ⟨a, vs, rfl, ht, hr.less S.dom fa⟩
    | dik ks ds => obtain ⟨a, vs, rfl, hl, ht, hr⟩ := h2; exact ⟨a, vs, rfl, hl, ht, hr.less S.dom fa⟩
    | dit ks ds => obtain ⟨a, vs, rfl, hl, ht, hr⟩ := h2; exact ⟨a, vs, rfl, hl, ht, hr.less S.dom fa⟩
    | non => exact h2
    | bl _ => exact h2
    | int _ => exact h2
    | str _ => exact h2
    | tup _ => exact h2
    | arg _ => exact h2
    | ftu _ => exact h2
    | tab p q => exact h2
  sep := fun i j a hi hj e1 e2 => S.sep i j a hi hj ((ho i hi).symm.trans e1) ((ho j hj).symm.trans e2)
  sep0 := fun a z => S.sep0 a ((OA_of ho a).mp z)
theorem Sim.set (S : Sim K P0 O W ρ σ H) {i : Nat} (hi : i ∉ O) (r : Rep K H d (FA P0 O σ) v) : Sim K P0 O W (ρ.set i (some d)) (σ.set i (some v)) H := by
  refine S.move (by simpa using S.len) (fun j hj => ?_) (fun j hj d' e => ?_) fun j d' e n => ?_
  · exact List.getElem?_set_ne (fun (e : i = j) => hi (by rw [e]; exact hj))
  · rwa [List.getElem?_set_ne (fun (e : i = j) => hi (by rw [e]; exact hj))] at e
  · by_cases hj : i = j
    · subst hj
      have h1 : i < ρ.length := by
        have := (List.getElem?_eq_some_iff.mp e).1
        simpa using this
      rw [List.getElem?_set_self h1] at e
      cases e
      exact ⟨v, List.getElem?_set_self (Nat.lt_of_lt_of_le h1 S.len), r⟩
    · rw [List.getElem?_set_ne hj] at e ⊢
      exact S.val j d' e n
/-- forgetting -/
def wipeE (ρ : Env) : List Nat → Env
  | [] => ρ
  | i :: is => (wipeE ρ is).set i none
theorem wipeE_length (ρ : Env) : ∀ is, (wipeE ρ is).length = ρ.length
  | [] => rfl
  | i :: is => by unfold wipeE; rw [List.length_set, wipeE_length ρ is]
theorem wipeE_some : ∀ {is : List Nat} {j : Nat} {d : D}, (wipeE ρ is)[j]? = some (some d) → ρ[j]? = some (some d) ∧ j ∉ is
  | [], j, d, e => ⟨e, by simp⟩
  | i :: is, j, d, e => by
    unfold wipeE at e
    by_cases hj : i = j
    · subst hj
      by_cases hl : i < (wipeE ρ is).length
      · rw [List.getElem?_set_self hl] at e; cases e
      · rw [List.getElem?_eq_none (by simpa using hl)] at e; cases e
    · rw [List.getElem?_set_ne hj] at e
      obtain ⟨h1, h2⟩ := wipeE_some e
      exact ⟨h1, by simp only [List.mem_cons, not_or]; exact ⟨fun z => hj z.symm, h2⟩⟩
theorem Sim.wipe (S : Sim K P0 O W ρ σ H) (is : List Nat) : Sim K P0 O W (wipeE ρ is) σ H :=
  S.move (by rw [wipeE_length]; exact S.len) (fun _ _ => rfl) (fun i _ d e => (wipeE_some e).1) fun i d e n => S.val i d (wipeE_some e).1 n
theorem wipe_ne {is : List Nat} {j : Nat} (h : j ∉ is) : (L2.wipe σ is)[j]? = σ[j]? := wipe_out h
/-- a comprehension's own names -/
theorem Sim.wipe2 (S : Sim K P0 O W ρ σ H) {is : List Nat} (h : ∀ i ∈ is, i ∉ O) : Sim K P0 O W (wipeE ρ is) (L2.wipe σ is) H := by
  refine S.move (by rw [wipeE_length, L2.wipe_length]; exact S.len) (fun i hi => wipe_ne fun z => h i z hi) (fun i _ d e => (wipeE_some e).1) fun i d e n => ?_
  obtain ⟨e1, e2⟩ := wipeE_some e
  rw [wipe_ne e2]
  exact S.val i d e1 n
/-- back from the block: the wiped slots are not told -/
theorem Sim.out {is : List Nat} (S : Sim K P0 O W ρ (L2.wipe σ is) H) (h : ∀ i ∈ is, i ∉ O) (hρ : ∀ i ∈ is, ∀ d, ρ[i]? ≠ some (some d)) : Sim K P0 O W ρ σ H := by
  refine S.move (by have := S.len; rwa [L2.wipe_length] at this) (fun i hi => (wipe_ne fun z => h i z hi).symm) (fun i _ d e => e) fun i d e n => ?_
  obtain ⟨v, h1, h2⟩ := S.val i d e n
  rw [wipe_ne fun z => hρ i z d e] at h1
  exact ⟨v, h1, h2⟩
/-- one more object is forbidden -/
theorem Sim.more (S : Sim K P0 O W ρ σ H) {q : Addr} {vs : List V} (hq : H q = none) : Sim K (fun b => P0 b ∨ b = q) O W ρ σ (upd H q (.lst vs)) := by
  have S' := S.same (Same.new (o := .lst vs) hq)
  have fa : ∀ b, FA (fun b => P0 b ∨ b = q) O σ b → FA P0 O σ b ∨ H b = none := fun b z => by
    rcases z with (z | z) | z
    · exact .inl (.inl z)
    · rw [z]; exact .inr hq
    · exact .inl (.inr z)
  refine ⟨S.sub, S.len, fun b z => ?_, fun i d e n => ?_, fun i d e n => ?_, S.sep, fun a z => ?_⟩
  · rcases z with (z | z) | z
    · exact S'.dom b (.inl z)
    · rw [z, upd_same]; trivial
    · exact S'.dom b (.inr z)
  · obtain ⟨v, h1, h2⟩ := S.val i d e n
    exact ⟨v, h1, h2.mono d S.dom (fun b o e _ => Same.new hq b o e) fa⟩
  · obtain ⟨v, h1, h2⟩ := S.own i d e n
    refine ⟨v, h1, ?_⟩
    cases d with
    | lst ds => obtain ⟨a, vs, rfl, ht, hr⟩ := h2; exact ⟨a, vs, rfl, Same.new hq _ _ ht, hr.mono ds S.dom (fun b o e _ => Same.new hq b o e) fa⟩
    | dik ks ds => obtain ⟨a, vs, rfl, hl, ht, hr⟩ := h2; exact ⟨a, vs, rfl, hl, Same.new hq _ _ ht, hr.mono ds S.dom (fun b o e _ => Same.new hq b o e) fa⟩
    | dit ks ds => obtain ⟨a, vs, rfl, hl, ht, hr⟩ := h2; exact ⟨a, vs, rfl, hl, Same.new hq _ _ ht, hr.mono ds S.dom (fun b o e _ => Same.new hq b o e) fa⟩
    | non => exact h2
    | bl _ => exact h2
    | int _ => exact h2
    | str _ => exact h2
    | tup _ => exact h2
    | arg _ => exact h2
    | ftu _ => exact h2
    | tab p q => obtain ⟨a, rfl, ht⟩ := h2; exact ⟨a, rfl, ht.ext (Same.new hq)⟩
  · rintro (y | y)
    · exact S.sep0 a z y
    · subst y
      exact (S.dom a (.inr z)).some hq
theorem Sim.lessP (S : Sim K P1 O W ρ σ H) (h : ∀ b, P0 b → P1 b) : Sim K P0 O W ρ σ H := by
  have fa : ∀ b, FA P0 O σ b → FA P1 O σ b := fun b z => z.imp (h b) id
  refine ⟨S.sub, S.len, fun b z => S.dom b (fa b z), fun i d e n => ?_, fun i d e n => ?_, S.sep, fun a z y => S.sep0 a z (h a y)⟩
  · obtain ⟨v, h1, h2⟩ := S.val i d e n
    exact ⟨v, h1, h2.less S.dom fa⟩
  · obtain ⟨v, h1, h2⟩ := S.own i d e n
    refine ⟨v, h1, ?_⟩
    cases d with
    | lst ds => obtain ⟨a, vs, rfl, ht, hr⟩ := h2; exact ⟨a, vs, rfl, ht, hr.less S.dom fa⟩
    | dik ks ds => obtain ⟨a, vs, rfl, hl, ht, hr⟩ := h2; exact ⟨a, vs, rfl, hl, ht, hr.less S.dom fa⟩
    | dit ks ds => obtain ⟨a, vs, rfl, hl, ht, hr⟩ := h2; exact ⟨a, vs, rfl, hl, ht, hr.less S.dom fa⟩
    | non => exact h2
    | bl _ => exact h2
    | int _ => exact h2
    | str _ => exact h2
    | tup _ => exact h2
    | arg _ => exact h2
    | ftu _ => exact h2
    | tab p q => exact h2
/-- a forbidden object is written -/
theorem Sim.wr (S : Sim K P0 O W ρ σ H) {q : Addr} {o : HO} (hq : P0 q) (ho : isMut (some o)) : Sim K P0 O W ρ σ (upd H q o) := by
  have k : ∀ b u, H b = some u → ¬ FA P0 O σ b → upd H q o b = some u := fun b u e n => by rw [upd_ne fun (z : b = q) => n (.inl (by rw [z]; exact hq))]; exact e
  have ne : ∀ {i a}, i ∈ O → σ[i]? = some (some (V.ref a)) → a ≠ q := fun {i a} hi e z => S.sep0 a ⟨i, hi, e⟩ (by rw [z]; exact hq)
  refine ⟨S.sub, S.len, fun b z => ?_, fun i d e n => ?_, fun i d e n => ?_, S.sep, S.sep0⟩
  · by_cases hb : b = q
    · rw [hb, upd_same]; exact ho
    · rw [upd_ne hb]; exact S.dom b z
  · obtain ⟨v, h1, h2⟩ := S.val i d e n
    exact ⟨v, h1, h2.of_same S.dom k⟩
  · obtain ⟨v, h1, h2⟩ := S.own i d e n
    refine ⟨v, h1, ?_⟩
    cases d with
    | lst ds => obtain ⟨a, vs, rfl, ht, hr⟩ := h2; exact ⟨a, vs, rfl, by rw [upd_ne (ne n h1)]; exact ht, hr.mono ds S.dom k fun _ z => .inl z⟩
    | dik ks ds => obtain ⟨a, vs, rfl, hl, ht, hr⟩ := h2; exact ⟨a, vs, rfl, hl, by rw [upd_ne (ne n h1)]; exact ht, hr.mono ds S.dom k fun _ z => .inl z⟩
    | dit ks ds => obtain ⟨a, vs, rfl, hl, ht, hr⟩ := h2; exact ⟨a, vs, rfl, hl, by rw [upd_ne (ne n h1)]; exact ht, hr.mono ds S.dom k fun _ z => .inl z⟩
    | non => exact h2
    | bl _ => exact h2
    | int _ => exact h2
    | str _ => exact h2
    | tup _ => exact h2
    | arg _ => exact h2
    | ftu _ => exact h2
    | tab p q => obtain ⟨a, rfl, ht⟩ := h2; exact ⟨a, rfl, TabS.mono S.dom k (fun o e => by rw [upd_ne (ne n h1)]; exact e) ht⟩
end

def setAll (ρ : Env) : List Nat → List D → Env
  | i :: is, d :: ds => setAll (ρ.set i (some d)) is ds
  | _, _ => ρ
abbrev GM := D → Env → R Env
def tmName (i : Nat) : GM := fun d ρ => .ok (ρ.set i (some d))
def tmTup (is : List Nat) : GM := fun d ρ => match d with
  | .tup ds => if ds.length = is.length then .ok (setAll ρ is ds) else .stk
  | _ => .stk
def tG (K : PySem.W.Frag) (P0 : Pr) (O W : List Nat) (tm : GM) (is : List Nat) : TG := fun v σ H Q => ∃ ρ d ρ', Sim K P0 O W ρ σ H ∧ Rep K H d (FA P0 O σ) v ∧ tm d ρ = .ok ρ' ∧
  ∀ σ', Sim K P0 O W ρ' σ' H → σ'.length = σ.length → (∀ j, j ∉ is → σ'[j]? = σ[j]?) → Q σ' H
theorem PG.imp {X : Cx} {e : Expr} {t t' : TG} (h : PG X e t) (i : ∀ v σ H Q, t' v σ H Q → t v σ H Q) : PG X e t' := by
  cases h with
  | mk h => exact ⟨fun pins s σ H v u Q I r q => h pins s σ H v u Q I r (i v σ H Q q)⟩
section
variable {X : Cx} {P0 : Pr} {O W : List Nat} {pos : Pos}
abbrev CG (X : Cx) (P0 : Pr) (O W : List Nat) (tg : Expr) (tm : GM) (is : List Nat) : Prop := PG X tg (tG X.K P0 O W tm is)
theorem cg_name (i : Nat) {x : Str} (hN : X.N.Nodup) (ho : i ∉ O := by decide) (hi : X.N[i]? = some x := by rfl) (hx : Loc X.env.scope x := by first | exact Or.inl rfl | exact Or.inr rfl) (hf : X.fn x = true ∨ X.env.scope.names.lookup x = some .local := by first | exact .inl rfl | exact .inr rfl) : CG X P0 O W (.Name x pos) (tmName i) [i] :=
  PG.imp (pg_name hN hi hx hf) fun v σ H Q ⟨ρ, d, ρ', S, r, e, q⟩ => by
    cases e
    exact q _ (S.set ho r) (by simp) fun j hj => List.getElem?_set_ne fun z => hj (by simp [z])
def gNames : List Nat → TGs
  | [] => gNil
  | i :: is => gCons (gName i) (gNames is)
theorem names_ok {K : PySem.W.Frag} {H : Hp} {Q : St → Hp → Prop} : ∀ {is : List Nat} {ds : List D} {vs : List V} {ρ : Env} {σ : St}, (∀ i ∈ is, i ∉ O) → ds.length = is.length → Sim K P0 O W ρ σ H → Reps K H ds (FA P0 O σ) vs →
    (∀ σ', Sim K P0 O W (setAll ρ is ds) σ' H → σ'.length = σ.length → (∀ j, j ∉ is → σ'[j]? = σ[j]?) → Q σ' H) → gNames is vs σ H Q
  | [], [], vs, ρ, σ, _, _, S, r, q => ⟨r.nil_iff, q σ S rfl fun _ _ => rfl⟩
  | [], _ :: _, _, _, _, _, hl, _, _, _ => by simp at hl
  | _ :: _, [], _, _, _, _, hl, _, _, _ => by simp at hl
  | i :: is, d :: ds, vs, ρ, σ, ho, hl, S, r, q => by
    obtain ⟨v, ws, rfl, r1, r2⟩ := r.cons_iff
    have hi : i ∉ O := ho i (by simp)
    have S1 := S.set hi r1
    have fa : ∀ j ∈ O, (σ.set i (some v))[j]? = σ[j]? := fun j hj => List.getElem?_set_ne fun (z : i = j) => hi (by rw [z]; exact hj)
    refine ⟨v, ws, rfl, names_ok (fun j hj => ho j (by simp [hj])) (by simpa using hl) S1 (r2.less S.dom fun b z => (FA_of fa b).mp z) fun σ' S' h1 h2 => ?_⟩
    exact q σ' S' (by rw [h1]; simp) fun j hj => by
      rw [h2 j fun z => hj (by simp [z])]
      exact List.getElem?_set_ne fun z => hj (by simp [z])
theorem cg_tup {es : List Expr} {k : Nat} (is : List Nat) (hc : X.calm = true) (h : PGs X es (gNames is)) (ho : ∀ i ∈ is, i ∉ O := by decide) (hst : (assignEach es X.env).findIdx? (·.1) = none := by rfl) (hn : (assignEach es X.env).length = is.length := by rfl) : CG X P0 O W (.Tuple es k pos) (tmTup is) is :=
  PG.imp (pg_tup hc h hn hst) fun v σ H Q ⟨ρ, d, ρ', S, r, e, q⟩ => by
    unfold tmTup at e
    split at e
    · split at e
      · rename_i hl; cases e
        unfold Rep at r
        obtain ⟨a, vs, rfl, h1, h2⟩ := r
        exact ⟨a, vs, rfl, SqT.of h1, by rw [h2.length, hl], names_ok ho hl S h2 q⟩
      · cases e
    · cases e
theorem cgs_nil : PGs X [] (gNames []) := pgs_nil
theorem cgs_cons {es : List Expr} {is : List Nat} (i : Nat) {x : Str} {p : Pos} (hN : X.N.Nodup) (h2 : PGs X es (gNames is)) (hi : X.N[i]? = some x := by rfl) (hx : Loc X.env.scope x := by first | exact Or.inl rfl | exact Or.inr rfl) (hf : X.fn x = true ∨ X.env.scope.names.lookup x = some .local := by first | exact .inl rfl | exact .inr rfl) :
    PGs X (.Name x p :: es) (gNames (i :: is)) := pgs_cons (pg_name hN hi hx hf) h2
end

open Classical in
/-- the slots that are read from stay -/
noncomputable def chk (ws : List Nat) (ρ ρ' : Env) : R Unit := if ∀ w ∈ ws, ρ'[w]? = ρ[w]? then .ok () else .stk
@[simp] theorem chk_nil {ρ ρ' : Env} : chk [] ρ ρ' = .ok () := by unfold chk; rw [if_pos]; intro w hw; cases hw
theorem chk_ok {ws : List Nat} {ρ ρ' : Env} (h : chk ws ρ ρ' = .ok ()) : ∀ w ∈ ws, ρ'[w]? = ρ[w]? := by
  unfold chk at h
  split at h
  · assumption
  · cases h
noncomputable def cCompL (tm : GM) (t : BM) (e : EM) (vs ws : List Nat) : List D → Env → R (List D × Env)
  | [], ρ => .ok ([], ρ)
  | x :: xs, ρ => do
    let ρ1 ← tm x ρ
    let (k, ρ2) ← t ρ1
    if k = true then do
      let (h, ρ3) ← e ρ2
      let d ← h.v
      let _ ← chk ws ρ (wipeE ρ3 vs)
      let (ys, ρ5) ← cCompL tm t e vs ws xs (wipeE ρ3 vs)
      pure (d :: ys, ρ5)
    else do
      let _ ← chk ws ρ (wipeE ρ2 vs)
      cCompL tm t e vs ws xs (wipeE ρ2 vs)
noncomputable def cComp (im : IM) (tm : GM) (t : BM) (e : EM) (vs : List Nat) : EM := fun ρ => do
  let ((ds, ws), ρ1) ← im ρ
  let (ys, ρ2) ← (cCompL tm t e vs ws ds (wipeE ρ1 vs)).nox
  pure (.fr (.lst ys), ρ2)
def cYes : BM := fun ρ => .ok (true, ρ)
abbrev E00 : EK := fun _ _ _ => False
/-- one turn -/
inductive CStep (tm : GM) (t : BM) (e : EM) (vs ws : List Nat) (x : D) (xs : List D) (ρ : Env) (ys : List D) (ρf : Env) : Prop where
  | yes (ρ1 ρ2 ρ3 : Env) (h : Hd) (d : D) (ys' : List D) (e1 : tm x ρ = .ok ρ1) (e2 : t ρ1 = .ok (true, ρ2)) (e3 : e ρ2 = .ok (h, ρ3)) (e4 : h.v = .ok d) (e5 : chk ws ρ (wipeE ρ3 vs) = .ok ()) (e6 : cCompL tm t e vs ws xs (wipeE ρ3 vs) = .ok (ys', ρf)) (e7 : ys = d :: ys')
  | no (ρ1 ρ2 : Env) (e1 : tm x ρ = .ok ρ1) (e2 : t ρ1 = .ok (false, ρ2)) (e5 : chk ws ρ (wipeE ρ2 vs) = .ok ()) (e6 : cCompL tm t e vs ws xs (wipeE ρ2 vs) = .ok (ys, ρf))
theorem cComp_step {tm : GM} {t : BM} {e : EM} {vs ws : List Nat} {x : D} {xs : List D} {ρ : Env} {ys : List D} {ρf : Env} (h : cCompL tm t e vs ws (x :: xs) ρ = .ok (ys, ρf)) : CStep tm t e vs ws x xs ρ ys ρf := by
  unfold cCompL at h
  obtain ⟨ρ1, e1, h⟩ := R.ok_of h
  obtain ⟨⟨k, ρ2⟩, e2, h⟩ := R.ok_of h
  cases k with
  | true =>
    have h : (e ρ2 >>= _) = R.ok (ys, ρf) := h
    obtain ⟨⟨hd, ρ3⟩, e3, h⟩ := R.ok_of h
    obtain ⟨d, e4, h⟩ := R.ok_of h
    obtain ⟨_, e5, h⟩ := R.ok_of h
    obtain ⟨⟨ys', ρ5⟩, e6, h⟩ := R.ok_of h
    cases h
    exact .yes ρ1 ρ2 ρ3 hd d ys' e1 e2 e3 e4 e5 e6 rfl
  | false =>
    have h : (chk ws ρ (wipeE ρ2 vs) >>= _) = R.ok (ys, ρf) := h
    obtain ⟨_, e5, h⟩ := R.ok_of h
    exact .no ρ1 ρ2 e1 e2 e5 h
end Y

set_option Elab.async false
set_option linter.all false
set_option maxRecDepth 100000
namespace Y
open PySem PySem.Spec PyProof.Rows L2

theorem wipe_same {σ σ' : St} {vs : List Nat} (hl : σ'.length = σ.length) (h : ∀ j, j ∉ vs → σ'[j]? = σ[j]?) : L2.wipe σ' vs = L2.wipe σ vs := by
  apply List.ext_getElem?
  intro j
  by_cases hj : j ∈ vs
  · have q : ∀ (τ : St), (L2.wipe τ vs)[j]? = if j < τ.length then some none else none := fun τ => by
      have hlen := L2.wipe_length τ vs
      cases e : (L2.wipe τ vs)[j]? with
      | none =>
        rw [List.getElem?_eq_none_iff] at e
        rw [if_neg (by omega)]
      | some o =>
        have := (List.getElem?_eq_some_iff.mp e).1
        rw [if_pos (by omega)]
        cases o with
        | none => rfl
        | some v => exact absurd hj (wipe_some e).2
    rw [q, q, hl]
  · rw [wipe_ne hj, wipe_ne hj, h j hj]
theorem wipe_idem {σ : St} {vs : List Nat} : L2.wipe (L2.wipe σ vs) vs = L2.wipe σ vs := wipe_same (L2.wipe_length σ vs) fun j hj => wipe_ne hj
theorem wipeE_none {ρ : Env} {vs : List Nat} : ∀ i ∈ vs, ∀ d, (wipeE ρ vs)[i]? ≠ some (some d) := fun i hi d e => (wipeE_some e).2 hi
section
variable {X : Cx} {P0 : Pr} {O W : List Nat} {E : EK} {a b c e tg : Expr} {es : List Expr} {ma mb mc : EM} {ms : AM} {pos : Pos}
theorem PE.ex {e : Expr} {m : EM} (h : ∀ P0, CEx X P0 O W E e m) : PE X e (fun σ H Q => ∃ P0, tM X.K P0 O W E m σ H Q) := ⟨fun pins s σ H Q I ⟨P0, q⟩ => (h P0).run pins s σ H Q I q⟩
theorem PT.ex {e : Expr} {m : BM} (h : ∀ P0, CT X P0 O W E e m) : PT X e (fun σ H Q => ∃ P0, tMt X.K P0 O W E m σ H Q) := ⟨fun pins s σ H Q I ⟨P0, q⟩ => (h P0).run pins s σ H Q I q⟩
theorem PG.ex {e : Expr} {m : GM} {is : List Nat} (h : ∀ P0, CG X P0 O W e m is) : PG X e (fun v σ H Q => ∃ P0, tG X.K P0 O W m is v σ H Q) := by
  refine ⟨fun pins s σ H v u Q I r ⟨P0, q⟩ => ?_⟩
  cases h P0 with
  | mk h => exact h pins s σ H v u Q I r q
/-- the tests of a comprehension -/
abbrev CTs (X : Cx) (O W : List Nat) (E : EK) (ifs : List Expr) (m : BM) : Prop := PTs X ifs (fun σ H Q => ∃ P0, tMt X.K P0 O W E m σ H Q)
theorem cts_nil : CTs X O W E [] cYes := by
  cases (pts_nil (X := X)) with
  | mk h => exact ⟨fun pins s σ H Q I ⟨P0, ρ, S, q⟩ => h pins s σ H Q I (q H S .refl)⟩
theorem cts_one {m : BM} (h : ∀ P0, CT X P0 O W E c m) : CTs X O W E [c] m := pts_one (PT.ex h)
theorem comp_core {K : PySem.W.Frag} {im : IM} {tm : GM} {t : BM} {me : EM} {is vs : List Nat} (hv : ∀ i ∈ is, i ∈ vs) (ho : ∀ i ∈ vs, i ∉ O) (σ : St) (H : Hp) (Q : VK) (h : tM K P0 O W E (cComp im tm t me vs) σ H Q) :
    tLc (tMi K P0 O W E im) (fun v σ H Q => ∃ P0, tG K P0 O W tm is v σ H Q) (fun σ H Q => ∃ P0, tMt K P0 O W E00 t σ H Q) (fun σ H Q => ∃ P0, tM K P0 O W E00 me σ H Q) vs σ H Q := by
  obtain ⟨ρ, S, h⟩ := h
  refine ⟨ρ, S, h.of_bind.mono fun ⟨⟨ds, ws⟩, ρ1⟩ q J H1 Ok S1 k1 src ok hz Dn hD => ?_⟩
  obtain ⟨⟨ys, ρf⟩, er, q⟩ := q.of_nox
  have src : Src K O W ds ws J Ok := src
  have hz : ds.length ≤ sizeLine := hz
  generalize hP : (fun b => P0 b ∨ b = Dn : Pr) = P1
  have pD : P1 Dn := by subst hP; exact .inr rfl
  have pI : ∀ b, P0 b → P1 b := by subst hP; exact fun b z => .inl z
  have pO : ∀ b, P1 b → P0 b ∨ b = Dn := by subst hP; exact fun b z => z
  have S2 : Sim K P1 O W ρ1 σ (upd H1 Dn (.lst [])) := by subst hP; exact S1.more hD
  have ok2 : Ok P1 ρ1 σ (upd H1 Dn (.lst [])) := src.grow P0 _ ρ1 σ H1 _ S1 (fun b z => (pO b z).elim .inl fun z => .inr (by rw [z]; exact hD)) (Same.new hD) ok
  have wO : ∀ w ∈ ws, w ∉ vs := fun w hw z => ho w z (src.mem _ _ _ _ ok w hw)
  have sO : ∀ i ∈ O, (L2.wipe σ vs)[i]? = σ[i]? := fun i hi => wipe_ne fun y => ho i y hi
  have S3 : Sim K P1 O W (wipeE ρ1 vs) (L2.wipe σ vs) (upd H1 Dn (.lst [])) := S2.wipe2 ho
  have nD : ¬ OA O (L2.wipe σ vs) Dn := fun z => (S1.dom Dn (.inr ((OA_of sO Dn).mp z))).some hD
  have ok3 : Ok P1 (wipeE ρ1 vs) (L2.wipe σ vs) (upd H1 Dn (.lst [])) := src.keep P1 ρ1 σ _ _ _ _ S2 (fun _ _ e _ => e) (fun b z => .inl ((FA_of sO b).mp z)) (fun w hw => ⟨wipe_ne (wO w hw), by
    cases e : (wipeE ρ1 vs)[w]? with
    | none =>
      have : ρ1.length ≤ w := by rw [← wipeE_length ρ1 vs]; exact List.getElem?_eq_none_iff.mp e
      rw [List.getElem?_eq_none this]
    | some o =>
      have q2 : ∀ (is : List Nat), w ∉ is → (wipeE ρ1 is)[w]? = ρ1[w]? := fun is => by
        induction is with
        | nil => intro _; rfl
        | cons i is ih =>
          intro hn
          simp only [List.mem_cons, not_or] at hn
          unfold wipeE
          rw [List.getElem?_set_ne fun z => hn.1 z.symm]
          exact ih hn.2
      rw [← e, q2 vs (wO w hw)]⟩) ok2
  -- the invariant
  let I : Nat → Hp → Prop := fun i Hx => i ≤ ds.length ∧ ∃ (ρx : Env) (acc : List V) (yd rest : List D), Sim K P1 O W ρx (L2.wipe σ vs) Hx ∧ Ok P1 ρx (L2.wipe σ vs) Hx ∧ Hx Dn = some (.lst acc) ∧ Reps K Hx yd (FA P1 O (L2.wipe σ vs)) acc ∧ acc.length ≤ i ∧
    cCompL tm t me vs ws (ds.drop i) ρx = .ok (rest, ρf) ∧ ys = yd ++ rest ∧ (∀ b o, H1 b = some o → ¬ OA W σ b → Hx b = some o) ∧ (∀ b, H1 b ≠ none → Hx b ≠ none) ∧ (∀ j ∈ vs, ∀ d, ρx[j]? ≠ some (some d))
  refine ⟨fun i m Hx => m = ds.length - i ∧ I i Hx, ⟨ds.length, by simp, Nat.zero_le _, wipeE ρ1 vs, [], [], ys, S3, ok3, upd_same, Reps.nil, Nat.le_refl _, er, rfl, fun b o e _ => Same.new hD b o e, fun b e => Same.some (Same.new hD) b e, wipeE_none⟩, ?_⟩
  rintro i m Hx ⟨rfl, hi, ρx, acc, yd, rest, Sx, okx, hDx, hR, hacc, hC, hys, kx, sx, nx⟩
  by_cases hlt : i < ds.length
  · right
    refine ⟨src.go P1 i ρx _ Hx Sx okx hlt, I (i + 1), fun H' p' => ⟨ds.length - (i + 1), by omega, rfl, p'⟩, fun x' H' y => ?_⟩
    obtain ⟨sm, rx⟩ := src.yld P1 i ρx _ Hx x' H' ds[i] Sx okx (List.getElem?_eq_getElem hlt) y
    rw [List.drop_eq_getElem_cons hlt] at hC
    have back : ∀ {σ2 : St}, σ2.length = (L2.wipe σ vs).length → (∀ j, j ∉ is → σ2[j]? = (L2.wipe σ vs)[j]?) → L2.wipe σ2 vs = L2.wipe σ vs ∧ ∀ j ∈ O, σ2[j]? = (L2.wipe σ vs)[j]? := fun {σ2} h1 h2 =>
      ⟨(wipe_same h1 fun j hj => h2 j fun z => hj (hv j z)).trans wipe_idem, fun j hj => h2 j fun z => ho j (hv j z) hj⟩
    -- from the turn's end to the next turn
    have next : ∀ {σ2 : St} {ρ3 : Env} {H4 : Hp} {acc' : List V} {yd' rest' : List D}, σ2.length = (L2.wipe σ vs).length → (∀ j, j ∉ is → σ2[j]? = (L2.wipe σ vs)[j]?) → Sim K P1 O W ρ3 σ2 H4 → Keep W σ2 H' H4 →
        (∀ w ∈ ws, (wipeE ρ3 vs)[w]? = ρx[w]?) → Reps K H4 yd' (FA P1 O σ2) acc' → acc'.length ≤ i + 1 → cCompL tm t me vs ws (ds.drop (i + 1)) (wipeE ρ3 vs) = .ok (rest', ρf) → ys = yd' ++ rest' → I (i + 1) (upd H4 Dn (.lst acc')) := by
      intro σ2 ρ3 H4 acc' yd' rest' h1 h2 S4 k4 hw r' hl' hc' hy'
      obtain ⟨b1, b2⟩ := back h1 h2
      have nD2 : ¬ OA O σ2 Dn := fun z => nD ((OA_of b2 Dn).mp z)
      have S5 := S4.wipe2 (is := vs) ho
      rw [b1] at S5
      have S6 := S5.wr (o := .lst acc') pD trivial
      have kp : ∀ b o, Hx b = some o → ¬ FA P1 O (L2.wipe σ vs) b → upd H4 Dn (.lst acc') b = some o := fun b o e n => by
        rw [upd_ne fun z => n (.inl (by rw [z]; exact pD))]
        exact k4.keep b o (sm b o e) fun z => n (.inr ((OA_of b2 b).mp (S4.oaw z)))
      refine ⟨hlt, wipeE ρ3 vs, acc', yd', rest', S6, src.keep P1 ρx _ Hx _ _ _ Sx kp (fun b z => .inl z) (fun w hw' => ⟨rfl, hw w hw'⟩) okx, upd_same, ?_, hl', hc', hy', fun b o e n => ?_, fun b e => ?_, wipeE_none⟩
      · refine r'.mono yd' S4.dom (fun b o e n => ?_) fun b z => .inl ((FA_of b2 b).mpr z)
        rw [upd_ne fun z => n (.inl (by rw [z]; exact pD))]
        exact e
      · have hb : b ≠ Dn := ne_of_none e hD
        rw [upd_ne hb]
        exact k4.keep b o (sm b o (kx b o e n)) fun z => n ((OA_of (fun i hi => sO i (S1.sub i hi)) b).mp ((OA_of (fun i hi => b2 i (S1.sub i hi)) b).mp z))
      · by_cases hb : b = Dn
        · rw [hb, upd_same]; intro z; cases z
        · rw [upd_ne hb]
          exact k4.some b (Same.some sm b (sx b e))
    cases cComp_step hC with
    | yes ρa ρb ρc hd d ys' e1 e2 e3 e4 e5 e6 e7 =>
      refine ⟨P1, ρx, ds[i], ρa, Sx.same sm, rx, e1, fun σ2 Sa h1 h2 => ⟨(back h1 h2).1, P1, ρa, Sa, ?_⟩⟩
      rw [e2]
      intro H3 Sb k3
      refine (if_pos rfl).mpr ⟨P1, ρb, Sb, ?_⟩
      rw [e3]
      intro y' H4 Sc k4 r4
      have b2 := (back h1 h2).2
      have nD2 : ¬ OA O σ2 Dn := fun z => nD ((OA_of b2 Dn).mp z)
      have k34 : Keep W σ2 H' H4 := k3.trans k4
      refine ⟨acc, k34.keep _ _ (sm _ _ hDx) fun z => nD2 (Sc.oaw z), by omega, ?_⟩
      have r5 : Reps K H4 yd (FA P1 O σ2) acc := hR.mono yd Sx.dom (fun b o e n => k34.keep b o (sm b o e) fun z => n (.inr ((OA_of b2 b).mp (Sc.oaw z)))) fun b z => .inl ((FA_of b2 b).mp z)
      exact next h1 h2 Sc k34 (chk_ok e5) (r5.append (Reps.cons (r4.v e4) Reps.nil)) (by simp; omega) e6 (by rw [hys, e7]; simp)
    | no ρa ρb e1 e2 e5 e6 =>
      refine ⟨P1, ρx, ds[i], ρa, Sx.same sm, rx, e1, fun σ2 Sa h1 h2 => ⟨(back h1 h2).1, P1, ρa, Sa, ?_⟩⟩
      rw [e2]
      intro H3 Sb k3
      refine (if_neg Bool.false_ne_true).mpr ?_
      have b2 := (back h1 h2).2
      have nD2 : ¬ OA O σ2 Dn := fun z => nD ((OA_of b2 Dn).mp z)
      have r5 : Reps K H3 yd (FA P1 O σ2) acc := hR.mono yd Sx.dom (fun b o e n => k3.keep b o (sm b o e) fun z => n (.inr ((OA_of b2 b).mp (Sb.oaw z)))) fun b z => .inl ((FA_of b2 b).mp z)
      have hD3 : H3 Dn = some (.lst acc) := k3.keep _ _ (sm _ _ hDx) fun z => nD2 (Sb.oaw z)
      have fin := next h1 h2 Sb k3 (chk_ok e5) r5 (by omega) e6 hys
      have e : upd H3 Dn (.lst acc) = H3 := by
        funext b
        unfold upd
        split
        · rename_i z; rw [z, hD3]
        · rfl
      rw [e] at fin
      exact fin
  · left
    have ei : i = ds.length := by omega
    subst ei
    refine ⟨src.stop P1 ρx _ Hx Sx okx, ?_⟩
    rw [List.drop_length] at hC
    have hC : (R.ok (([] : List D), ρx)) = R.ok (rest, ρf) := hC
    cases hC
    rw [List.append_nil] at hys
    subst hys
    have kH : Keep W σ H1 Hx := ⟨kx, sx⟩
    refine q (.ref Dn) Hx ((Sx.lessP pI).out ho nx) (k1.trans kH) ⟨?_, fun _ a e => ?_⟩
    · unfold Rep
      refine ⟨Dn, acc, rfl, fun z => (S1.dom Dn z).some hD, hDx, hR.less Sx.dom fun b z => ?_⟩
      rcases z with z | z
      · exact (FA_of sO b).mpr (z.imp (pI b) id)
      · rw [z]; exact .inl pD
    · cases e
      exact Classical.byContradiction fun z => k1.some Dn z hD
theorem ce_comp {elt iter : Expr} {ifs : List Expr} {scope : Scope} {own : List (Str × Nat)} {im : IM} {tm : GM} {t : BM} {me : EM} {is : List Nat} (hc : X.calm = true) (hN : X.N.Nodup) (hi : CI X P0 O W E tg iter im) (ok : BlkOk X.N X.env.scope scope own)
    (hg : ∀ (P0 : Pr) (s : Shared) (H : Hp) (C : Addr) (cl : List (Str × Addr)) (fp : List Addr), CG (X.blk s H scope (compEnvC scope cl C X.env) fp) P0 O W tg tm is)
    (ht : ∀ (s : Shared) (H : Hp) (C : Addr) (cl : List (Str × Addr)) (fp : List Addr), CTs (X.blk s H scope (compEnvC scope cl C X.env) fp) O W E00 ifs t)
    (he : ∀ (P0 : Pr) (s : Shared) (H : Hp) (C : Addr) (cl : List (Str × Addr)) (fp : List Addr), CEx (X.blk s H scope (compEnvC scope cl C X.env) fp) P0 O W E00 elt me)
    (hv : ∀ i ∈ is, i ∈ own.map (·.2) := by decide) (ho : ∀ i ∈ own.map (·.2), i ∉ O := by decide) (hs : ∀ x, foldedSetIterable iter X.env x = pure x := by intro _; rfl) :
    CEx X P0 O W E (.ListComp elt [⟨tg, iter, ifs, 0⟩] scope pos) (cComp im tm t me (own.map (·.2))) :=
  PE.imp (pe_lc hc hN hi ok (fun s H C cl fp => PG.ex fun P0 => hg P0 s H C cl fp) ht (fun s H C cl fp => PE.ex fun P0 => he P0 s H C cl fp) hs) (comp_core hv ho)
end
end Y

set_option Elab.async false
set_option linter.all false
set_option maxRecDepth 100000
namespace Y
open PySem PySem.Spec PyProof.Rows L2

mutual
def D.nl : D → Bool
  | .non => true
  | .bl _ => true
  | .int _ => true
  | .str _ => true
  | .tup ds => nls ds
  | .ftu ds => nls ds
  | _ => false
def nls : List D → Bool
  | [] => true
  | d :: ds => d.nl && nls ds
end
/-- a list, a dict of such -/
def D.shallow : D → Bool
  | .lst ds => nls ds
  | .dik _ ds => nls ds
  | .dit _ ds => nls ds
  | .tab _ _ => true
  | d => d.nl
section
variable {K : PySem.W.Frag} {H : Hp}
mutual
theorem Rep.nl : ∀ {d : D} {P P' : Pr} {v : V}, d.nl = true → Rep K H d P v → Rep K H d P' v
  | .non, _, _, _, _, h => by unfold Rep at h ⊢; exact h
  | .bl _, _, _, _, _, h => by unfold Rep at h ⊢; exact h
  | .int _, _, _, _, _, h => by unfold Rep at h ⊢; exact h
  | .str _, _, _, _, _, h => by unfold Rep at h ⊢; exact h
  | .tup ds, P, P', v, n, h => by
    unfold Rep at h ⊢
    obtain ⟨a, vs, e, h1, h2⟩ := h
    exact ⟨a, vs, e, h1, Reps.nl (by unfold D.nl at n; exact n) h2⟩
  | .ftu ds, P, P', v, n, h => by
    unfold Rep at h ⊢
    obtain ⟨a, vs, o, e, h1, hd, h2⟩ := h
    exact ⟨a, vs, o, e, h1, hd, Reps.nl (by unfold D.nl at n; exact n) h2⟩
  | .tab _ _, _, _, _, n, _ => by simp [D.nl] at n
  | .lst _, _, _, _, n, _ => by simp [D.nl] at n
  | .arg _, _, _, _, n, _ => by simp [D.nl] at n
  | .dik _ _, _, _, _, n, _ => by simp [D.nl] at n
  | .dit _ _, _, _, _, n, _ => by simp [D.nl] at n
theorem Reps.nl : ∀ {ds : List D} {P P' : Pr} {vs : List V}, nls ds = true → Reps K H ds P vs → Reps K H ds P' vs
  | [], _, _, _, _, h => by rw [h.nil_iff]; exact Reps.nil
  | d :: ds, P, P', vs, n, h => by
    obtain ⟨v, ws, rfl, h1, h2⟩ := h.cons_iff
    unfold nls at n
    rw [Bool.and_eq_true] at n
    exact Reps.cons (Rep.nl n.1 h1) (Reps.nl n.2 h2)
end
theorem RepO.shallow {d : D} {P P' : Pr} {v : V} (n : d.shallow = true) (h : RepO K H d P v) : RepO K H d P' v := by
  cases d with
  | lst ds => obtain ⟨a, vs, e, h1, h2⟩ := h; exact ⟨a, vs, e, h1, h2.nl n⟩
  | dik ks ds => obtain ⟨a, vs, e, hl, h1, h2⟩ := h; exact ⟨a, vs, e, hl, h1, h2.nl n⟩
  | dit ks ds => obtain ⟨a, vs, e, hl, h1, h2⟩ := h; exact ⟨a, vs, e, hl, h1, h2.nl n⟩
  | non => exact h
  | bl _ => exact h
  | int _ => exact h
  | str _ => exact h
  | tup _ => exact h
  | arg _ => exact h
  | ftu _ => exact h
  | tab _ _ => exact h
theorem RepO.mono {H' : Hp} {d : D} {P P' : Pr} {v : V} (hm : ∀ b, P b → isMut (H b)) (k : ∀ b o, H b = some o → ¬ P b → H' b = some o) (hp : ∀ b, P' b → P b ∨ H b = none) (hk : ∀ a o, v = .ref a → H a = some o → H' a = some o) (h : RepO K H d P v) : RepO K H' d P' v := by
  cases d with
  | lst ds => obtain ⟨a, vs, e, h1, h2⟩ := h; exact ⟨a, vs, e, hk a _ e h1, h2.mono ds hm k hp⟩
  | dik ks ds => obtain ⟨a, vs, e, hl, h1, h2⟩ := h; exact ⟨a, vs, e, hl, hk a _ e h1, h2.mono ds hm k hp⟩
  | dit ks ds => obtain ⟨a, vs, e, hl, h1, h2⟩ := h; exact ⟨a, vs, e, hl, hk a _ e h1, h2.mono ds hm k hp⟩
  | non => exact h
  | bl _ => exact h
  | int _ => exact h
  | str _ => exact h
  | tup _ => exact h
  | arg _ => exact h
  | ftu _ => exact h
  | tab p q => obtain ⟨a, e, ht⟩ := h; exact ⟨a, e, TabS.mono hm k (fun o e2 => hk a o e e2) ht⟩
end
open Classical in
/-- what is known of the slots is what was known; or, of own slots, it holds no lists -/
noncomputable def chkO (O W : List Nat) (ρ ρ' : Env) : R Unit := if ∀ (j : Nat) d, ρ'[j]? = some (some d) → (ρ[j]? = some (some d) ∧ j ∉ W) ∨ (j ∈ O ∧ d.shallow = true) ∨ d.nl = true then .ok () else .stk
theorem chkO_ok {O W : List Nat} {ρ ρ' : Env} (h : chkO O W ρ ρ' = .ok ()) : ∀ (j : Nat) d, ρ'[j]? = some (some d) → (ρ[j]? = some (some d) ∧ j ∉ W) ∨ (j ∈ O ∧ d.shallow = true) ∨ d.nl = true := by
  unfold chkO at h
  split at h
  · assumption
  · cases h
@[simp] theorem chkO_same {O : List Nat} {ρ : Env} : chkO O [] ρ ρ = .ok () := by unfold chkO; rw [if_pos fun j d e => .inl ⟨e, by simp⟩]
/-- what an own slot may take -/
def D.ownable : D → Bool
  | .lst _ => true
  | .non => true
  | .bl _ => true
  | .int _ => true
  | .str _ => true
  | _ => false
section
variable {K : PySem.W.Frag} {P0 P1 : Pr} {O W : List Nat} {ρ ρ' : Env} {σ σ' : St} {H H' : Hp} {d : D} {v : V}
/-- an own slot's object is written -/
theorem Sim.ownW (S : Sim K P0 O W ρ σ H) {i : Nat} {a : Addr} {o : HO} (hi : i ∈ O) (ha : σ[i]? = some (some (.ref a))) (ho : isMut (some o)) (r : RepO K (upd H a o) d (FA P0 O σ) (.ref a)) : Sim K P0 O W (ρ.set i (some d)) σ (upd H a o) := by
  have pa : FA P0 O σ a := .inr ⟨i, hi, ha⟩
  have k : ∀ b u, H b = some u → ¬ FA P0 O σ b → upd H a o b = some u := fun b u e n => by rw [upd_ne fun z => n (by rw [z]; exact pa)]; exact e
  refine ⟨S.sub, by simpa using S.len, fun b z => ?_, fun j d' e n => ?_, fun j d' e n => ?_, S.sep, S.sep0⟩
  · by_cases hb : b = a
    · rw [hb, upd_same]; exact ho
    · rw [upd_ne hb]; exact S.dom b z
  · have hj : i ≠ j := fun (z : i = j) => n (by rw [← z]; exact hi)
    rw [List.getElem?_set_ne hj] at e
    obtain ⟨v, h1, h2⟩ := S.val j d' e n
    exact ⟨v, h1, h2.of_same S.dom k⟩
  · by_cases hj : i = j
    · subst hj
      have h1 : i < ρ.length := by have := (List.getElem?_eq_some_iff.mp e).1; simpa using this
      rw [List.getElem?_set_self h1] at e
      cases e
      exact ⟨_, ha, r⟩
    · rw [List.getElem?_set_ne hj] at e
      obtain ⟨v, h1, h2⟩ := S.own j d' e n
      refine ⟨v, h1, h2.mono S.dom k (fun _ z => .inl z) fun b u e1 e2 => ?_⟩
      subst e1
      rw [upd_ne fun (z : b = a) => hj (S.sep i j a hi n ha (by rw [← z]; exact h1))]
      exact e2
/-- a datum of an own slot, of a new object -/
theorem Rep.own (hm : ∀ b, FA P0 O σ b → isMut (H b)) (hd : d.ownable = true) (r : Rep K H d (FA P0 O σ) v) {P' : Pr} (hp : ∀ b, P' b → FA P0 O σ b ∨ v = .ref b) : RepO K H d P' v := by
  cases d with
  | lst ds =>
    unfold Rep at r
    obtain ⟨a, vs, rfl, h0, h1, h2⟩ := r
    exact ⟨a, vs, rfl, h1, h2.less (mutL hm h1) fun b z => (hp b z).imp id fun z => by cases z; rfl⟩
  | dik _ _ => cases hd
  | dit _ _ => cases hd
  | non => unfold Rep at r; exact r
  | bl _ => unfold Rep at r; exact r
  | int _ => unfold Rep at r; exact r
  | str _ => unfold Rep at r; exact r
  | tup _ => cases hd
  | arg _ => cases hd
  | ftu _ => cases hd
  | tab _ _ => cases hd
/-- an own slot gets a new object v. S0: the state ahead of its making -/
theorem Sim.setO (S0 : Sim K P0 O W ρ σ H) (S : Sim K P0 O W ρ' σ H') (k : Keep W σ H H') (c : ∀ (j : Nat) d, ρ'[j]? = some (some d) → (ρ[j]? = some (some d) ∧ j ∉ W) ∨ (j ∈ O ∧ d.shallow = true) ∨ d.nl = true) {i : Nat} (hi : i ∈ O)
    (new : ∀ a, v = .ref a → H a = none ∧ isMut (H' a)) (r : RepO K H' d (fun b => FA P0 O σ b ∨ v = .ref b) v) : Sim K P0 O W (ρ'.set i (some d)) (σ.set i (some v)) H' := by
  have gs : ∀ {j : Nat} {w : V}, (σ.set i (some v))[j]? = some (some w) → (j = i ∧ w = v) ∨ (j ≠ i ∧ σ[j]? = some (some w)) := fun {j w} e => by
    by_cases hj : i = j
    · subst hj
      have h1 : i < σ.length := by have := (List.getElem?_eq_some_iff.mp e).1; simpa using this
      rw [List.getElem?_set_self h1] at e
      cases e
      exact .inl ⟨rfl, rfl⟩
    · rw [List.getElem?_set_ne hj] at e
      exact .inr ⟨fun z => hj z.symm, e⟩
  have oa : ∀ b, OA O (σ.set i (some v)) b → v = .ref b ∨ OA O σ b := fun b ⟨j, hj, e⟩ => by
    rcases gs e with ⟨_, e2⟩ | ⟨_, e2⟩
    · exact .inl e2.symm
    · exact .inr ⟨j, hj, e2⟩
  have fa0 : ∀ b, FA P0 O (σ.set i (some v)) b → FA P0 O σ b ∨ H b = none := fun b z => by
    rcases z with z | z
    · exact .inl (.inl z)
    · rcases oa b z with z | z
      · exact .inr (new b z).1
      · exact .inl (.inr z)
  have kf : ∀ b o, H b = some o → ¬ FA P0 O σ b → H' b = some o := fun b o e n => k.keep b o e fun z => n (.inr (S.oaw z))
  -- the new object is not what an own slot held
  have apart : ∀ a, v = .ref a → ¬ FA P0 O σ a := fun a e z => (S0.dom a z).some (new a e).1
  refine ⟨S.sub, by simpa using S.len, fun b z => ?_, fun j d' e n => ?_, fun j d' e n => ?_, fun x y a hx hy e1 e2 => ?_, fun a z y => ?_⟩
  · rcases z with z | z
    · exact S.dom b (.inl z)
    · rcases oa b z with z | z
      · exact (new b z).2
      · exact S.dom b (.inr z)
  · have hj : i ≠ j := fun (z : i = j) => n (by rw [← z]; exact hi)
    rw [List.getElem?_set_ne hj] at e ⊢
    rcases c j d' e with ⟨e0, _⟩ | ⟨z, _⟩ | nl
    · obtain ⟨w, h1, h2⟩ := S0.val j d' e0 n
      exact ⟨w, h1, h2.mono d' S0.dom kf fa0⟩
    · exact absurd z n
    · obtain ⟨w, h1, h2⟩ := S.val j d' e n
      exact ⟨w, h1, h2.nl nl⟩
  · by_cases hj : i = j
    · subst hj
      have h1 : i < ρ'.length := by have := (List.getElem?_eq_some_iff.mp e).1; simpa using this
      rw [List.getElem?_set_self h1] at e
      cases e
      refine ⟨v, List.getElem?_set_self (Nat.lt_of_lt_of_le h1 S.len), ?_⟩
      have r' := r
      refine r'.mono (P := fun b => FA P0 O σ b ∨ v = .ref b) (fun b z => z.elim (S.dom b) fun z => (new b z).2) (fun _ _ e _ => e) (fun b z => ?_) fun _ _ _ e => e
      rcases z with z | z
      · exact .inl (.inl (.inl z))
      · exact .inl ((oa b z).elim .inr fun z => .inl (.inr z))
    · rw [List.getElem?_set_ne hj] at e ⊢
      rcases c j d' e with ⟨e0, hw⟩ | ⟨_, sh⟩ | nl
      · obtain ⟨w, h1, h2⟩ := S0.own j d' e0 n
        refine ⟨w, h1, h2.mono S0.dom kf fa0 fun a o e1 e2 => ?_⟩
        subst e1
        refine k.keep a o e2 fun ⟨x, hx, ex⟩ => ?_
        have := S0.sep x j a (S0.sub x hx) n ex h1
        exact hw (this ▸ hx)
      · obtain ⟨w, h1, h2⟩ := S.own j d' e n
        exact ⟨w, h1, h2.shallow sh⟩
      · obtain ⟨w, h1, h2⟩ := S.own j d' e n
        refine ⟨w, h1, ?_⟩
        cases d' <;> first | exact h2 | (simp [D.nl] at nl)
  · rcases gs e1 with ⟨f1, g1⟩ | ⟨f1, g1⟩
    · rcases gs e2 with ⟨f2, g2⟩ | ⟨f2, g2⟩
      · rw [f1, f2]
      · exact absurd (.inr ⟨y, hy, g2⟩) (apart a g1.symm)
    · rcases gs e2 with ⟨f2, g2⟩ | ⟨f2, g2⟩
      · exact absurd (.inr ⟨x, hx, g1⟩) (apart a g2.symm)
      · exact S.sep x y a hx hy g1 g2
  · rcases oa a z with z | z
    · exact apart a z (.inl y)
    · exact S.sep0 a z y
end

inductive Fl where
  | nx | bk | ct | rt (h : Hd)
abbrev SM := Env → R (Fl × Env)
def Fin (K : PySem.W.Frag) (P0 : Pr) (O : List Nat) (Hs : Hp) (D : Ends) (σ : St) (H : Hp) : Fl → Prop
  | .nx => D.nx σ H
  | .bk => D.bk σ H
  | .ct => D.ct σ H
  | .rt h => ∀ v, HdR K P0 O Hs σ H h v → D.rt v H
def tSt (K : PySem.W.Frag) (P0 : Pr) (O W U : List Nat) (E : EK) (m : SM) : TS := fun D σ H => ∃ ρ, Sim K P0 O W ρ σ H ∧
  Res E O σ H (m ρ) fun a => ∀ σ' H', Sim K P0 O W a.2 σ' H' → Tr O U σ H σ' H' → σ'.length = σ.length → Fin K P0 O H D σ' H' a.1
section
variable {E : EK} {O W U : List Nat} {σ σ1 : St} {H H1 : Hp} {α β : Type}
theorem Keep.up (hs : ∀ i ∈ W, i ∈ O) (k : Keep W σ H H1) : Keep O σ H H1 := ⟨fun b o e n => k.keep b o e fun ⟨i, hi, z⟩ => n ⟨i, hs i hi, z⟩, k.some⟩
theorem Res.down (hs : ∀ i ∈ W, i ∈ O) {r : R α} {k : α → Prop} (h : Res E O σ H r k) : Res E W σ H r k := by
  cases r with
  | ok a => exact h
  | er c ds => exact fun H' kp => h H' (kp.up hs)
  | stk => exact h
theorem Keep.afterT {H2 : Hp} (t : Tr O U σ H σ1 H1) (k : Keep O σ1 H1 H2) : Keep O σ H H2 where
  keep := fun b o e n => k.keep b o (t.keep b o e n) fun z => by
    rcases t.own b z with z | z
    · exact n z
    · rw [e] at z; cases z
  some := fun b e => k.some b (t.some b e)
theorem Res.keepT {r : R α} {k : α → Prop} (h : Res E O σ H r k) (t : Tr O U σ H σ1 H1) : Res E O σ1 H1 r k := by
  cases r with
  | ok a => exact h
  | er c ds => exact fun H' kp => h H' (kp.afterT t)
  | stk => exact h
end
section
variable {X : Cx} {P0 : Pr} {O W U : List Nat} {E : EK} {a b c e tg : Expr} {es : List Expr} {ma mb mc : EM} {ms : AM} {pos : Pos} {st : Stmt} {sts : List Stmt} {m n : SM}
abbrev CS (X : Cx) (P0 : Pr) (O W U : List Nat) (E : EK) (st : Stmt) (m : SM) : Prop := PS X st (tSt X.K P0 O W U E m)
abbrev CSs (X : Cx) (P0 : Pr) (O W U : List Nat) (E : EK) (sts : List Stmt) (m : SM) : Prop := PSs X sts (tSt X.K P0 O W U E m)
def sSkip : SM := fun ρ => .ok (.nx, ρ)
def sSeq (m n : SM) : SM := fun ρ => do
  let (f, ρ1) ← m ρ
  match f with
  | .nx => n ρ1
  | f => pure (f, ρ1)
theorem cs_nil : CSs X P0 O W U E [] sSkip := PSs.imp pss_nil fun D σ H ⟨ρ, S, h⟩ => h σ H S .refl rfl
theorem cs_one (h : CS X P0 O W U E st m) : CSs X P0 O W U E [st] m := pss_one h
theorem cs_cons (h : CS X P0 O W U E st m) (h2 : CSs X P0 O W U E sts n) : CSs X P0 O W U E (st :: sts) (sSeq m n) := PSs.imp (pss_cons h h2) fun D σ H ⟨ρ, S, h⟩ =>
  ⟨ρ, S, h.of_bind.mono fun ⟨f, ρ1⟩ q σ1 H1 S1 t1 l1 => by
    cases f with
    | nx =>
      refine ⟨ρ1, S1, (Res.keepT (show Res E O σ H (n ρ1) _ from q) t1).mono fun ⟨f2, ρ2⟩ q2 σ2 H2 S2 t2 l2 => ?_⟩
      have q3 := q2 σ2 H2 S2 (t1.trans t2) (l2.trans l1)
      cases f2 with
      | nx => exact q3
      | bk => exact q3
      | ct => exact q3
      | rt hd => exact fun v r => q3 v (r.back t1.some)
    | bk => exact q σ1 H1 S1 t1 l1
    | ct => exact q σ1 H1 S1 t1 l1
    | rt hd => exact q σ1 H1 S1 t1 l1⟩
def sRet (m : EM) : SM := fun ρ => do
  let (h, ρ1) ← m ρ
  pure (.rt h, ρ1)
theorem cs_ret (h : CEx X P0 O W E e ma) : CS X P0 O W U E (.Return (some e) pos) (sRet ma) := PS.imp (ps_ret h) fun D σ H ⟨ρ, S, h⟩ =>
  ⟨ρ, S, (h.of_bind.down S.sub).mono fun ⟨hd, ρ1⟩ q v H1 S1 k1 r1 => q σ H1 S1 (Tr.of S.sub k1) rfl v r1⟩
def sIf (t : BM) (m n : SM) : SM := fun ρ => do
  let (k, ρ1) ← t ρ
  if k = true then m ρ1 else n ρ1
theorem Fin.back {K : PySem.W.Frag} {Hs Hs' : Hp} {D : Ends} {σ : St} {H : Hp} {f : Fl} (k : ∀ b, Hs b ≠ none → Hs' b ≠ none) (h : Fin K P0 O Hs D σ H f) : Fin K P0 O Hs' D σ H f := by
  cases f with
  | rt hd => exact fun v r => h v (r.back k)
  | nx => exact h
  | bk => exact h
  | ct => exact h
theorem cs_if {t : BM} {xs ys : List Stmt} (hc : CT X P0 O W E c t) (h1 : CSs X P0 O W U E xs m) (h2 : CSs X P0 O W U E ys n) : CS X P0 O W U E (.If c xs ys pos) (sIf t m n) := PS.imp (ps_if hc h1 h2) fun D σ H ⟨ρ, S, h⟩ =>
  ⟨ρ, S, (h.of_bind.down S.sub).mono fun ⟨k, ρ1⟩ q H1 S1 k1 => by
    cases k with
    | true =>
      exact (if_pos rfl).mpr ⟨ρ1, S1, (Res.keepT (show Res E O σ H (m ρ1) _ from q) (Tr.of (U := U) S.sub k1)).mono fun ⟨f2, ρ2⟩ q2 σ2 H2 S2 t2 l2 => (q2 σ2 H2 S2 ((Tr.of S.sub k1).trans t2) l2).back fun b e => k1.some b e⟩
    | false =>
      exact (if_neg Bool.false_ne_true).mpr ⟨ρ1, S1, (Res.keepT (show Res E O σ H (n ρ1) _ from q) (Tr.of (U := U) S.sub k1)).mono fun ⟨f2, ρ2⟩ q2 σ2 H2 S2 t2 l2 => (q2 σ2 H2 S2 ((Tr.of S.sub k1).trans t2) l2).back fun b e => k1.some b e⟩⟩
end
end Y

set_option Elab.async false
set_option linter.all false
set_option maxRecDepth 100000
namespace Y
open PySem PySem.Spec PyProof.Rows L2
section
variable {K : PySem.W.Frag} {X : Cx} {P0 : Pr} {O W U : List Nat} {E : EK} {a b c e tg iter : Expr} {es : List Expr} {ma mb mc : EM} {ms : AM} {pos : Pos} {st : Stmt} {sts : List Stmt} {m n : SM}
def sAsg (m : EM) (tm : GM) : SM := fun ρ => do
  let (h, ρ1) ← m ρ
  let d ← h.v.nox
  let ρ2 ← (tm d ρ1).nox
  pure (.nx, ρ2)
theorem Tr.slots {is : List Nat} {σ σ' : St} {H : Hp} (ho : ∀ i ∈ is, i ∉ O) (hu : ∀ i ∈ U, i ∈ O) (h : ∀ j, j ∉ is → σ'[j]? = σ[j]?) : Tr O U σ H σ' H :=
  ⟨fun _ _ e _ => e, fun _ e => e, fun b z => .inl ((OA_of (fun i hi => h i fun y => ho i y hi) b).mp z), fun i hi => h i fun y => ho i y (hu i hi)⟩
theorem tM_asg {tm : GM} {is : List Nat} (ho : ∀ i ∈ is, i ∉ O) (hu : ∀ i ∈ U, i ∈ O) (D : Ends) (σ : St) (H : Hp) (h : tSt K P0 O W U E (sAsg ma tm) D σ H) : tAsg (tM K P0 O W E ma) (tG K P0 O W tm is) D σ H := by
  obtain ⟨ρ, S, h⟩ := h
  refine ⟨ρ, S, (h.of_bind.down S.sub).mono fun ⟨hd, ρ1⟩ q v H1 S1 k1 r1 => ?_⟩
  obtain ⟨d, e1, q⟩ := q.of_nox
  obtain ⟨ρ2, e2, q⟩ := q.of_nox
  exact ⟨ρ1, d, ρ2, S1, r1.v e1, e2, fun σ' S' l h' => q σ' H1 S' ((Tr.of S.sub k1).trans (Tr.slots ho hu h')) l⟩
theorem cs_asg {tm : GM} {is : List Nat} (h : CEx X P0 O W E e ma) (hg : CG X P0 O W tg tm is) (ho : ∀ i ∈ is, i ∉ O := by decide) (hu : ∀ i ∈ U, i ∈ O := by decide) (hs : swapsWithSole [tg] e pos.line X.env = pure false := by rfl) (hw : swappedStores [tg] e X.env = pure none := by rfl) (h1 : (assignEach [tg] X.env).map (·.2) = [assign tg X.env] := by rfl) : CS X P0 O W U E (.Assign [tg] e pos) (sAsg ma tm) :=
  PS.imp (ps_asg h hg hs hw h1) (tM_asg ho hu)
/-- y = [.. for ..] on one line, y not captured -/
theorem cs_asgLc {i : Nat} {y : Str} {py : Pos} {elt : Expr} {ifs : List Expr} {scope : Scope} {own : List (Str × Nat)} {im : IM} {tm : GM} {t : BM} {me : EM} {is : List Nat} {p2 : Pos} (hc : X.calm = true) (hN : X.N.Nodup) (hy : X.N[i]? = some y) (hyl : X.env.scope.names.lookup y = some .local)
    (hsw : swapsWith (.ListComp elt [⟨tg, iter, ifs, 0⟩] scope pos) (some (.Name y py)) p2.line X.env = pure true) (hi : CI X P0 O W E tg iter im) (ok : BlkOk X.N X.env.scope scope own)
    (hg : ∀ (P0 : Pr) (s : Shared) (H : Hp) (C : Addr) (cl : List (Str × Addr)) (fp : List Addr), CG (X.blk s H scope (compEnvC scope cl C X.env) fp) P0 O W tg tm is)
    (ht : ∀ (s : Shared) (H : Hp) (C : Addr) (cl : List (Str × Addr)) (fp : List Addr), CTs (X.blk s H scope (compEnvC scope cl C X.env) fp) O W E00 ifs t)
    (he : ∀ (P0 : Pr) (s : Shared) (H : Hp) (C : Addr) (cl : List (Str × Addr)) (fp : List Addr), CEx (X.blk s H scope (compEnvC scope cl C X.env) fp) P0 O W E00 elt me)
    (hv : ∀ i ∈ is, i ∈ own.map (·.2) := by decide) (ho : ∀ i ∈ own.map (·.2), i ∉ O := by decide) (hi' : i ∉ O := by decide) (hu : ∀ i ∈ U, i ∈ O := by decide) (hs : ∀ x, foldedSetIterable iter X.env x = pure x := by intro _; rfl) :
    CS X P0 O W U E (.Assign [.Name y py] (.ListComp elt [⟨tg, iter, ifs, 0⟩] scope pos) p2) (sAsg (cComp im tm t me (own.map (·.2))) (tmName i)) :=
  PS.imp (ps_setLc (i := i) hc hN hy hyl hsw hi ok (fun s H C cl fp => PG.ex fun P0 => hg P0 s H C cl fp) ht (fun s H C cl fp => PE.ex fun P0 => he P0 s H C cl fp) hs) fun D σ H h => by
    have q := tM_asg (is := [i]) (by simpa using hi') hu D σ H h
    refine comp_core (im := im) (tm := tm) (t := t) (me := me) hv ho σ H _ ?_
    obtain ⟨ρ, S, q⟩ := q
    refine ⟨ρ, S, q.mono fun a q v H1 S1 k1 r1 => ?_⟩
    obtain ⟨ρ1, d, ρ2, S2, r, e, q⟩ := q v H1 S1 k1 r1
    cases e
    exact q _ (S2.set hi' r) (by simp) fun j hj => List.getElem?_set_ne fun z => hj (by simp [z])
noncomputable def sOwn (O W : List Nat) (m : EM) (i : Nat) : SM := fun ρ => do
  let (h, ρ1) ← m ρ
  match h with
  | .fr d => do
    let _ ← (chkO O W ρ ρ1).nox
    if d.ownable = true then pure (.nx, ρ1.set i (some d)) else .stk
  | _ => .stk
theorem tM_own {i : Nat} (hi : i ∈ O) (hu : i ∉ U) (D : Ends) (σ : St) (H : Hp) (h : tSt K P0 O W U E (sOwn O W ma i) D σ H) : tAsg (tM K P0 O W E ma) (gName i) D σ H := by
  obtain ⟨ρ, S, h⟩ := h
  refine ⟨ρ, S, (h.of_bind.down S.sub).mono fun ⟨hd, ρ1⟩ q v H1 S1 k1 r1 => ?_⟩
  cases hd with
  | vl d => exact q.elim
  | ow j => exact q.elim
  | fr d =>
    obtain ⟨_, e1, q⟩ := Res.of_nox (show Res E O σ H ((chkO O W ρ ρ1).nox >>= _) _ from q)
    have c := chkO_ok e1
    by_cases hd : d.ownable = true
    · rw [if_pos hd] at q
      have new : ∀ a, v = .ref a → H a = none ∧ isMut (H1 a) := fun a e => by
        subst e
        have r := r1.1
        have f := r1.2
        cases d with
        | lst ds =>
          unfold Rep at r
          obtain ⟨b, vs, e, h0, h1, h2⟩ := r
          cases e
          exact ⟨f rfl _ rfl, by rw [h1]; trivial⟩
        | non => unfold Rep at r; cases r
        | bl _ => unfold Rep at r; cases r
        | int _ => unfold Rep at r; cases r
        | str _ => unfold Rep at r; cases r
        | tup _ => cases hd
        | arg _ => cases hd
        | ftu _ => cases hd
        | tab _ _ => cases hd
        | dik _ _ => cases hd
        | dit _ _ => cases hd
      have S2 := S.setO S1 k1 c hi new (r1.1.own S1.dom hd fun b z => z)
      have gs : ∀ {b : Addr}, OA O (σ.set i (some v)) b → OA O σ b ∨ H b = none := fun {b} ⟨j, hj, e⟩ => by
        by_cases hij : i = j
        · subst hij
          have h1 : i < σ.length := by have := (List.getElem?_eq_some_iff.mp e).1; simpa using this
          rw [List.getElem?_set_self h1] at e
          cases e
          exact .inr (new b rfl).1
        · rw [List.getElem?_set_ne hij] at e
          exact .inl ⟨j, hj, e⟩
      exact q _ H1 S2 ⟨fun b o e n => k1.keep b o e fun z => n (S.oaw z), k1.some, fun b z => gs z, fun j hj => List.getElem?_set_ne fun (z : i = j) => hu (by rw [z]; exact hj)⟩ (by simp)
    · rw [if_neg hd] at q
      exact q.elim
theorem cs_own {i : Nat} {x : Str} {p : Pos} (hN : X.N.Nodup) (h : CEx X P0 O W E e ma) (hi : i ∈ O := by decide) (hu : i ∉ U := by decide) (hx : X.N[i]? = some x := by rfl) (hl : Loc X.env.scope x := by first | exact Or.inl rfl | exact Or.inr rfl) (hf : X.fn x = true ∨ X.env.scope.names.lookup x = some .local := by first | exact .inl rfl | exact .inr rfl)
    (hs : swapsWithSole [.Name x p] e pos.line X.env = pure false := by rfl) (hw : swappedStores [.Name x p] e X.env = pure none := by rfl) : CS X P0 O W U E (.Assign [.Name x p] e pos) (sOwn O W ma i) :=
  PS.imp (ps_asg h (pg_name hN hx hl hf) hs hw) (tM_own hi hu)
/-- few arguments, no stars -/
abbrev Few (X : Cx) (cp : Pos) (es : List Expr) : Prop := ((backTo cp (starEach es X.env)).all (fun x => !x.1) && (backToKw cp (keywordEach [] X.env)).all (fun x => x.1.isSome)
      && decide (es.length + ([] : List Keyword).length + (if ([] : List Keyword).isEmpty then 0 else 1) < 30)) = true
theorem Tr.ownW {i : Nat} {l : Addr} {o : HO} {σ : L2.St} {H H1 : Hp} (hs : ∀ i ∈ W, i ∈ O) (k : Keep W σ H H1) (hi : i ∈ O) (ha : σ[i]? = Option.some (Option.some (V.ref l))) : Tr O U σ H σ (upd H1 l o) where
  keep := fun b u e n => by
    rw [upd_ne fun (z : b = l) => n ⟨i, hi, by rw [z]; exact ha⟩]
    exact k.keep b u e fun ⟨j, hj, z⟩ => n ⟨j, hs j hj, z⟩
  some := fun b e => by
    by_cases hb : b = l
    · rw [hb, upd_same]; intro z; cases z
    · rw [upd_ne hb]; exact k.some b e
  own := fun _ z => .inl z
  unch := fun _ _ => rfl
/-- the list of an own slot -/
theorem Sim.lst {ρ : Env} {σ : St} {H : Hp} (S : Sim K P0 O W ρ σ H) {i : Nat} {ds : List D} (hi : i ∈ O) (e : ρ[i]? = some (some (.lst ds))) : ∃ l vs, σ[i]? = some (some (.ref l)) ∧ H l = some (.lst vs) ∧ Reps K H ds (FA P0 O σ) vs := by
  obtain ⟨v, h1, l, vs, rfl, h2, h3⟩ := S.own i _ e hi
  exact ⟨l, vs, h1, h2, h3⟩
/-- .. is given other items -/
theorem Sim.lstW {ρ : Env} {σ : St} {H : Hp} (S : Sim K P0 O W ρ σ H) {i : Nat} {l : Addr} {ds' : List D} {vs' vs : List V} (hi : i ∈ O) (ha : σ[i]? = some (some (.ref l))) (hl : H l = some (.lst vs)) (r : Reps K H ds' (FA P0 O σ) vs') : Sim K P0 O W (ρ.set i (some (.lst ds'))) σ (upd H l (.lst vs')) :=
  S.ownW hi ha trivial ⟨l, vs', rfl, upd_same, r.mono ds' S.dom (fun b o e n => by rw [upd_ne fun z => n (.inr ⟨i, hi, by rw [z]; exact ha⟩)]; exact e) fun b z => .inl z⟩
def lstAt (i : Nat) (ρ : Env) : R (List D) := match ρ[i]? with
  | some (some (.lst ds)) => .ok ds
  | _ => .stk
theorem lstAt_ok {i : Nat} {ρ : Env} {ds : List D} (h : lstAt i ρ = .ok ds) : ρ[i]? = some (some (.lst ds)) := by
  unfold lstAt at h
  split at h
  · rename_i e; cases h; exact e
  · cases h
/-- x.append(e) -/
def sAppend (i : Nat) (m : EM) : SM := fun ρ => do
  let _ ← (lstAt i ρ).nox
  let (h, ρ1) ← m ρ
  let d ← h.v.nox
  let ds ← (lstAt i ρ1).nox
  if szOk (ds.length + 1) = true then pure (.nx, ρ1.set i (some (.lst (ds ++ [d])))) else .stk
theorem tM_append {i : Nat} (hi : i ∈ O) (D : Ends) (σ : St) (H : Hp) (h : tSt K P0 O W U E (sAppend i ma) D σ H) : tDrop (tBM K "list" rAppend (tVar i) (tCons (tM K P0 O W E ma) tNil)) D σ H := by
  obtain ⟨ρ, S, h⟩ := h
  obtain ⟨ds0, e0, h⟩ := h.of_nox
  obtain ⟨l, vs0, h1, h2, _⟩ := S.lst hi (lstAt_ok e0)
  refine ⟨.ref l, h1, .inl ⟨rfl, _, SqL.of h2⟩, ρ, S, (h.of_bind.down S.sub).mono fun ⟨hd, ρ1⟩ q v H1 S1 k1 r1 => ?_⟩
  obtain ⟨d, e1, q⟩ := q.of_nox
  obtain ⟨ds, e2, q⟩ := q.of_nox
  obtain ⟨l', vs, h1', h3, h4⟩ := S1.lst hi (lstAt_ok e2)
  rw [h1] at h1'
  cases h1'
  by_cases c : szOk (ds.length + 1) = true
  · rw [if_pos c] at q
    have c := of_decide_eq_true c
    refine ⟨l, vs, v, rfl, rfl, h3, by rw [h4.length]; omega, ?_⟩
    exact q σ _ (S1.lstW hi h1 h3 (h4.append (Reps.cons (r1.v e1) Reps.nil))) (Tr.ownW S.sub k1 hi h1) rfl
  · rw [if_neg c] at q
    exact q.elim
theorem cs_append {i : Nat} {x : Str} {p ap cp : Pos} (h : CEx X P0 O W E e ma) (hi : i ∈ O := by decide) (hx : X.N[i]? = some x := by rfl) (hv : Vis X.env.scope x := by first | exact Or.inl rfl | exact Or.inr (Or.inl rfl) | exact Or.inr (Or.inr rfl)) (hd : (x == ("__debug__" : Str)) = false := by decide) (hcd : (x == ("__classdict__" : Str)) = false := by decide)
    (he : starEach [e] X.env = (false, eval e X.env) :: starEach [] X.env := by rfl) (hpl : (backTo cp (starEach [] X.env)).any (·.1) = false := by rfl) (hbase : attributeBase (.Name x p) "append" X.env (eval (.Name x p) X.env) = eval (.Name x p) X.env := by rfl) (hline : (ap.endLine == cp.line) = true := by rfl)
    (hfew : Few X cp [e] := by rfl) (hsw : swapsWith (.Call (.Attribute (.Name x p) "append" ap) [e] [] cp) none pos.line X.env = pure false := by rfl) :
    CS X P0 O W U E (.Expr (.Call (.Attribute (.Name x p) "append" ap) [e] [] cp) pos) (sAppend i ma) :=
  PS.imp (ps_expr (pe_bm PySem.F.plainAttrs_list PySem.F.slot_list_append PySem.F.type_list_append mt_append (pe_var (i := i) hx hv hd hcd) (pa_cons h pa_nil he) hbase hfew hline he hpl) hsw) (tM_append hi)
end
end Y

set_option Elab.async false
set_option linter.all false
set_option maxRecDepth 100000
namespace Y
open PySem PySem.Spec PyProof.Rows L2
section
variable {K : PySem.W.Frag} {X : Cx} {P0 : Pr} {O W U : List Nat} {E : EK} {a b c e tg iter : Expr} {es : List Expr} {ma mb mc : EM} {ms : AM} {pos : Pos} {st : Stmt} {sts : List Stmt} {m n : SM}
def sSetIx (i : Nat) (mk mv : EM) : SM := fun ρ => do
  let (h, ρ1) ← mv ρ
  let d ← h.v.nox
  let _ ← (lstAt i ρ1).nox
  let (h2, ρ2) ← mk ρ1
  let k ← h2.v.nox
  match k with
  | .int z => do
    let ds ← (lstAt i ρ2).nox
    match ixN ds.length z with
    | some j => pure (.nx, ρ2.set i (some (.lst (ds.set j d))))
    | none => .stk
  | _ => .stk
theorem Reps.set {H : Hp} {P : Pr} {d : D} {v : V} (r : Rep K H d P v) : ∀ {ds : List D} {vs : List V} (j : Nat), Reps K H ds P vs → Reps K H (ds.set j d) P (vs.set j v)
  | [], _, j, h => by rw [h.nil_iff]; exact Reps.nil
  | x :: xs, _, 0, h => by
    obtain ⟨w, ws, rfl, h1, h2⟩ := h.cons_iff
    exact Reps.cons r h2
  | x :: xs, _, j + 1, h => by
    obtain ⟨w, ws, rfl, h1, h2⟩ := h.cons_iff
    exact Reps.cons h1 (Reps.set r j h2)
theorem cs_setix {i : Nat} {x : Str} {p sp : Pos} {k : Expr} {mk : EM} (h : CEx X P0 O W E e ma) (hk : CEx X P0 O W E k mk) (hi : i ∈ O := by decide) (hx : X.N[i]? = some x := by rfl) (hv : Vis X.env.scope x := by first | exact Or.inl rfl | exact Or.inr (Or.inl rfl) | exact Or.inr (Or.inr rfl)) (hd : (x == ("__debug__" : Str)) = false := by decide) (hcd : (x == ("__classdict__" : Str)) = false := by decide)
    (hs : swapsWithSole [.Subscript (.Name x p) k sp] e pos.line X.env = pure false := by rfl) (hw : swappedStores [.Subscript (.Name x p) k sp] e X.env = pure none := by rfl) (h1 : (assignEach [.Subscript (.Name x p) k sp] X.env).map (·.2) = [assign (.Subscript (.Name x p) k sp) X.env] := by rfl)
    (hb : ∀ v, assign (.Subscript (.Name x p) k sp) X.env v = (do
      let ov ← holding [v] (eval (.Name x p) X.env)
      let iv ← holding [v, ov] (eval k X.env)
      standAt sp
      holding [v, ov, iv] (setItem ov iv v)
      release [v, ov, iv] []) := by intro _; rfl) :
    CS X P0 O W U E (.Assign [.Subscript (.Name x p) k sp] e pos) (sSetIx i mk ma) := PS.imp (ps_asg h (pg_sub (pe_var (i := i) hx hv hd hcd) hk set_list hb) hs hw h1) fun D σ H ⟨ρ, S, h⟩ => by
  refine ⟨ρ, S, (h.of_bind.down S.sub).mono fun ⟨hd, ρ1⟩ q v H1 S1 k1 r1 => ?_⟩
  obtain ⟨d, e1, q1⟩ := q.of_nox
  obtain ⟨ds0, e0, q2⟩ := q1.of_nox
  obtain ⟨l, vs0, h1, h2, _⟩ := S1.lst hi (lstAt_ok e0)
  refine ⟨.ref l, h1, ρ1, S1, ((q2.of_bind.down S1.sub).keep k1).mono fun ⟨hd2, ρ2⟩ q3 w H2 S2 k2 r2 => ?_⟩
  obtain ⟨dk, e2, q4⟩ := q3.of_nox
  have rk := r2.v e2
  cases dk <;> first | (exact q4.elim) | skip
  rename_i z
  unfold Rep at rk
  subst rk
  obtain ⟨ds, e3, q5⟩ := Res.of_nox (show Res E O σ H ((lstAt i ρ2).nox >>= _) _ from q4)
  obtain ⟨l', vs, h1', h3, h4⟩ := S2.lst hi (lstAt_ok e3)
  rw [h1] at h1'
  cases h1'
  cases ej : ixN ds.length z with
  | none => rw [ej] at q5; exact q5.elim
  | some j =>
    rw [ej] at q5
    refine ⟨l, vs, z, j, rfl, rfl, h3, by rw [h4.length]; exact ej, ?_⟩
    exact q5 σ _ (S2.lstW hi h1 h3 (Reps.set (S1.rep k2 (r1.v e1)) j h4)) (Tr.ownW S.sub (k1.trans k2) hi h1) rfl
noncomputable def forL (tm : GM) (body : SM) (vs ws : List Nat) : List D → Env → R (Fl × Env)
  | [], ρ => .ok (.nx, ρ)
  | x :: xs, ρ => do
    let ρ1 ← (tm x ρ).nox
    let (f, ρ2) ← body ρ1
    match f with
    | .bk => pure (.nx, ρ2)
    | .rt h => pure (.rt h, ρ2)
    | _ => do
      let _ ← (chk ws ρ (wipeE ρ2 vs)).nox
      forL tm body vs ws xs (wipeE ρ2 vs)
noncomputable def sFor (U : List Nat) (im : IM) (tm : GM) (body : SM) (vs : List Nat) : SM := fun ρ => do
  let ((ds, ws), ρ1) ← im ρ
  if (ws.all fun w => U.contains w) = true then forL tm body vs ws ds ρ1 else .stk
theorem for_core {im : IM} {tm : GM} {is vs U' : List Nat} (ho : ∀ i ∈ is, i ∉ O) (hu : ∀ i ∈ U', i ∈ O) (hu' : ∀ i ∈ U, i ∈ U') (D : Ends) (σ : L2.St) (H : Hp) (h : tSt X.K P0 O W U E (sFor U' im tm m vs) D σ H) : tFor (tMi X.K P0 O W E im) (tG X.K P0 O W tm is) (tSt X.K P0 O W U' E m) D σ H := by
  obtain ⟨ρ, S, h⟩ := h
  refine ⟨ρ, S, (h.of_bind.down S.sub).mono fun ⟨⟨ds, ws⟩, ρ1⟩ q J H1 Ok S1 k1 src ok hz => ?_⟩
  have src : Src X.K O W ds ws J Ok := src
  have q : Res E O σ H (if (ws.all fun w => U'.contains w) = true then forL tm m vs ws ds ρ1 else .stk) _ := q
  by_cases hw : (ws.all fun w => U'.contains w) = true
  · rw [if_pos hw] at q
    have hw : ∀ w ∈ ws, w ∈ U' := fun w hw' => by simpa using List.all_eq_true.mp hw w hw'
    have t1 : Tr O U σ H σ H1 := Tr.of S.sub k1
    let Post : Fl × Env → Prop := fun a => ∀ σ' H', Sim X.K P0 O W a.2 σ' H' → Tr O U σ H σ' H' → σ'.length = σ.length → Fin X.K P0 O H D σ' H' a.1
    let I : Nat → L2.St → Hp → Prop := fun i σx Hx => i ≤ ds.length ∧ ∃ ρx, Sim X.K P0 O W ρx σx Hx ∧ Ok P0 ρx σx Hx ∧ Tr O U σ H σx Hx ∧ σx.length = σ.length ∧ Res E O σx Hx (forL tm m vs ws (ds.drop i) ρx) Post
    refine ⟨fun i k σx Hx => k = ds.length - i ∧ I i σx Hx, ⟨ds.length, by simp, Nat.zero_le _, ρ1, S1, ok, t1, rfl, Res.keepT (show Res E O σ H (forL tm m vs ws ds ρ1) Post from q) t1⟩, ?_⟩
    rintro i k σx Hx ⟨rfl, hil, ρx, Sx, okx, tx, lx, qx⟩
    by_cases hlt : i < ds.length
    · right
      refine ⟨src.go P0 i ρx σx Hx Sx okx hlt, I (i + 1), fun σ' H' p' => ⟨ds.length - (i + 1), by omega, rfl, p'⟩, fun x' H' y => ?_⟩
      obtain ⟨sm, rx⟩ := src.yld P0 i ρx σx Hx x' H' ds[i] Sx okx (List.getElem?_eq_getElem hlt) y
      rw [List.drop_eq_getElem_cons hlt] at qx
      unfold forL at qx
      obtain ⟨ρa, e1, qx⟩ := qx.of_nox
      refine ⟨ρx, ds[i], ρa, Sx.same sm, rx, e1, fun σ2 S2 l2 ag => ?_⟩
      have t2 : Tr O U' σx Hx σ2 H' := Tr.trans (σ1 := σx) (H1 := H') ⟨fun b o e _ => sm b o e, Same.some sm, fun _ z => .inl z, fun _ _ => rfl⟩ (Tr.slots ho hu ag)
      refine ⟨ρa, S2, (Res.keepT qx.of_bind t2).mono fun ⟨f, ρ2⟩ q3 σ3 H3 S3 t3 l3 => ?_⟩
      have t4 : Tr O U' σx Hx σ3 H3 := t2.trans t3
      have t5 : Tr O U σ H σ3 H3 := tx.trans (t4.less hu')
      have l5 : σ3.length = σ.length := l3.trans (l2.trans lx)
      have next : Res E O σx Hx (do let _ ← (chk ws ρx (wipeE ρ2 vs)).nox; forL tm m vs ws (ds.drop (i + 1)) (wipeE ρ2 vs)) Post → I (i + 1) σ3 H3 := fun q4 => by
        obtain ⟨_, e4, q5⟩ := Res.of_nox (show Res E O σx Hx ((chk ws ρx (wipeE ρ2 vs)).nox >>= fun _ => forL tm m vs ws (ds.drop (i + 1)) (wipeE ρ2 vs)) Post from q4)
        refine ⟨hlt, wipeE ρ2 vs, S3.wipe vs, ?_, t5, l5, Res.keepT q5 t4⟩
        refine src.keep P0 ρx σx Hx _ σ3 H3 Sx (fun b o e n => t4.keep b o e fun z => n (.inr z)) (fun b z => ?_) (fun w hw' => ⟨t4.unch w (hw w hw'), chk_ok e4 w hw'⟩) okx
        rcases z with z | z
        · exact .inl (.inl z)
        · exact (t4.own b z).imp .inr id
      cases f with
      | nx => exact next q3
      | ct => exact next q3
      | bk => exact q3 σ3 H3 S3 t5 l5
      | rt hd =>
        intro v r
        exact q3 σ3 H3 S3 t5 l5 v (r.back fun b e => Same.some sm b (tx.some b e))
    · left
      have ei : i = ds.length := by omega
      subst ei
      rw [List.drop_length] at qx
      exact ⟨src.stop P0 ρx σx Hx Sx okx, qx σx Hx Sx tx lx⟩
  · rw [if_neg hw] at q
    exact q.elim
theorem cs_for {im : IM} {tm : GM} {is vs U' : List Nat} {xs : List Stmt} (hp : PassesOwn (model X.prog X.w) X.A X.env X.xe) (hc : X.calm = true) (hi : CI X P0 O W E tg iter im) (hg : CG X P0 O W tg tm is) (hb : CSs X P0 O W U' E xs m) (ho : ∀ i ∈ is, i ∉ O := by decide) (hu : ∀ i ∈ U', i ∈ O := by decide) (hu' : ∀ i ∈ U, i ∈ U' := by decide)
    (hs : ∀ x, foldedSetIterable iter X.env x = pure x := by intro _; rfl) : CS X P0 O W U E (.For tg iter xs [] pos) (sFor U' im tm m vs) := PS.imp (ps_for hp hc hi hg hb hs) (for_core ho hu hu')
end
end Y

set_option Elab.async false
set_option linter.all false
set_option maxRecDepth 100000
namespace Y
open PySem PySem.Spec PyProof.Rows L2

theorem passN {X : Cx} : Passes (L2N.CX X.prog X.w) X E0 := fun _ _ _ _ _ _ _ q => by
  rcases q with ⟨_, _, _, _, _, _, _, _, _, _, _, _, f⟩
  exact False.elim f
theorem okN {P : Program} {w : World} {K : PySem.W.Frag} {mg : Str → Option Value} {base : Heap} {x qual : Str} {st : Stmt} {f : Addr} {fd : FuncData} {N ps : List Str} {k : Nat} {sp : Sp} (F : Fun K x qual st f fd) (S : FnScope N ps (defScope st)) (hlen : ∀ vs H Q E, sp vs H Q E → vs.length = ps.length)
    (hb : ∀ (cdv : Value) (A : Around) (outer : List PySem.Env) (s : Shared) (H : Hp) (vs : List V) (Q : VK) (E : XK), Room k (A.deeper (envOfC qual (defScope st) s.heap.objs.size f cdv)) → sp vs H Q E →
      ∃ t, PSs (cxOf (L2N.CX P w) P w K mg base N qual (defScope st) f cdv A outer s H E) (defBody st) t ∧ t { nx := fun _ H' => Q .non H', rt := Q } (L2.start N vs) H) : FnOk P w K mg base (L2N.CX P w) (k + 1) f fd ps sp := by
  rcases F.ex with ⟨_, _, _, _, _, _, cd, _, _, rfl, look, code⟩
  exact fn_of look code S hlen fun A outer s H vs Q E => hb cd A outer s H vs Q E

/-- an exception of the program's own, made with a text; or one that bears a number as its row -/
def exE (mg : Str → Option Value) (E : XK) : EK := fun c ds H => (ds = [] ∧ ∃ C, mg c = some (.ref C) ∧ E (.ref C) none H) ∨
  ∃ k : Int, ds = [.int k] ∧ ∃ C, mg c = some (.ref C) ∧ ∀ d, H d = none → E (.ref C) (some d) (upd H d (.xd [("row", .int k)]))
abbrev Fn := List D → R (Hd × Env)
/-- O: the parameters whose lists it may change -/
def spD (K : PySem.W.Frag) (mg : Str → Option Value) (np : Nat) (O : List Nat) (g : Fn) : Sp := fun vs H Q E => vs.length = np ∧ ∃ ds P0, Sim K P0 O [] (ds.map some) (vs.map some) H ∧ ds.length = np ∧
  Res (exE mg E) O (vs.map some) H (g ds) fun a => ∀ v H', Keep O (vs.map some) H H' → Sim K P0 O [] a.2 (vs.map some) H' → HdR K P0 O H (vs.map some) H' a.1 v → Q v H'
structure Glo (P : Program) (w : World) (K : PySem.W.Frag) (mg : Str → Option Value) (base : Heap) (name : Str) (k np : Nat) (O : List Nat) (g : Fn) : Prop where
  ex : ∃ f fd ps, mg name = some (.ref f) ∧ PySem.W.keepIn K (.ref f) = true ∧ Binds K fd ps [] ∧ ps.length = np ∧ FnOk P w K mg base (L2N.CX P w) k f fd ps (spD K mg np O g)
/-- exceptions of callees reach what is wanted here -/
structure Out2 (X : Cx) (E : EK) (XE : XK) : Prop where
  pass : Passes (L2N.CX X.prog X.w) X XE
  ex : ∀ c ds H, E c ds H → exE X.mg XE c ds H
theorem Out2.blk {X : Cx} : Out2 X E00 E0 := ⟨passN, fun _ _ _ h => h.elim⟩
def pureF (g : List D → R Hd) : Fn := fun ds => do
  let h ← g ds
  pure (h, [])
section
variable {K : PySem.W.Frag} {P0 : Pr} {O W : List Nat} {ρ : Env} {σ : St} {H H' : Hp}
theorem FA_nil {τ : St} (b : Addr) : FA P0 [] τ b ↔ P0 b := ⟨fun z => z.elim id (fun ⟨_, h, _⟩ => (nomatch h)), .inl⟩
theorem Keep.nil {τ : St} (k : Keep [] τ H H') : Same H H' := fun b o e => k.keep b o e fun ⟨_, h, _⟩ => nomatch h
/-- the callee's state where no parameter is its own -/
theorem sim_args {ds : List D} {vs : List V} (hm : ∀ b, P0 b → isMut (H b)) (r : Reps K H ds P0 vs) : Sim K P0 [] [] (ds.map some) (vs.map some) H where
  sub := fun _ h => nomatch h
  len := by rw [List.length_map, List.length_map, r.length]; exact Nat.le_refl _
  dom := fun b z => hm b ((FA_nil b).mp z)
  val := fun i d e _ => by
    rw [List.getElem?_map] at e
    cases q : ds[i]? with
    | none => rw [q] at e; cases e
    | some d' =>
      rw [q] at e; cases e
      obtain ⟨v, e1, r1⟩ := r.get q
      exact ⟨v, by rw [List.getElem?_map, e1]; rfl, r1.less hm fun b z => (FA_nil b).mp z⟩
  own := fun i d e h => nomatch h
  sep := fun _ _ _ h => nomatch h
  sep0 := fun a ⟨_, h, _⟩ => nomatch h
end
section
variable {X : Cx} {P0 : Pr} {O W U : List Nat} {E : EK} {XE : XK} {a b c e : Expr} {es : List Expr} {ma mb mc : EM} {ms : AM} {pos : Pos} {k np : Nat} {name : Str}
/-- f(..), no argument's list is changed -/
def cCallF (g : List D → R Hd) (m : AM) : EM := fun ρ => do
  let (hs, ρ1) ← m ρ
  let ds ← (vsOf hs).nox
  let h ← g ds
  match h with
  | .ow _ => .stk
  | h => pure (h, ρ1)
theorem tM_callF {g : List D → R Hd} (hE : ∀ c ds H, E c ds H → exE X.mg XE c ds H) (σ : St) (H : Hp) (Q : VK) (len : ∀ σ H Q, tMs X.K P0 O W E ms σ H Q → True) (h : tM X.K P0 O W E (cCallF g ms) σ H Q) (hl : ∀ ρ hs ρ1, ms ρ = .ok (hs, ρ1) → hs.length = np) :
    tCall (spD X.K X.mg np [] (pureF g)) [] XE (tMs X.K P0 O W E ms) σ H Q := by
  obtain ⟨ρ, S, h⟩ := h
  refine ⟨ρ, S, ?_⟩
  cases em : ms ρ with
  | stk => unfold cCallF at h; rw [em] at h; exact h.elim
  | er c ds => unfold cCallF at h; rw [em] at h; exact h
  | ok p =>
    obtain ⟨hs, ρ1⟩ := p
    unfold cCallF at h
    rw [em] at h
    intro vs H1 S1 k1 r1
    obtain ⟨ds, e1, q⟩ := Res.of_nox (show Res E W σ H ((vsOf hs).nox >>= _) _ from h)
    have rr := HdRs.vs r1 e1
    have lv : vs.length = np := by
      have : ∀ {hs : List Hd} {vs : List V}, HdRs X.K P0 O H σ H1 hs vs → vs.length = hs.length := fun {hs} => by
        induction hs with
        | nil => intro vs r; have r : vs = [] := r; rw [r]; rfl
        | cons h hs ih => intro vs ⟨v, ws, e, _, r2⟩; rw [e, List.length_cons, List.length_cons, ih r2]
      rw [this r1]
      exact hl ρ hs ρ1 em
    rw [List.append_nil]
    refine ⟨lv, ds, FA P0 O σ, sim_args S1.dom rr, by rw [← rr.length]; exact lv, ?_⟩
    have q := q.keep k1
    unfold pureF
    cases eg : g ds with
    | stk => rw [eg] at q; exact q.elim
    | er c xs =>
      rw [eg] at q
      exact fun H' kp => hE c xs H' (q H' (Keep.same kp.nil))
    | ok hd =>
      rw [eg] at q
      intro v H2 k2 _ r2
      have sm := Keep.nil k2
      cases hd with
      | ow j => exact q.elim
      | fr d => exact q v H2 (S1.same sm) (k1.trans (Keep.same sm)) ⟨r2.1.less (fun b z => (S1.same sm).dom b ((FA_nil b).mp z)) fun b z => .inl z, fun m a e => Classical.byContradiction fun z => k1.some a z (r2.2 m a e)⟩
      | vl d => exact q v H2 (S1.same sm) (k1.trans (Keep.same sm)) (Rep.less (fun b z => (S1.same sm).dom b ((FA_nil b).mp z)) r2 fun b z => .inl z)
/-- the number of arguments -/
def ALen (m : AM) (n : Nat) : Prop := ∀ ρ hs ρ1, m ρ = .ok (hs, ρ1) → hs.length = n
theorem alen_nil : ALen cNil 0 := fun ρ hs ρ1 h => by cases h; rfl
theorem alen_cons {n : Nat} (h : ALen ms n) : ALen (cCons ma ms) (n + 1) := fun ρ hs ρ1 e => by
  obtain ⟨⟨h1, ρa⟩, e1, e⟩ := R.ok_of e
  obtain ⟨⟨h2, ρb⟩, e2, e⟩ := R.ok_of e
  cases e
  rw [List.length_cons, h _ _ _ e2]
theorem ce_call {g : List D → R Hd} {p : Pos} (G : Glo X.prog X.w X.K X.mg X.base name k np [] (pureF g)) (o : Out2 X E XE) (hr : Room k X.A) (ha : CA X P0 O W E (e :: es) ms) (hl : ALen ms np) (hg : Gl X name := by rfl) (hdb : (name == ("__debug__" : Str)) = false := by decide)
    (he : starEach (e :: es) X.env = (false, eval e X.env) :: starEach es X.env := by rfl) (hpl : (backTo pos (starEach es X.env)).any (·.1) = false := by rfl) : CEx X P0 O W E (.Call (.Name name p) (e :: es) [] pos) (cCallF g ms) := by
  obtain ⟨f, fd, ps, hm, hk, hb, _, F⟩ := G.ex
  exact PE.imp (pe_call F hr hg hm hk hb .nil o.pass ha hdb he hpl) fun σ H Q h => tM_callF o.ex σ H Q (fun _ _ _ _ => trivial) h hl
end
end Y

set_option Elab.async false
set_option linter.all false
set_option maxRecDepth 100000
namespace Y
open PySem PySem.Spec PyProof.Rows L2

def retH (np : Nat) : Fl → Env → R Hd
  | .nx, _ => .ok (.fr .non)
  | .rt (.ow i), ρ => if np ≤ i then (do
      let d ← (look i ρ).nox
      pure (.fr d)) else .stk
  | .rt h, _ => .ok h
  | _, _ => .stk
def outs (O : List Nat) (np : Nat) (ρ : Env) : Env := (List.range np).map fun i => if O.contains i = true then ρ.getD i none else none
def fnD (np n : Nat) (O : List Nat) (m : SM) : Fn := fun ds => do
  let (f, ρ) ← m (ds.map some ++ List.replicate (n - np) none)
  let h ← (retH np f ρ).nox
  pure (h, outs O np ρ)
section
variable {K : PySem.W.Frag} {mg : Str → Option Value} {P0 : Pr} {O Oc W U : List Nat} {ρ : Env} {σ : St} {H H' : Hp} {d : D} {v : V} {np n : Nat}
theorem RepO.less {P P' : Pr} (hm : ∀ b, P b → isMut (H b)) (h : RepO K H d P v) (hp : ∀ b, P' b → P b) : RepO K H d P' v := h.mono hm (fun _ _ e _ => e) (fun b z => .inl (hp b z)) fun _ _ _ e => e
/-- an own slot's object, told on -/
theorem RepO.rep {P P' : Pr} (hm : ∀ b, P b → isMut (H b)) (h : RepO K H d P v) (hp : ∀ b, P' b → P b) (ha : ∀ a, v = .ref a → ¬ P' a ∧ P a) : Rep K H d P' v := by
  cases d with
  | lst ds =>
    obtain ⟨a, vs, rfl, h1, h2⟩ := h
    unfold Rep
    exact ⟨a, vs, rfl, (ha a rfl).1, h1, h2.less hm fun b z => z.elim (hp b) fun z => by rw [z]; exact (ha a rfl).2⟩
  | dik ks ds =>
    obtain ⟨a, vs, rfl, hl, h1, h2⟩ := h
    unfold Rep
    exact ⟨a, vs, rfl, (ha a rfl).1, hl, .inl h1, h2.less hm fun b z => z.elim (hp b) fun z => by rw [z]; exact (ha a rfl).2⟩
  | dit ks ds =>
    obtain ⟨a, vs, rfl, hl, h1, h2⟩ := h
    unfold Rep
    exact ⟨a, vs, rfl, (ha a rfl).1, hl, .inl h1, h2.less hm fun b z => z.elim (hp b) fun z => by rw [z]; exact (ha a rfl).2⟩
  | non => unfold Rep; exact h
  | bl _ => unfold Rep; exact h
  | int _ => unfold Rep; exact h
  | str _ => unfold Rep; exact h
  | tup _ => exact False.elim h
  | arg _ => exact False.elim h
  | ftu _ => exact False.elim h
  | tab p q =>
    obtain ⟨a, rfl, ht⟩ := h
    unfold Rep
    exact ⟨a, rfl, (ha a rfl).1, ht⟩
theorem start_get {N : List Str} {vs : List V} {i : Nat} {v : V} (h : (L2.start N vs)[i]? = some (some v)) : vs[i]? = some v := by
  unfold L2.start at h
  by_cases hi : i < vs.length
  · rw [List.getElem?_append_left (by simpa using hi), List.getElem?_map] at h
    cases e : vs[i]? with
    | none => rw [e] at h; cases h
    | some a => rw [e] at h; cases h; rfl
  · rw [List.getElem?_append_right (by simpa using hi), List.getElem?_replicate] at h
    split at h <;> cases h
theorem start_of {N : List Str} {vs : List V} {i : Nat} {v : V} (h : vs[i]? = some v) : (L2.start N vs)[i]? = some (some v) := by
  unfold L2.start
  have hi : i < vs.length := (List.getElem?_eq_some_iff.mp h).1
  rw [List.getElem?_append_left (by simpa using hi), List.getElem?_map, h]
  rfl
theorem env_get {ds : List D} {k i : Nat} {d : D} (h : (ds.map some ++ List.replicate k none)[i]? = some (some d)) : ds[i]? = some d := by
  by_cases hi : i < ds.length
  · rw [List.getElem?_append_left (by simpa using hi), List.getElem?_map] at h
    cases e : ds[i]? with
    | none => rw [e] at h; cases h
    | some a => rw [e] at h; cases h; rfl
  · rw [List.getElem?_append_right (by simpa using hi), List.getElem?_replicate] at h
    split at h <;> cases h
theorem map_get {α : Type} {ds : List α} {i : Nat} {d : α} : (ds.map some)[i]? = some (some d) ↔ ds[i]? = some d := by
  rw [List.getElem?_map]
  cases ds[i]? <;> simp
theorem OA_start {N : List Str} {vs : List V} (hO : ∀ i, i ∈ O ↔ i ∈ Oc ∧ i < np) (hl : vs.length = np) (b : Addr) : OA Oc (L2.start N vs) b ↔ OA O (vs.map some) b := by
  constructor
  · rintro ⟨i, hi, e⟩
    have e := start_get e
    exact ⟨i, (hO i).mpr ⟨hi, by rw [← hl]; exact (List.getElem?_eq_some_iff.mp e).1⟩, map_get.mpr e⟩
  · rintro ⟨i, hi, e⟩
    exact ⟨i, ((hO i).mp hi).1, start_of (map_get.mp e)⟩
theorem sim_start {N : List Str} {ds : List D} {vs : List V} (S : Sim K P0 O [] (ds.map some) (vs.map some) H) (hO : ∀ i, i ∈ O ↔ i ∈ Oc ∧ i < np) (hW : ∀ i ∈ W, i ∈ Oc) (hl : vs.length = np) (hd : ds.length = np) (hn : N.length = n) : Sim K P0 Oc W (ds.map some ++ List.replicate (n - np) none) (L2.start N vs) H := by
  have fa : ∀ b, FA P0 Oc (L2.start N vs) b → FA P0 O (vs.map some) b := fun b z => z.imp id (OA_start hO hl b).mp
  refine ⟨hW, by unfold L2.start; simp; omega, fun b z => S.dom b (fa b z), fun i d e n => ?_, fun i d e n => ?_, fun i j a hi hj e1 e2 => ?_, fun a z => S.sep0 a ((OA_start hO hl a).mp z)⟩
  · obtain ⟨v, h1, h2⟩ := S.val i d (map_get.mpr (env_get e)) fun z => n ((hO i).mp z).1
    exact ⟨v, start_of (map_get.mp h1), h2.less S.dom fa⟩
  · have e := env_get e
    have hi : i < np := by rw [← hd]; exact (List.getElem?_eq_some_iff.mp e).1
    obtain ⟨v, h1, h2⟩ := S.own i d (map_get.mpr e) ((hO i).mpr ⟨n, hi⟩)
    exact ⟨v, start_of (map_get.mp h1), h2.less S.dom fa⟩
  · have e1 := start_get e1
    have e2 := start_get e2
    have l1 : i < np := by rw [← hl]; exact (List.getElem?_eq_some_iff.mp e1).1
    have l2 : j < np := by rw [← hl]; exact (List.getElem?_eq_some_iff.mp e2).1
    exact S.sep i j a ((hO i).mpr ⟨hi, l1⟩) ((hO j).mpr ⟨hj, l2⟩) (map_get.mpr e1) (map_get.mpr e2)
theorem outs_get {i : Nat} (h : (outs O np ρ)[i]? = some (some d)) : i ∈ O ∧ i < np ∧ ρ[i]? = some (some d) := by
  unfold outs at h
  rw [List.getElem?_map] at h
  cases e : (List.range np)[i]? with
  | none => rw [e] at h; cases h
  | some j =>
    rw [e] at h
    have hi := (List.getElem?_eq_some_iff.mp e).1
    have hj : j = i := by
      obtain ⟨h1, h2⟩ := List.getElem?_eq_some_iff.mp e
      simpa using h2.symm
    subst hj
    simp only [Option.map_some, Option.some.injEq] at h
    split at h
    · rename_i c
      refine ⟨by simpa using c, by simpa using hi, ?_⟩
      rw [List.getD_eq_getElem?_getD] at h
      cases q : ρ[j]? with
      | none => rw [q] at h; cases h
      | some o => rw [q] at h; simp at h; rw [h]
    · cases h
/-- THE RULE for a def -/
theorem fnD_ok {P : Program} {w : World} {base : Heap} {x qual : Str} {st : Stmt} {f : Addr} {fd : FuncData} {N ps : List Str} {k : Nat} {m : SM} (F : Fun K x qual st f fd) (S : FnScope N ps (defScope st)) (hp : ps.length = np) (hn : N.length = n) (hO : ∀ i, i ∈ O ↔ i ∈ Oc ∧ i < np) (hW : ∀ i ∈ W, i ∈ Oc) (hU : ∀ i ∈ O, i ∈ U)
    (hb : ∀ (cdv : Value) (A : Around) (outer : List PySem.Env) (s : Shared) (H : Hp) (E : XK) (P0 : Pr), Room k (A.deeper (envOfC qual (defScope st) s.heap.objs.size f cdv)) → CSs (cxOf (L2N.CX P w) P w K mg base N qual (defScope st) f cdv A outer s H E) P0 Oc W U (exE mg E) (defBody st) m) :
    FnOk P w K mg base (L2N.CX P w) (k + 1) f fd ps (spD K mg np O (fnD np n O m)) := by
  refine okN F S (fun vs H Q E h => by rw [h.1, hp]) fun cdv A outer s H vs Q E hr h => ?_
  obtain ⟨hl, ds, P0, S0, hd, h⟩ := h
  refine ⟨_, hb cdv A outer s H E P0 hr, _, sim_start S0 hO hW hl hd hn, ?_⟩
  have oa := fun b => OA_start (N := N) hO hl b
  have kO : ∀ {H'}, Keep Oc (L2.start N vs) H H' → Keep O (vs.map some) H H' := fun {H'} k => ⟨fun b o e nn => k.keep b o e fun z => nn ((oa b).mp z), k.some⟩
  unfold fnD at h
  cases em : m (ds.map some ++ List.replicate (n - np) none) with
  | stk => rw [em] at h; exact h.elim
  | er c xs => rw [em] at h; exact fun H' kp => h H' (kO kp)
  | ok p =>
    obtain ⟨fl, ρ1⟩ := p
    rw [em] at h
    obtain ⟨hh, e1, h⟩ := Res.of_nox (show Res (exE mg E) O (vs.map some) H ((retH np fl ρ1).nox >>= _) _ from h)
    intro σ' H' S' t' l'
    have h : ∀ v H', Keep O (vs.map some) H H' → Sim K P0 O [] (outs O np ρ1) (vs.map some) H' → HdR K P0 O H (vs.map some) H' hh v → Q v H' := h
    have un : ∀ i ∈ O, σ'[i]? = (L2.start N vs)[i]? := fun i hi => t'.unch i (hU i hi)
    have pre : ∀ {i : Nat} {v : V}, i ∈ O → (σ'[i]? = some (some v) ↔ (vs.map some)[i]? = some (some v)) := fun {i v} hi => by
      rw [un i hi]
      exact ⟨fun e => map_get.mpr (start_get e), fun e => start_of (map_get.mp e)⟩
    have oO : ∀ b, OA O (vs.map some) b → OA Oc σ' b := fun b ⟨i, hi, e⟩ => ⟨i, ((hO i).mp hi).1, (pre hi).mpr e⟩
    have fa : ∀ b, FA P0 O (vs.map some) b → FA P0 Oc σ' b := fun b z => z.imp id (oO b)
    have kk : Keep O (vs.map some) H H' := ⟨fun b o e nn => t'.keep b o e fun z => nn ((oa b).mp z), t'.some⟩
    have so : Sim K P0 O [] (outs O np ρ1) (vs.map some) H' := by
      refine ⟨fun _ z => (nomatch z), by unfold outs; simp [hl], fun b z => S'.dom b (fa b z), fun i d e nn => absurd (outs_get e).1 nn, fun i d e hi => ?_, S0.sep, S0.sep0⟩
      obtain ⟨_, _, e2⟩ := outs_get e
      obtain ⟨v, h1, h2⟩ := S'.own i d e2 ((hO i).mp hi).1
      exact ⟨v, (pre hi).mp h1, h2.less S'.dom fa⟩
    cases fl with
    | bk => cases e1
    | ct => cases e1
    | nx => cases e1; exact h .non H' kk so ⟨by unfold Rep; rfl, fun z => by cases z⟩
    | rt hd' =>
      intro v r
      cases hd' with
      | fr d => cases e1; exact h v H' kk so ⟨r.1.less S'.dom fa, r.2⟩
      | vl d => cases e1; exact h v H' kk so (Rep.less S'.dom r fa)
      | ow i =>
        have e1 : (if np ≤ i then (do
          let d ← (look i ρ1).nox
          pure (Hd.fr d)) else .stk) = R.ok hh := e1
        by_cases hi : np ≤ i
        · rw [if_pos hi] at e1
          obtain ⟨d, e2, e1⟩ := R.ok_of e1
          cases e1
          have e2 := look_some (R.nox_of e2)
          obtain ⟨v', h1, h2⟩ := S'.own i d e2 r.1
          have q : σ'[i]? = some (some v) := r.2
          rw [q] at h1
          cases h1
          have no : ∀ a, v = .ref a → ¬ OA O (vs.map some) a := fun a e z => by
            obtain ⟨j, hj, ej⟩ := z
            have := S'.sep i j a r.1 ((hO j).mp hj).1 (by rw [q, e]) ((pre hj).mpr ej)
            have := ((hO j).mp hj).2
            omega
          refine h v H' kk so ⟨h2.rep S'.dom fa fun a e => ⟨fun z => ?_, .inr ⟨i, r.1, by rw [q, e]⟩⟩, fun _ a e => ?_⟩
          · rcases z with z | z
            · exact S'.sep0 a ⟨i, r.1, by rw [q, e]⟩ z
            · exact no a e z
          · rcases t'.own a ⟨i, r.1, by rw [q, e]⟩ with z | z
            · exact absurd ((oa a).mp z) (no a e)
            · exact z
        · rw [if_neg hi] at e1
          cases e1
end
end Y

set_option Elab.async false
set_option linter.all false
set_option maxRecDepth 100000
namespace Y
open PySem PySem.Spec PyProof.Rows L2

def placed (pr : List (Nat × Nat)) : Nat → List Hd → Bool
  | _, [] => true
  | j, .ow i :: hs => pr.contains (j, i) && placed pr (j + 1) hs
  | j, _ :: hs => (!pr.any fun p => p.1 == j) && placed pr (j + 1) hs
def putOuts (os : Env) : List (Nat × Nat) → Env → Env
  | [], ρ => ρ
  | (j, i) :: pr, ρ => (putOuts os pr ρ).set i (os.getD j none)
def cCallIO (pr : List (Nat × Nat)) (g : Fn) (m : AM) : EM := fun ρ => do
  let (hs, ρ1) ← m ρ
  if placed pr 0 hs = true then do
    let ds ← (dsOf hs ρ1).nox
    let (h, os) ← g ds
    match h with
    | .ow _ => .stk
    | h => pure (h, putOuts os pr ρ1)
  else .stk
section
variable {K : PySem.W.Frag} {P0 : Pr} {O Oc W : List Nat} {ρ : Env} {σ : St} {Hs H H' : Hp} {pr : List (Nat × Nat)} {os : Env}
theorem putOuts_len : ∀ pr : List (Nat × Nat), (putOuts os pr ρ).length = ρ.length
  | [] => rfl
  | (j, i) :: pr => by unfold putOuts; rw [List.length_set, putOuts_len pr]
theorem putOuts_ne {x : Nat} : ∀ {pr : List (Nat × Nat)}, x ∉ pr.map (·.2) → (putOuts os pr ρ)[x]? = ρ[x]?
  | [], _ => rfl
  | (j, i) :: pr, h => by
    simp only [List.map_cons, List.mem_cons, not_or] at h
    unfold putOuts
    rw [List.getElem?_set_ne fun z => h.1 z.symm, putOuts_ne h.2]
theorem putOuts_at {j i : Nat} {d : D} : ∀ {pr : List (Nat × Nat)}, (pr.map (·.2)).Nodup → (j, i) ∈ pr → (putOuts os pr ρ)[i]? = some (some d) → os[j]? = some (some d)
  | [], _, h, _ => nomatch h
  | (j', i') :: pr, nd, h, e => by
    simp only [List.map_cons, List.nodup_cons] at nd
    unfold putOuts at e
    rcases List.mem_cons.mp h with z | z
    · cases z
      have hl : i < (putOuts os pr ρ).length := by
        have := (List.getElem?_eq_some_iff.mp e).1
        simpa using this
      rw [List.getElem?_set_self hl, List.getD_eq_getElem?_getD] at e
      cases q : os[j]? with
      | none => rw [q] at e; cases e
      | some o => rw [q] at e; simp at e; rw [e]
    · have hi : i' ≠ i := fun y => nd.1 (by rw [y]; exact List.mem_map.mpr ⟨_, z, rfl⟩)
      rw [List.getElem?_set_ne hi] at e
      exact putOuts_at nd.2 z e
theorem HdRs.at : ∀ {hs : List Hd} {vs : List V} {j : Nat} {v : V}, HdRs K P0 O Hs σ H hs vs → vs[j]? = some v → ∃ h, hs[j]? = some h ∧ HdR K P0 O Hs σ H h v
  | [], _, _, _, r, e => by have r : _ = [] := r; rw [r] at e; simp at e
  | h :: hs, _, 0, v, ⟨w, ws, e0, r1, _⟩, e => by subst e0; simp at e; subst e; exact ⟨h, rfl, r1⟩
  | h :: hs, _, j + 1, v, ⟨w, ws, e0, _, r2⟩, e => by subst e0; simpa using HdRs.at r2 (by simpa using e)
theorem HdRs.len : ∀ {hs : List Hd} {vs : List V}, HdRs K P0 O Hs σ H hs vs → vs.length = hs.length
  | [], _, r => by have r : _ = [] := r; rw [r]; rfl
  | h :: hs, _, ⟨w, ws, e0, _, r2⟩ => by subst e0; rw [List.length_cons, List.length_cons, HdRs.len r2]
theorem dsOf_at : ∀ {hs : List Hd} {ds : List D}, dsOf hs ρ = .ok ds → ds.length = hs.length ∧ ∀ (j : Nat) h d, hs[j]? = some h → ds[j]? = some d → h.d ρ = .ok d
  | [], _, e => by cases e; exact ⟨rfl, fun j h d e => by simp at e⟩
  | h :: hs, _, e => by
    obtain ⟨d, e1, e⟩ := R.ok_of e
    obtain ⟨ds, e2, e⟩ := R.ok_of e
    cases e
    obtain ⟨l, g⟩ := dsOf_at e2
    refine ⟨by rw [List.length_cons, List.length_cons, l], fun j h' d' a b => ?_⟩
    cases j with
    | zero => simp at a b; subst a b; exact R.nox_of e1
    | succ j => exact g j h' d' (by simpa using a) (by simpa using b)
theorem placed_at : ∀ {hs : List Hd} {k : Nat}, placed pr k hs = true → ∀ (j : Nat) h, hs[j]? = some h → (∃ i, h = .ow i ∧ (k + j, i) ∈ pr) ∨ ((∀ i, h ≠ .ow i) ∧ (k + j) ∉ pr.map (·.1))
  | [], _, _, j, h, e => by simp at e
  | h0 :: hs, k, p, j, h, e => by
    cases j with
    | zero =>
      simp at e; subst e
      cases h0 with
      | ow i =>
        unfold placed at p
        rw [Bool.and_eq_true] at p
        exact .inl ⟨i, rfl, by simpa using p.1⟩
      | fr d =>
        unfold placed at p
        rw [Bool.and_eq_true] at p
        refine .inr ⟨fun i z => (by cases z), fun z => ?_⟩
        obtain ⟨q, hq, e⟩ := List.mem_map.mp z
        have := p.1
        simp only [Bool.not_eq_true', List.any_eq_false] at this
        exact this q hq (by simpa using e)
      | vl d =>
        unfold placed at p
        rw [Bool.and_eq_true] at p
        refine .inr ⟨fun i z => (by cases z), fun z => ?_⟩
        obtain ⟨q, hq, e⟩ := List.mem_map.mp z
        have := p.1
        simp only [Bool.not_eq_true', List.any_eq_false] at this
        exact this q hq (by simpa using e)
    | succ j =>
      have p2 : placed pr (k + 1) hs = true := by
        cases h0 <;> (unfold placed at p; rw [Bool.and_eq_true] at p; exact p.2)
      have := placed_at p2 j h (by simpa using e)
      rwa [show k + 1 + j = k + (j + 1) by omega] at this
end
theorem nodup_inj {pr : List (Nat × Nat)} (hn : (pr.map (·.2)).Nodup) {j j' i : Nat} (a : (j, i) ∈ pr) (b : (j', i) ∈ pr) : j = j' := by
  induction pr with
  | nil => cases a
  | cons p pr ih =>
    simp only [List.map_cons, List.nodup_cons] at hn
    rcases List.mem_cons.mp a with a | a <;> rcases List.mem_cons.mp b with b | b
    · rw [← a] at b; cases b; rfl
    · exact absurd (List.mem_map.mpr ⟨_, b, by rw [← a]⟩) hn.1
    · exact absurd (List.mem_map.mpr ⟨_, a, by rw [← b]⟩) hn.1
    · exact ih hn.2 a b
theorem nodup_inj1 {pr : List (Nat × Nat)} (hn : (pr.map (·.1)).Nodup) {j i i' : Nat} (a : (j, i) ∈ pr) (b : (j, i') ∈ pr) : i = i' := by
  induction pr with
  | nil => cases a
  | cons p pr ih =>
    simp only [List.map_cons, List.nodup_cons] at hn
    rcases List.mem_cons.mp a with a | a <;> rcases List.mem_cons.mp b with b | b
    · rw [← a] at b; cases b; rfl
    · exact absurd (List.mem_map.mpr ⟨_, b, by rw [← a]⟩) hn.1
    · exact absurd (List.mem_map.mpr ⟨_, a, by rw [← b]⟩) hn.1
    · exact ih hn.2 a b
section
variable {X : Cx} {P0 : Pr} {O Oc W U : List Nat} {E : EK} {XE : XK} {a b c e : Expr} {es : List Expr} {ma mb mc : EM} {ms : AM} {pos : Pos} {k np : Nat} {name : Str} {pr : List (Nat × Nat)}
theorem tM_callIO {g : Fn} (hE : ∀ c ds H, E c ds H → exE X.mg XE c ds H) (hO : O = pr.map (·.1)) (hn : (pr.map (·.2)).Nodup) (hn1 : (pr.map (·.1)).Nodup) (hw : ∀ p ∈ pr, p.2 ∈ W) (hl : ALen ms np) (σ : St) (H : Hp) (Q : VK) (h : tM X.K P0 Oc W E (cCallIO pr g ms) σ H Q) :
    tCall (spD X.K X.mg np O g) [] XE (tMs X.K P0 Oc W E ms) σ H Q := by
  obtain ⟨ρ, S, h⟩ := h
  refine ⟨ρ, S, ?_⟩
  cases em : ms ρ with
  | stk => unfold cCallIO at h; rw [em] at h; exact h.elim
  | er c ds => unfold cCallIO at h; rw [em] at h; exact h
  | ok p =>
    obtain ⟨hs, ρ1⟩ := p
    unfold cCallIO at h
    rw [em] at h
    intro vs H1 S1 k1 r1
    have q : Res E W σ H (if placed pr 0 hs = true then (do
      let ds ← (dsOf hs ρ1).nox
      let (h, os) ← g ds
      match h with
      | .ow _ => .stk
      | h => pure (h, putOuts os pr ρ1)) else .stk) _ := h
    have hp : placed pr 0 hs = true := by
      cases hp : placed pr 0 hs with
      | true => rfl
      | false => rw [hp] at q; exact q.elim
    rw [if_pos hp] at q
    obtain ⟨ds, e1, q⟩ := q.of_nox
    have pl := placed_at hp
    simp only [Nat.zero_add] at pl
    obtain ⟨dl, dg⟩ := dsOf_at e1
    have lv : vs.length = np := by rw [HdRs.len r1]; exact hl ρ hs ρ1 em
    have ld : ds.length = np := by rw [dl]; exact hl ρ hs ρ1 em
    rw [List.append_nil]
    -- the callee's own objects are own here
    have own : ∀ {j : Nat} {v : V}, j ∈ O → (vs.map some)[j]? = some (some v) → ∃ i, (j, i) ∈ pr ∧ i ∈ Oc ∧ i ∈ W ∧ σ[i]? = some (some v) ∧ hs[j]? = some (.ow i) := fun {j v} hj e => by
      obtain ⟨h, e2, r⟩ := HdRs.at r1 (map_get.mp e)
      rcases pl j h e2 with ⟨i, rfl, hi⟩ | ⟨_, hn'⟩
      · exact ⟨i, hi, r.1, hw _ hi, r.2, e2⟩
      · rw [hO] at hj; exact absurd hj hn'
    have oa : ∀ b, OA O (vs.map some) b → OA W σ b := fun b ⟨j, hj, e⟩ => let ⟨i, _, _, h2, h3, _⟩ := own hj e; ⟨i, h2, h3⟩
    have oaO : ∀ b, OA O (vs.map some) b → OA Oc σ b := fun b z => S1.oaw (oa b z)
    generalize hP1 : (fun b => FA P0 Oc σ b ∧ ¬ OA O (vs.map some) b : Pr) = P1
    have fa1 : ∀ b, FA P1 O (vs.map some) b → FA P0 Oc σ b := fun b z => by
      subst hP1
      rcases z with z | z
      · exact z.1
      · exact .inr (oaO b z)
    have fa2 : ∀ b, FA P0 Oc σ b → FA P1 O (vs.map some) b := fun b z => by
      subst hP1
      by_cases y : OA O (vs.map some) b
      · exact .inr y
      · exact .inl ⟨z, y⟩
    have S2 : Sim X.K P1 O [] (ds.map some) (vs.map some) H1 := by
      refine ⟨fun _ z => (nomatch z), by simp [lv, ld], fun b z => S1.dom b (fa1 b z), fun j d e nj => ?_, fun j d e hj => ?_, fun x y a hx hy e1 e2 => ?_, fun a z y => by subst hP1; exact y.2 z⟩
      · have e := map_get.mp e
        have hj : j < vs.length := by rw [lv, ← ld]; exact (List.getElem?_eq_some_iff.mp e).1
        have ev : vs[j]? = some vs[j] := List.getElem?_eq_getElem hj
        obtain ⟨h, e2, r⟩ := HdRs.at r1 ev
        refine ⟨vs[j], map_get.mpr ev, ?_⟩
        have hd := dg j h d e2 e
        rcases pl j h e2 with ⟨i, rfl, hi⟩ | ⟨hne, _⟩
        · exact absurd (by rw [hO]; exact List.mem_map.mpr ⟨_, hi, rfl⟩) nj
        · cases h with
          | fr d' => cases hd; exact r.1.less S1.dom fa1
          | vl d' => cases hd; exact Rep.less S1.dom r fa1
          | ow i => exact absurd rfl (hne i)
      · have e := map_get.mp e
        have hj' : j < vs.length := by rw [lv, ← ld]; exact (List.getElem?_eq_some_iff.mp e).1
        have ev : (vs.map some)[j]? = some (some vs[j]) := map_get.mpr (List.getElem?_eq_getElem hj')
        obtain ⟨i, h1, h2, h3, h4, h5⟩ := own hj ev
        have hd := look_some (dg j _ d h5 e)
        obtain ⟨w, h6, h7⟩ := S1.own i d hd h2
        rw [h4] at h6; cases h6
        exact ⟨_, ev, h7.less S1.dom fa1⟩
      · obtain ⟨i1, a1, b1, c1, d1, f1⟩ := own hx e1
        obtain ⟨i2, a2, b2, c2, d2, f2⟩ := own hy e2
        have ei := S1.sep i1 i2 a b1 b2 d1 d2
        subst ei
        have := nodup_inj hn a1 a2
        exact this
    refine ⟨lv, ds, P1, S2, ld, ?_⟩
    have q := q.keep k1
    cases eg : g ds with
    | stk => rw [eg] at q; exact q.elim
    | er c xs =>
      rw [eg] at q
      exact fun H' kp => hE c xs H' (q H' ⟨fun b o e n => kp.keep b o e fun z => n (oa b z), kp.some⟩)
    | ok p =>
      obtain ⟨hd, os⟩ := p
      rw [eg] at q
      intro v H2 k2 S3 r2
      have S3 : Sim X.K P1 O [] os (vs.map some) H2 := S3
      have k3 : Keep W σ H1 H2 := ⟨fun b o e n => k2.keep b o e fun z => n (oa b z), k2.some⟩
      have slot : ∀ {j i : Nat}, (j, i) ∈ pr → i ∈ Oc := fun {j i} z => S1.sub i (hw _ z)
      have S4 : Sim X.K P0 Oc W (putOuts os pr ρ1) σ H2 := by
        refine ⟨S1.sub, by rw [putOuts_len]; exact S1.len, fun b z => S3.dom b (fa2 b z), fun i d e n => ?_, fun i d e n => ?_, S1.sep, S1.sep0⟩
        · have ni : i ∉ pr.map (·.2) := fun z => by
            obtain ⟨⟨j, i'⟩, hq, z⟩ := List.mem_map.mp z
            cases z
            exact n (slot hq)
          rw [putOuts_ne ni] at e
          obtain ⟨v, h1, h2⟩ := S1.val i d e n
          exact ⟨v, h1, h2.of_same S1.dom fun b o e n => k2.keep b o e fun z => n (.inr (oaO b z))⟩
        · by_cases ni : i ∈ pr.map (·.2)
          · obtain ⟨⟨j, i'⟩, hq, z⟩ := List.mem_map.mp ni
            cases z
            have eo := putOuts_at hn hq e
            have hj : j ∈ O := by rw [hO]; exact List.mem_map.mpr ⟨_, hq, rfl⟩
            obtain ⟨w, h1, h2⟩ := S3.own j d eo hj
            obtain ⟨i2, a2, b2, c2, d2, f2⟩ := own hj h1
            have : i2 = i' := by
              have := nodup_inj1 hn1 a2 hq
              exact this
            subst this
            exact ⟨w, d2, h2.less S3.dom fa2⟩
          · rw [putOuts_ne ni] at e
            obtain ⟨w, h1, h2⟩ := S1.own i d e n
            refine ⟨w, h1, h2.mono S1.dom (fun b o e n => k2.keep b o e fun z => n (.inr (oaO b z))) (fun _ z => .inl z) fun a o e1 e2 => k2.keep a o e2 fun ⟨j, hj, ej⟩ => ?_⟩
            subst e1
            obtain ⟨i2, a2, b2, c2, d2, f2⟩ := own hj ej
            have := S1.sep i i2 a n b2 h1 d2
            subst this
            exact ni (List.mem_map.mpr ⟨_, a2, rfl⟩)
      cases hd with
      | ow j => exact q.elim
      | fr d => exact q v H2 S4 (k1.trans k3) ⟨r2.1.less S3.dom fa2, fun m a e => Classical.byContradiction fun z => k1.some a z (r2.2 m a e)⟩
      | vl d => exact q v H2 S4 (k1.trans k3) (Rep.less S3.dom r2 fa2)
theorem ce_callIO {g : Fn} {p : Pos} (G : Glo X.prog X.w X.K X.mg X.base name k np O g) (pr : List (Nat × Nat)) (o : Out2 X E XE) (hr : Room k X.A) (ha : CA X P0 Oc W E (e :: es) ms) (hl : ALen ms np) (hO : O = pr.map (·.1) := by rfl) (hn : (pr.map (·.2)).Nodup := by decide) (hn1 : (pr.map (·.1)).Nodup := by decide) (hw : ∀ p ∈ pr, p.2 ∈ W := by decide) (hg : Gl X name := by rfl) (hdb : (name == ("__debug__" : Str)) = false := by decide)
    (he : starEach (e :: es) X.env = (false, eval e X.env) :: starEach es X.env := by rfl) (hpl : (backTo pos (starEach es X.env)).any (·.1) = false := by rfl) : CEx X P0 Oc W E (.Call (.Name name p) (e :: es) [] pos) (cCallIO pr g ms) := by
  obtain ⟨f, fd, ps, hm, hk, hb, _, F⟩ := G.ex
  exact PE.imp (pe_call F hr hg hm hk hb .nil o.pass ha hdb he hpl) fun σ H Q h => tM_callIO o.ex hO hn hn1 hw hl σ H Q h
end
end Y

set_option Elab.async false
set_option linter.all false
set_option maxRecDepth 100000
namespace Y
open PySem PySem.Spec PyProof.Rows L2

def fnP (np n : Nat) (m : SM) : List D → R Hd := fun ds => do
  let (f, ρ) ← m (ds.map some ++ List.replicate (n - np) none)
  (retH np f ρ).nox
section
variable {P : Program} {w : World} {K : PySem.W.Frag} {mg : Str → Option Value} {base : Heap} {name : Str} {k np n : Nat} {O : List Nat}
theorem Glo.imp {g g' : Fn} (G : Glo P w K mg base name k np O g) (h : ∀ vs H Q E, spD K mg np O g' vs H Q E → spD K mg np O g vs H Q E) : Glo P w K mg base name k np O g' :=
  let ⟨f, fd, ps, h1, h2, h3, h4, F⟩ := G.ex
  ⟨f, fd, ps, h1, h2, h3, h4, F.imp h⟩
theorem Glo.mono {g : Fn} {k' : Nat} (G : Glo P w K mg base name k np O g) (h : k ≤ k' := by decide) : Glo P w K mg base name k' np O g :=
  let ⟨f, fd, ps, h1, h2, h3, h4, F⟩ := G.ex
  ⟨f, fd, ps, h1, h2, h3, h4, F.mono h⟩
theorem spD_pure {m : SM} {vs : List V} {H : Hp} {Q : VK} {E : XK} : spD K mg np [] (pureF (fnP np n m)) vs H Q E → spD K mg np [] (fnD np n [] m) vs H Q E := fun ⟨hl, ds, P0, S, hd, h⟩ => ⟨hl, ds, P0, S, hd, by
  unfold pureF fnP at h
  unfold fnD
  cases em : m (ds.map some ++ List.replicate (n - np) none) with
  | stk => rw [em] at h; exact h
  | er c xs => rw [em] at h; exact h
  | ok p =>
    obtain ⟨fl, ρ⟩ := p
    rw [em] at h
    cases er : (retH np fl ρ).nox with
    | stk => exact (show Res (exE mg E) [] (vs.map some) H ((retH np fl ρ).nox >>= fun h => Y.R.ok (h, outs [] np ρ)) _ by
        rw [er]
        have h : Res (exE mg E) [] (vs.map some) H ((retH np fl ρ).nox >>= fun h => Y.R.ok (h, [])) _ := h
        rw [er] at h
        exact h)
    | er c xs => cases e2 : retH np fl ρ <;> rw [e2] at er <;> cases er
    | ok hd' =>
      refine (show Res (exE mg E) [] (vs.map some) H ((retH np fl ρ).nox >>= fun h => Y.R.ok (h, outs [] np ρ)) _ from ?_)
      have h : Res (exE mg E) [] (vs.map some) H ((retH np fl ρ).nox >>= fun h => Y.R.ok (h, [])) _ := h
      rw [er] at h ⊢
      exact fun v H' kp S' r => h v H' kp (S'.move (Nat.zero_le _) (fun _ _ => rfl) (fun _ z => nomatch z) fun i d e => by simp at e) r⟩
theorem Glo.pure {m : SM} (G : Glo P w K mg base name k np [] (fnD np n [] m)) : Glo P w K mg base name k np [] (pureF (fnP np n m)) := G.imp fun vs H Q E h => spD_pure h
/-- a def of the text -/
structure Def (K : PySem.W.Frag) (mg : Str → Option Value) (x : Str) (st : Stmt) : Prop where
  ex : ∃ f fd, mg x = some (.ref f) ∧ Fun K x x st f fd
theorem glo_mk {x : Str} {st : Stmt} {N ps : List Str} {Oc W U : List Nat} {m : SM} (F : Def K mg x st) (S : FnScope N ps (defScope st))
    (hb : ∀ (f : Addr) (cdv : Value) (A : Around) (outer : List PySem.Env) (s : Shared) (H : Hp) (E : XK) (P0 : Pr), Room k (A.deeper (envOfC x (defScope st) s.heap.objs.size f cdv)) → CSs (cxOf (L2N.CX P w) P w K mg base N x (defScope st) f cdv A outer s H E) P0 Oc W U (exE mg E) (defBody st) m)
    (bi : ∀ (kV doc pm : Value) (an : Option Addr) (cdv ct : Value) (us : List Value), us.length = ps.length → bindArgs (PySem.W.fnOf x x (defArgs st) (defBody st) (defScope st) .none kV doc pm an cdv ct) ⟨us, []⟩ = Pure.pure (ps.zip us))
    (hp : ps.length = np := by rfl) (hn : N.length = n := by rfl) (hO : O = Oc.filter (fun i => decide (i < np)) := by rfl) (hW : ∀ i ∈ W, i ∈ Oc := by decide) (hU : ∀ i ∈ O, i ∈ U := by decide) : Glo P w K mg base x (k + 1) np O (fnD np n O m) := by
  obtain ⟨f, fd, hm, F⟩ := F.ex
  exact ⟨f, fd, ps, hm, F.kp, F.binds bi, hp, fnD_ok F S hp hn (fun i => by rw [hO, List.mem_filter, decide_eq_true_eq]) hW hU fun cdv A outer s H E P0 hr => hb f cdv A outer s H E P0 hr⟩
theorem law_fn {st : Stmt} {f : Addr} {fd : FuncData} {N : List Str} {Oc W : List Nat} {m : SM} (F : Fun K "law" "law" st f fd) (S : FnScope N ["script"] (defScope st))
    (hb : ∀ (f : Addr) (cdv : Value) (A : Around) (outer : List PySem.Env) (s : Shared) (H : Hp) (E : XK) (P0 : Pr), Room k (A.deeper (envOfC "law" (defScope st) s.heap.objs.size f cdv)) → CSs (cxOf (L2N.CX P w) P w K mg base N "law" (defScope st) f cdv A outer s H E) P0 Oc W [] (exE mg E) (defBody st) m)
    (hn : N.length = n := by rfl) (hO : [] = Oc.filter (fun i => decide (i < 1)) := by rfl) (hW : ∀ i ∈ W, i ∈ Oc := by decide) : FnOk P w K mg base (L2N.CX P w) (k + 1) f fd ["script"] (spD K mg 1 [] (pureF (fnP 1 n m))) :=
  (fnD_ok (O := []) F S rfl hn (fun i => by rw [hO, List.mem_filter, decide_eq_true_eq]; exact Iff.rfl) hW (fun _ h => by simp at h) fun cdv A outer s H E P0 hr => hb f cdv A outer s H E P0 hr).imp fun vs H Q E h => spD_pure h
theorem out2_body {N : List Str} {x : Str} {sc : Scope} {f : Addr} {cdv : Value} {A : Around} {outer : List PySem.Env} {s : Shared} {H : Hp} {E : XK} : Out2 (cxOf (L2N.CX P w) P w K mg base N x sc f cdv A outer s H E) (exE mg E) E :=
  ⟨L2N.passes_call (L2N.takes_of rfl rfl rfl rfl) (fun _ _ _ _ h => h), fun c ds H h => h⟩
theorem cx_none {H : Hp} {s : Shared} {e : Value} {s' : Shared} (h : L2N.CX P w [] H s (fun _ _ _ => False) e s') : False := by
  obtain ⟨_, _, _, _, _, _, _, _, _, _, _, _, z⟩ := h
  exact z.elim
end
end Y

set_option Elab.async false
set_option linter.all false
set_option maxRecDepth 100000
namespace Y
open PySem PySem.Spec PyProof.Rows L2
def tyN : D → String
  | .non => "NoneType" | .bl _ => "bool" | .int _ => "int" | .str _ => "str" | .tup _ => "tuple" | .lst _ => "list" | .arg _ => "list" | .dik _ _ => "dict" | .dit _ _ => "dict" | .ftu _ => "tuple" | .tab _ _ => "NoneType"
def isInt : D → Bool
  | .int _ => true | .bl _ => true | _ => false
def isBl : D → Bool
  | .bl _ => true | _ => false
def isStr : D → Bool
  | .str _ => true | _ => false
def isTup : D → Bool
  | .tup _ => true | .ftu _ => true | _ => false
abbrev IsK (T : String) (f : D → Bool) : Prop := ∀ d, kitB (tyN d) T = some (f d)
theorem isk_int : IsK "int" isInt := fun d => by cases d <;> simp only [tyN, isInt] <;> decide +kernel
theorem isk_bool : IsK "bool" isBl := fun d => by cases d <;> simp only [tyN, isBl] <;> decide +kernel
theorem isk_str : IsK "str" isStr := fun d => by cases d <;> simp only [tyN, isStr] <;> decide +kernel
theorem isk_tuple : IsK "tuple" isTup := fun d => by cases d <;> simp only [tyN, isTup] <;> decide +kernel
def noDit : D → Bool
  | .dit _ _ => false | .ftu _ => false | .tab _ _ => false | _ => true
def isFt : D → Bool
  | .ftu _ => true | _ => false
theorem tyX_of {K : PySem.W.Frag} {H : Hp} {P : Pr} {d : D} {v : V} (hd : (noDit d || isFt d) = true) (h : RepW K H d P v) : TyX K H v (.type (tyN d)) := by
  cases d with
  | non => have h : Rep K H .non P v := h; unfold Rep at h; subst h; exact .base .non
  | bl b => have h : Rep K H (.bl b) P v := h; unfold Rep at h; subst h; exact .base (.bl b)
  | int i => have h : Rep K H (.int i) P v := h; unfold Rep at h; subst h; exact .base (.int i)
  | str x => have h : Rep K H (.str x) P v := h; unfold Rep at h; subst h; exact .base (.str x)
  | tup ds =>
    have h : Rep K H (.tup ds) P v := h
    unfold Rep at h
    obtain ⟨a, vs, rfl, h1, _⟩ := h
    exact .base (.tup h1)
  | lst ds =>
    obtain ⟨a, vs, rfl, h1, _⟩ := h
    exact .base (.lst h1)
  | arg ns =>
    obtain ⟨a, rfl, h1⟩ := h
    rcases h1 with (h1 | ⟨o, h1⟩) | ⟨ob, its, n, h1, h2, _⟩
    · exact .base (.lst h1)
    · exact .base (.frz h1)
    · exact .kList h1 h2
  | dik ks ds =>
    obtain ⟨a, vs, rfl, _, h1, _⟩ := h
    rcases h1 with h1 | ⟨o, h1⟩
    · exact .base (.dK h1)
    · exact .fDict h1
  | dit ks ds => cases hd
  | tab _ _ => cases hd
  | ftu ds =>
    have h : Rep K H (.ftu ds) P v := h
    unfold Rep at h
    obtain ⟨a, vs, o, rfl, h1, _⟩ := h
    exact .fTuple h1
def cIsi (f : D → Bool) (m : EM) : EM := fun ρ => do
  let (h, ρ1) ← m ρ
  let d ← (h.d ρ1).nox
  if (noDit d || isFt d) = true then pure (.fr (.bl (f d)), ρ1) else .stk
section
variable {X : Cx} {P0 : Pr} {O W : List Nat} {E : EK} {a : Expr} {ma : EM} {pos : Pos}
theorem ce_isi {T : String} {x : Str} {f : D → Bool} {p q : Pos} (hk : IsK T f) (hm : X.mg "isinstance" = none) (hm2 : X.mg x = none) (h : CEx X P0 O W E a ma) (hv : bootBuiltins "isinstance" = some (.builtin "isinstance")) (hv2 : bootBuiltins x = some (.type T))
    (hg : Gl X "isinstance" := by rfl) (hg2 : Gl X x := by rfl) (hn : x ≠ "__name__" := by decide) (hdb : (x == ("__debug__" : Str)) = false := by decide)
    (he : starEach [a, .Name x q] X.env = (false, eval a X.env) :: starEach [.Name x q] X.env := by rfl) (hpl : (backTo pos (starEach [.Name x q] X.env)).any (·.1) = false := by rfl) (he2 : starEach [.Name x q] X.env = (false, eval (.Name x q) X.env) :: starEach [] X.env := by rfl) : CEx X P0 O W E (.Call (.Name "isinstance" p) [a, .Name x q] [] pos) (cIsi f ma) :=
  PE.imp (pe_callB call_isi hg hm hv (pa_cons h (pa_cons (pe_bltn hg2 hm2 hv2 (v := .ty T) rfl hn hdb) pa_nil he2) he) (by decide) (by decide) he hpl) fun σ H Q ⟨ρ, S, h⟩ => by
    refine ⟨ρ, S, h.of_bind.mono fun ⟨hd, ρ1⟩ q v H1 S1 k1 r1 => ?_⟩
    obtain ⟨d, e1, q⟩ := q.of_nox
    by_cases c : (noDit d || isFt d) = true
    · rw [if_pos c] at q
      exact ⟨v, .ty T, _, _, f d, rfl, .ty T, tyX_of c (HdR.d S1 r1 e1), kit_ty (hk d), (out_of (K := X.K) S1 k1 q).bl⟩
    · rw [if_neg c] at q
      exact q.elim
end
end Y

set_option Elab.async false
set_option linter.all false
set_option maxRecDepth 100000
namespace Y
open PySem PySem.Spec PyProof.Rows L2
section
variable {K : PySem.W.Frag} {X : Cx} {P0 : Pr} {O W U : List Nat} {E : EK} {e : Expr} {ma : EM} {pos : Pos}
/-- what the top binds -/
theorem def_mk {h : Heap} {mg : Str → Option Value} {x : Str} {st : Stmt} {f : Addr} {od an : Option Addr} {sl : Array (Option Value)} {oc kV dc pm cd ct : Value} (Z : K.In h) (G : h.Ns mainGlobals mg)
    (a : PySem.W.nsIn K mainGlobals x = some (some (.ref f))) (l : K.lookup f = some ⟨oc, od, .func (PySem.W.fnOf x x (defArgs st) (defBody st) (defScope st) .none kV dc pm an cd ct), sl⟩) (c : PySem.W.codeIn K cd x = true) (k : PySem.W.keepIn K (.ref f) = true) : Def K mg x st :=
  ⟨⟨f, _, PySem.W.mg_of Z G a, fun_mk l c k⟩⟩
end
theorem bo_len : bootBuiltins "len" = some (.builtin "len") := by decide +kernel
theorem bo_max : bootBuiltins "max" = some (.builtin "max") := by decide +kernel
theorem bo_min : bootBuiltins "min" = some (.builtin "min") := by decide +kernel
theorem bo_divmod : bootBuiltins "divmod" = some (.builtin "divmod") := by decide +kernel
theorem bo_sum : bootBuiltins "sum" = some (.builtin "sum") := by decide +kernel
theorem bo_all : bootBuiltins "all" = some (.builtin "all") := by decide +kernel
theorem bo_isinstance : bootBuiltins "isinstance" = some (.builtin "isinstance") := by decide +kernel
theorem bo_sorted : bootBuiltins "sorted" = some (.builtin "sorted") := by decide +kernel
theorem bo_tuple : bootBuiltins "tuple" = some (.type "tuple") := by decide +kernel
theorem bo_bool : bootBuiltins "bool" = some (.type "bool") := by decide +kernel
theorem bo_str : bootBuiltins "str" = some (.type "str") := by decide +kernel
theorem bo_int : bootBuiltins "int" = some (.type "int") := by decide +kernel
theorem bo_set : bootBuiltins "set" = some (.type "set") := by decide +kernel
theorem _root_.L2.Room.units65 {k : Nat} {A : Around} (r : Room k A) : A.units + 65 < cLine := by have := r.un; omega
end Y

set_option Elab.async false
set_option linter.all false
set_option maxRecDepth 100000
namespace Y
open PySem PySem.Spec PyProof.Rows L2
abbrev Good (g : List D → R Hd) (n : Nat) : Prop := ∀ ns : List Int, ns.length ≤ n → (∀ z ∈ ns, Builtin.Int.intBits z ≤ 1048576) → ∃ b, g [.arg ns] = .ok b ∧ (b = .fr (.bl true) ∨ b = .vl (.bl true))
def spL (K : PySem.W.Frag) (n : Nat) : Sp := fun vs H Q E => ∃ (a : Addr) (ns : List Int), vs = [.ref a] ∧ SqL K H a (ns.map V.int) ∧ ns.length ≤ n ∧ (∀ z ∈ ns, Builtin.Int.intBits z ≤ 1048576) ∧ ∀ H', Q (.bl true) H'
theorem spL_to {K : PySem.W.Frag} {mg : Str → Option Value} {g : List D → R Hd} {n : Nat} (hg : Good g n) {vs : List V} {H : Hp} {Q : VK} {E : XK} : spL K n vs H Q E → spD K mg 1 [] (pureF g) vs H Q E := fun ⟨a, ns, e, hS, h1, h2, q⟩ => by
  subst e
  obtain ⟨b, e, hb⟩ := hg ns h1 h2
  refine ⟨rfl, [.arg ns], fun _ => False, sim_args (fun b z => z.elim) (Reps.cons ?_ Reps.nil), rfl, ?_⟩
  · unfold Rep
    refine ⟨a, rfl, ?_⟩
    rcases hS with hS | hS
    · exact .inl ⟨fun z => z, hS⟩
    · exact .inr (.inr hS)
  · unfold pureF
    rw [e]
    intro v H' _ _ r
    have : v = .bl true := by
      rcases hb with rfl | rfl
      · have r := r.1; unfold Rep at r; exact r
      · have r : Rep K H' (.bl true) (FA (fun _ => False) [] ([V.ref a].map some)) v := r; unfold Rep at r; exact r
    rw [this]
    exact q H'
/-- the law as the head wants it -/
theorem law_all {P : Program} {w : World} {K : PySem.W.Frag} {mg : Str → Option Value} {h : Heap} {fa f2 : Addr} {st : Stmt} {k n : Nat} {g : List D → R Hd} (Z : K.In h) (G : h.Ns mainGlobals mg) (hfa : mg "law" = some (.ref fa)) (hg : Good g n)
    {od an : Option Addr} {sl : Array (Option Value)} {oc kV dc pm cd ct : Value}
    (ok : ∀ (base : Heap) {f : Addr} {fd : FuncData}, Fun K "law" "law" st f fd → FnOk P w K mg base (L2N.CX P w) k f fd ["script"] (spD K mg 1 [] (pureF g)))
    (hb : ∀ (kV dc pm : Value) (an : Option Addr) (cd ct : Value) (s : Shared) (u : Value), BindsTo s (PySem.W.fnOf "law" "law" (defArgs st) (defBody st) (defScope st) .none kV dc pm an cd ct) ⟨[u], []⟩ [("script", u)])
    (a : PySem.W.nsIn K mainGlobals "law" = some (some (.ref f2))) (l : K.lookup f2 = some ⟨oc, od, .func (PySem.W.fnOf "law" "law" (defArgs st) (defBody st) (defScope st) .none kV dc pm an cd ct), sl⟩) (c : PySem.W.codeIn K cd "law" = true) (kp : PySem.W.keepIn K (.ref f2) = true) :
    ∃ fd : FuncData, (∀ (s : Shared) (u : Value), BindsTo s fd ⟨[u], []⟩ [("script", u)]) ∧ ∀ base : Heap, K.In base → base.Ns mainGlobals mg → FnOk P w K mg base (L2N.CX P w) k fa fd ["script"] (spL K n) := by
  have e := hfa.symm.trans (PySem.W.mg_of Z G a)
  cases e
  exact ⟨_, fun s u => hb kV dc pm an cd ct s u, fun base _ _ => (ok base (fun_mk l c kp)).imp fun vs H Q E h => spL_to hg h⟩
end Y

set_option Elab.async false
set_option linter.all false
set_option maxRecDepth 100000
namespace Y
open PySem PySem.Spec PyProof.Rows L2
variable {ρ : Env}
@[simp] theorem e_look {i : Nat} : look i ρ = (match ρ[i]? with | some (some d) => .ok d | _ => .stk) := id rfl
@[simp] theorem e_var {i : Nat} : cVar i ρ = ((look i ρ).nox >>= fun d => R.ok (.vl d, ρ)) := id rfl
@[simp] theorem e_own {i : Nat} : cOwn i ρ = ((look i ρ).nox >>= fun _ => R.ok (.ow i, ρ)) := id rfl
@[simp] theorem e_c {d : D} : cC d ρ = .ok (.fr d, ρ) := id rfl
@[simp] theorem e_hfr {d : D} : Hd.d (.fr d) ρ = .ok d := id rfl
@[simp] theorem e_hvl {d : D} : Hd.d (.vl d) ρ = .ok d := id rfl
@[simp] theorem e_how {i : Nat} : Hd.d (.ow i) ρ = look i ρ := id rfl
@[simp] theorem e_vfr {d : D} : Hd.v (.fr d) = .ok d := id rfl
@[simp] theorem e_vvl {d : D} : Hd.v (.vl d) = .ok d := id rfl
@[simp] theorem e_vow {i : Nat} : Hd.v (.ow i) = .stk := id rfl
@[simp] theorem e_op {f : D → D → R D} {a b : EM} : cOp f a b ρ = (a ρ >>= fun p => b p.2 >>= fun q => (p.1.d q.2).nox >>= fun x => (q.1.d q.2).nox >>= fun y => (f x y).nox >>= fun z => R.ok (.fr z, q.2)) := id rfl
@[simp] theorem e_tru {m : EM} : cTru m ρ = (m ρ >>= fun p => (p.1.d p.2).nox >>= fun d => (truD d).nox >>= fun b => R.ok (b, p.2)) := id rfl
@[simp] theorem e_bl {m : EM} : cBl m ρ = (m ρ >>= fun p => p.1.v.nox >>= fun d => match d with | .bl b => R.ok (b, p.2) | _ => .stk) := id rfl
@[simp] theorem e_notT {m : BM} : cNotT m ρ = (m ρ >>= fun p => R.ok (!p.1, p.2)) := id rfl
@[simp] theorem e_orT {a b : BM} : cOrT a b ρ = (a ρ >>= fun p => if p.1 = true then R.ok (true, p.2) else b p.2) := id rfl
@[simp] theorem e_nil : cNil ρ = .ok ([], ρ) := id rfl
@[simp] theorem e_cons {a : EM} {as : AM} : cCons a as ρ = (a ρ >>= fun p => as p.2 >>= fun q => R.ok (p.1 :: q.1, q.2)) := id rfl
@[simp] theorem e_vs0 : vsOf [] = .ok [] := id rfl
@[simp] theorem e_vs1 {h : Hd} {hs : List Hd} : vsOf (h :: hs) = (h.v.nox >>= fun d => vsOf hs >>= fun ds => R.ok (d :: ds)) := id rfl
@[simp] theorem e_ds0 : dsOf [] ρ = .ok [] := id rfl
@[simp] theorem e_ds1 {h : Hd} {hs : List Hd} : dsOf (h :: hs) ρ = ((h.d ρ).nox >>= fun d => dsOf hs ρ >>= fun ds => R.ok (d :: ds)) := id rfl
@[simp] theorem e_and {a b : EM} : cAnd a b ρ = (a ρ >>= fun p => (p.1.d p.2).nox >>= fun d => (truD d).nox >>= fun k => if k = true then b p.2 else R.ok (p.1, p.2)) := id rfl
@[simp] theorem e_not {m : EM} : cNot m ρ = (m ρ >>= fun p => (p.1.d p.2).nox >>= fun d => (truD d).nox >>= fun k => R.ok (.fr (.bl (!k)), p.2)) := id rfl
@[simp] theorem e_chain {f g : D → D → R D} {a b c : EM} : cChain f g a b c ρ = (a ρ >>= fun p => b p.2 >>= fun q => (p.1.d q.2).nox >>= fun x => (q.1.d q.2).nox >>= fun y => (f x y).nox >>= fun z => match z with | .bl k => if k = true then (c q.2 >>= fun r => (q.1.d r.2).nox >>= fun y => (r.1.d r.2).nox >>= fun w => (g y w).nox >>= fun z => R.ok (.fr z, r.2)) else .ok (.fr (.bl false), q.2) | _ => .stk) := id rfl
@[simp] theorem e_neg {m : EM} : cNeg m ρ = (m ρ >>= fun p => p.1.v.nox >>= fun d => match d with | .int i => R.ok (.fr (.int (-i)), p.2) | _ => .stk) := id rfl
@[simp] theorem e_tup {m : AM} : cTup m ρ = (m ρ >>= fun p => (vsOf p.1).nox >>= fun ds => if szOk ds.length = true then R.ok (.fr (.tup ds), p.2) else .stk) := id rfl
@[simp] theorem e_lst {m : AM} : cLst m ρ = (m ρ >>= fun p => (vsOf p.1).nox >>= fun ds => if szOk ds.length = true then R.ok (.fr (.lst ds), p.2) else .stk) := id rfl
@[simp] theorem e_call {f : List D → R D} {m : AM} : cCall f m ρ = (m ρ >>= fun p => (dsOf p.1 p.2).nox >>= fun ds => (f ds).nox >>= fun z => R.ok (.fr z, p.2)) := id rfl
@[simp] theorem e_ix {a b : EM} : cIx a b ρ = (a ρ >>= fun p => b p.2 >>= fun q => (p.1.d q.2).nox >>= fun x => (q.1.d q.2).nox >>= fun y => (ixD x y).nox >>= fun z => R.ok (.vl z, q.2)) := id rfl
@[simp] theorem e_nopart : cNoPart ρ = .ok (none, ρ) := id rfl
@[simp] theorem e_part {m : EM} : cPart m ρ = (m ρ >>= fun p => p.1.v.nox >>= fun d => match d with | .int i => R.ok (some i, p.2) | _ => .stk) := id rfl
@[simp] theorem e_slice {a : EM} {lo hi : OM} : cSlice a lo hi ρ = (a ρ >>= fun p => lo p.2 >>= fun q => hi q.2 >>= fun r => (p.1.d r.2).nox >>= fun d => (sliceD d q.1 r.1).nox >>= fun z => R.ok (.fr z, r.2)) := id rfl
@[simp] theorem e_iter {m : EM} : cIter m ρ = (m ρ >>= fun p => (p.1.d p.2).nox >>= fun d => (itD d).nox >>= fun ds => if szOk ds.length = true then R.ok ((ds, p.1.ws), p.2) else .stk) := id rfl
@[simp] theorem e_range {f : List D → R (List D)} {m : AM} : cRange f m ρ = (m ρ >>= fun p => (vsOf p.1).nox >>= fun ds => (f ds).nox >>= fun xs => if szOk xs.length = true then R.ok ((xs, []), p.2) else .stk) := id rfl
@[simp] theorem e_yes : cYes ρ = .ok (true, ρ) := id rfl
@[simp] theorem e_isi {f : D → Bool} {m : EM} : cIsi f m ρ = (m ρ >>= fun p => (p.1.d p.2).nox >>= fun d => if (noDit d || isFt d) = true then R.ok (.fr (.bl (f d)), p.2) else .stk) := id rfl
@[simp] theorem e_callF {g : List D → R Hd} {m : AM} : cCallF g m ρ = (m ρ >>= fun p => (vsOf p.1).nox >>= fun ds => g ds >>= fun h => match h with | .ow _ => .stk | h => R.ok (h, p.2)) := id rfl
@[simp] theorem e_callIO {pr : List (Nat × Nat)} {g : Fn} {m : AM} : cCallIO pr g m ρ = (m ρ >>= fun p => if placed pr 0 p.1 = true then ((dsOf p.1 p.2).nox >>= fun ds => g ds >>= fun r => match r.1 with | .ow _ => .stk | h => R.ok (h, putOuts r.2 pr p.2)) else .stk) := id rfl
@[simp] theorem e_tmN {i : Nat} {d : D} : tmName i d ρ = .ok (ρ.set i (some d)) := id rfl
@[simp] theorem e_tmT {is : List Nat} {ds : List D} : tmTup is (.tup ds) ρ = if ds.length = is.length then .ok (setAll ρ is ds) else .stk := id rfl
@[simp] theorem e_sa0 {ds : List D} : setAll ρ [] ds = ρ := by unfold setAll; rfl
@[simp] theorem e_sa1 {i : Nat} {is : List Nat} {d : D} {ds : List D} : setAll ρ (i :: is) (d :: ds) = setAll (ρ.set i (some d)) is ds := id rfl
@[simp] theorem e_comp {im : IM} {tm : GM} {t : BM} {e : EM} {vs : List Nat} : cComp im tm t e vs ρ = (im ρ >>= fun p => (cCompL tm t e vs p.1.2 p.1.1 (wipeE p.2 vs)).nox >>= fun q => R.ok (.fr (.lst q.1), q.2)) := id rfl
@[simp] theorem e_skip : sSkip ρ = .ok (.nx, ρ) := id rfl
@[simp] theorem e_seq {m n : SM} : sSeq m n ρ = (m ρ >>= fun p => match p.1 with | .nx => n p.2 | f => R.ok (f, p.2)) := by
  unfold sSeq; congr
@[simp] theorem e_ret {m : EM} : sRet m ρ = (m ρ >>= fun p => R.ok (.rt p.1, p.2)) := id rfl
@[simp] theorem e_sif {t : BM} {m n : SM} : sIf t m n ρ = (t ρ >>= fun p => if p.1 = true then m p.2 else n p.2) := id rfl
@[simp] theorem e_asg {m : EM} {tm : GM} : sAsg m tm ρ = (m ρ >>= fun p => p.1.v.nox >>= fun d => (tm d p.2).nox >>= fun r => R.ok (.nx, r)) := id rfl
@[simp] theorem e_sown {O W : List Nat} {m : EM} {i : Nat} : sOwn O W m i ρ = (m ρ >>= fun p => match p.1 with | .fr d => ((chkO O W ρ p.2).nox >>= fun _ => if d.ownable = true then R.ok (.nx, p.2.set i (some d)) else .stk) | _ => .stk) := by
  unfold sOwn; congr
@[simp] theorem e_app {i : Nat} {m : EM} : sAppend i m ρ = ((lstAt i ρ).nox >>= fun _ => m ρ >>= fun p => p.1.v.nox >>= fun d => (lstAt i p.2).nox >>= fun ds => if szOk (ds.length + 1) = true then R.ok (.nx, p.2.set i (some (.lst (ds ++ [d])))) else .stk) := id rfl
@[simp] theorem e_lat {i : Nat} : lstAt i ρ = (match ρ[i]? with | some (some (.lst ds)) => .ok ds | _ => .stk) := id rfl
@[simp] theorem e_six {i : Nat} {mk mv : EM} : sSetIx i mk mv ρ = (mv ρ >>= fun p => p.1.v.nox >>= fun d => (lstAt i p.2).nox >>= fun _ => mk p.2 >>= fun q => q.1.v.nox >>= fun k => match k with | .int z => ((lstAt i q.2).nox >>= fun ds => match ixN ds.length z with | some j => R.ok (.nx, q.2.set i (some (.lst (ds.set j d)))) | none => .stk) | _ => .stk) := by
  unfold sSetIx; congr
@[simp] theorem e_for {U : List Nat} {im : IM} {tm : GM} {body : SM} {vs : List Nat} : sFor U im tm body vs ρ = (im ρ >>= fun p => if (p.1.2.all fun w => U.contains w) = true then forL tm body vs p.1.2 p.1.1 p.2 else .stk) := id rfl
@[simp] theorem e_w0 : wipeE ρ [] = ρ := id rfl
@[simp] theorem e_w1 {i : Nat} {is : List Nat} : wipeE ρ (i :: is) = (wipeE ρ is).set i none := id rfl
@[simp] theorem e_po0 {os : Env} : putOuts os [] ρ = ρ := id rfl
@[simp] theorem e_po1 {os : Env} {j i : Nat} {pr : List (Nat × Nat)} : putOuts os ((j, i) :: pr) ρ = (putOuts os pr ρ).set i (os.getD j none) := id rfl
@[simp] theorem e_pl0 {pr : List (Nat × Nat)} {j : Nat} : placed pr j [] = true := id rfl
@[simp] theorem e_pl1 {pr : List (Nat × Nat)} {j i : Nat} {hs : List Hd} : placed pr j (.ow i :: hs) = (pr.contains (j, i) && placed pr (j + 1) hs) := id rfl
@[simp] theorem e_pl2 {pr : List (Nat × Nat)} {j : Nat} {d : D} {hs : List Hd} : placed pr j (.vl d :: hs) = ((!pr.any fun p => p.1 == j) && placed pr (j + 1) hs) := id rfl
@[simp] theorem e_pl3 {pr : List (Nat × Nat)} {j : Nat} {d : D} {hs : List Hd} : placed pr j (.fr d :: hs) = ((!pr.any fun p => p.1 == j) && placed pr (j + 1) hs) := id rfl
@[simp] theorem e_rt0 {np : Nat} : retH np .nx ρ = .ok (.fr .non) := id rfl
@[simp] theorem e_rt1 {np : Nat} {d : D} : retH np (.rt (.fr d)) ρ = .ok (.fr d) := id rfl
@[simp] theorem e_rt2 {np : Nat} {d : D} : retH np (.rt (.vl d)) ρ = .ok (.vl d) := id rfl
@[simp] theorem e_rt3 {np i : Nat} : retH np (.rt (.ow i)) ρ = if np ≤ i then ((look i ρ).nox >>= fun d => R.ok (.fr d)) else .stk := id rfl
theorem e_fnP {np n : Nat} {m : SM} {ds : List D} : fnP np n m ds = (m (ds.map some ++ List.replicate (n - np) none) >>= fun p => (retH np p.1 p.2).nox) := rfl
theorem e_fnD {np n : Nat} {O : List Nat} {m : SM} {ds : List D} : fnD np n O m ds = (m (ds.map some ++ List.replicate (n - np) none) >>= fun p => (retH np p.1 p.2).nox >>= fun h => R.ok (h, outs O np p.2)) := rfl
@[simp] theorem e_outs1 {O : List Nat} : outs O 1 ρ = [if O.contains 0 = true then ρ.getD 0 none else none] := id rfl
@[simp] theorem e_outs2 {O : List Nat} : outs O 2 ρ = [if O.contains 0 = true then ρ.getD 0 none else none, if O.contains 1 = true then ρ.getD 1 none else none] := id rfl
@[simp] theorem e_outs3 {O : List Nat} : outs O 3 ρ = [if O.contains 0 = true then ρ.getD 0 none else none, if O.contains 1 = true then ρ.getD 1 none else none, if O.contains 2 = true then ρ.getD 2 none else none] := id rfl
@[simp] theorem e_outs4 {O : List Nat} : outs O 4 ρ = [if O.contains 0 = true then ρ.getD 0 none else none, if O.contains 1 = true then ρ.getD 1 none else none, if O.contains 2 = true then ρ.getD 2 none else none, if O.contains 3 = true then ρ.getD 3 none else none] := id rfl
@[simp] theorem e_outs5 {O : List Nat} : outs O 5 ρ = [if O.contains 0 = true then ρ.getD 0 none else none, if O.contains 1 = true then ρ.getD 1 none else none, if O.contains 2 = true then ρ.getD 2 none else none, if O.contains 3 = true then ρ.getD 3 none else none, if O.contains 4 = true then ρ.getD 4 none else none] := id rfl
end Y

set_option Elab.async false
set_option linter.all false
set_option maxRecDepth 100000
namespace Y
open PySem PySem.Spec PyProof.Rows L2
@[simp] theorem d_add {i j : Int} : addD (.int i) (.int j) = .ok (.int (i + j)) := id rfl
@[simp] theorem d_addT {x y : List D} : addD (.tup x) (.tup y) = if szOk (x.length + y.length) = true then .ok (.tup (x ++ y)) else .stk := id rfl
@[simp] theorem d_addL {x y : List D} : addD (.lst x) (.lst y) = if szOk (x.length + y.length) = true then .ok (.lst (x ++ y)) else .stk := id rfl
@[simp] theorem d_addS {x y : Str} : addD (.str x) (.str y) = if szOk (x.length + y.length) = true then .ok (.str (x ++ y)) else .stk := id rfl
@[simp] theorem d_mul {i j : Int} : mulD (.int i) (.int j) = if mulOk i j = true then .ok (.int (i * j)) else .stk := id rfl
@[simp] theorem d_fdiv {i j : Int} : fdivD (.int i) (.int j) = if smallPos j = true then .ok (.int (i / j)) else .stk := id rfl
@[simp] theorem d_mod {i j : Int} : modD (.int i) (.int j) = if 0 < j then .ok (.int (i % j)) else .stk := id rfl
@[simp] theorem d_shl {i j : Int} : shlD (.int i) (.int j) = if shOk i j = true then .ok (.int (i * 2 ^ j.toNat)) else .stk := id rfl
@[simp] theorem d_shr {i j : Int} : shrD (.int i) (.int j) = if 0 ≤ j then .ok (.int (i / 2 ^ j.toNat)) else .stk := id rfl
@[simp] theorem d_and {i j : Int} : andD (.int i) (.int j) = .ok (.int (Builtin.bitAnd i j)) := id rfl
@[simp] theorem d_xor {i j : Int} : xorD (.int i) (.int j) = .ok (.int (Builtin.bitXor i j)) := id rfl
@[simp] theorem d_lt {i j : Int} : ltD (.int i) (.int j) = .ok (.bl (decide (i < j))) := id rfl
@[simp] theorem d_le {i j : Int} : leD (.int i) (.int j) = .ok (.bl (decide (i ≤ j))) := id rfl
@[simp] theorem d_gt {i j : Int} : gtD (.int i) (.int j) = .ok (.bl (decide (j < i))) := id rfl
@[simp] theorem d_ge {i j : Int} : geD (.int i) (.int j) = .ok (.bl (decide (j ≤ i))) := id rfl
@[simp] theorem d_isN {x : D} : isD x .non = .ok (.bl (isNon x)) := by cases x <;> rfl
@[simp] theorem d_isB {a b : Bool} : isD (.bl a) (.bl b) = .ok (.bl (decide (a = b))) := id rfl
@[simp] theorem d_lenT {x : List D} : lenD [.tup x] = .ok (.int x.length) := id rfl
@[simp] theorem d_lenL {x : List D} : lenD [.lst x] = .ok (.int x.length) := id rfl
@[simp] theorem d_lenA {x : List Int} : lenD [.arg x] = .ok (.int x.length) := id rfl
@[simp] theorem d_lenS {x : Str} : lenD [.str x] = if szOk x.length = true then .ok (.int x.length) else .stk := id rfl
@[simp] theorem d_max {i j : Int} : max2D [.int i, .int j] = .ok (.int (max i j)) := id rfl
@[simp] theorem d_min {i j : Int} : min2D [.int i, .int j] = .ok (.int (min i j)) := id rfl
@[simp] theorem d_divmod {i j : Int} : divmodD [.int i, .int j] = if smallPos j = true then .ok (.tup [.int (i / j), .int (i % j)]) else .stk := id rfl
@[simp] theorem d_tupL {x : List D} : tupleD [.lst x] = .ok (.tup x) := id rfl
@[simp] theorem d_tupT {x : List D} : tupleD [.tup x] = .ok (.tup x) := id rfl
@[simp] theorem d_intI {i : Int} : intOfD [.int i] = .ok (.int i) := id rfl
@[simp] theorem d_intB {k : Bool} : intOfD [.bl k] = .ok (.int (if k then 1 else 0)) := id rfl
@[simp] theorem d_ixT {x : List D} {i : Int} : ixD (.tup x) (.int i) = match atI x i with | some d => .ok d | none => .stk := id rfl
@[simp] theorem d_ixL {x : List D} {i : Int} : ixD (.lst x) (.int i) = match atI x i with | some d => .ok d | none => .stk := id rfl
@[simp] theorem d_ixA {x : List Int} {i : Int} : ixD (.arg x) (.int i) = match atI x i with | some n => .ok (.int n) | none => .stk := id rfl
@[simp] theorem d_slT {x : List D} {a b : Option Int} : sliceD (.tup x) a b = .ok (.tup (cutD x a b)) := id rfl
@[simp] theorem d_slL {x : List D} {a b : Option Int} : sliceD (.lst x) a b = .ok (.lst (cutD x a b)) := id rfl
@[simp] theorem d_itL {x : List D} : itD (.lst x) = .ok x := id rfl
@[simp] theorem d_itT {x : List D} : itD (.tup x) = .ok x := id rfl
@[simp] theorem d_itA {x : List Int} : itD (.arg x) = .ok (x.map D.int) := id rfl
@[simp] theorem d_rng1 {j : Int} : rng1D [.int j] = if rngOk j = true then .ok ((List.range j.toNat).map fun i => D.int (i : Nat)) else .stk := by
  show (if rngOk j = true then R.ok ((List.range j.toNat).map fun i => D.int (0 + (i : Nat))) else .stk) = _
  simp
@[simp] theorem d_rng2 {i j : Int} : rng2D [.int i, .int j] = if (rngOk i && rngOk j) = true then .ok ((List.range (j - i).toNat).map fun k => D.int (i + (k : Nat))) else .stk := id rfl
@[simp] theorem d_truB {b : Bool} : truD (.bl b) = .ok b := id rfl
@[simp] theorem d_truN : truD .non = .ok false := id rfl
@[simp] theorem d_truI {i : Int} : truD (.int i) = .ok (i != 0) := id rfl
@[simp] theorem d_truL {x : List D} : truD (.lst x) = .ok (!x.isEmpty) := id rfl
@[simp] theorem d_truT {x : List D} : truD (.tup x) = .ok (!x.isEmpty) := id rfl
theorem ints_map : ∀ xs : List Int, intsOf (xs.map .int) = some xs
  | [] => rfl
  | x :: xs => by simp [intsOf, ints_map xs]
theorem bls_map : ∀ xs : List Bool, blsOf (xs.map .bl) = some xs
  | [] => rfl
  | x :: xs => by simp [blsOf, bls_map xs]
@[simp] theorem d_sum {xs : List Int} : sumD [.lst (xs.map .int)] = .ok (.int xs.sum) := by
  show (match intsOf (xs.map .int) with | some ns => R.ok (D.int ns.sum) | none => .stk) = _
  rw [ints_map]
@[simp] theorem d_all {xs : List Bool} : allD [.lst (xs.map .bl)] = .ok (.bl (xs.all id)) := by
  show (match blsOf (xs.map .bl) with | some ns => R.ok (D.bl (ns.all id)) | none => .stk) = _
  rw [bls_map]
@[simp] theorem d_isNon {x : D} : isNon .non = true := id rfl
theorem szOk_of {n : Nat} (h : n ≤ 16777216) : szOk n = true := decide_eq_true (show n ≤ sizeLine from by unfold sizeLine; omega)
theorem smallPos_of {j : Int} (h : 0 < j) (h2 : j < 1073741824) : smallPos j = true := decide_eq_true ⟨h, h2⟩
theorem rngOk_of {j : Int} (h : -4611686018427387904 ≤ j) (h2 : j < 4611686018427387904) : rngOk j = true := decide_eq_true ⟨by omega, by omega⟩
theorem mulOk_l {i j : Int} (h : i.natAbs < 2 ^ 64) : mulOk i j = true := by
  unfold mulOk
  rw [decide_eq_true h]
  rfl
theorem mulOk_r {i j : Int} (h : j.natAbs < 2 ^ 64) : mulOk i j = true := by
  unfold mulOk
  rw [decide_eq_true h]
  simp
theorem shOk_of {i j : Int} (h : 0 ≤ j) (h2 : j ≤ 1000000) (h3 : i.natAbs < 2 ^ 64) : shOk i j = true := decide_eq_true ⟨h, h2, h3⟩
@[simp] theorem sz0 : szOk 0 = true := by decide
@[simp] theorem sz1 : szOk 1 = true := by decide
@[simp] theorem sz2 : szOk 2 = true := by decide
@[simp] theorem sz3 : szOk 3 = true := by decide
theorem atI_of {α : Type} {xs : List α} {i : Int} {j : Nat} {x : α} (hi : i = j) (h : xs[j]? = some x) : atI xs i = some x := by
  have hj : j < xs.length := (List.getElem?_eq_some_iff.mp h).1
  unfold atI ixN
  subst hi
  rw [if_pos (by omega), if_pos (by omega)]
  show xs[(j : Int).toNat]? = some x
  rw [Int.toNat_natCast, h]
theorem atI_lt {α : Type} {xs : List α} {i : Int} (h0 : 0 ≤ i) (h : i < xs.length) : atI xs i = some (xs[i.toNat]'(by omega)) :=
  atI_of (j := i.toNat) (by omega) (List.getElem?_eq_getElem (by omega))
def eqPs : List D → List D → Bool
  | [], [] => true
  | x :: xs, y :: ys => eqP x y && eqPs xs ys
  | _, _ => false
theorem eqPs_py : ∀ xs ys : List D, PyData.eqvAll (toPys xs) (toPys ys) = eqPs xs ys
  | [], [] => by simp [toPys, PyData.eqvAll, eqPs]
  | [], _ :: _ => by simp [toPys, PyData.eqvAll, eqPs]
  | _ :: _, [] => by simp [toPys, PyData.eqvAll, eqPs]
  | x :: xs, y :: ys => by simp [toPys, PyData.eqvAll, eqPs, eqP, eqPs_py xs ys]
@[simp] theorem eqP_int {i j : Int} : eqP (.int i) (.int j) = (i == j) := by simp [eqP, toPy, PyData.eqv]
@[simp] theorem eqP_bl {i j : Bool} : eqP (.bl i) (.bl j) = (i == j) := by simp [eqP, toPy, PyData.eqv]
@[simp] theorem eqP_str {i j : Str} : eqP (.str i) (.str j) = (i == j) := by simp [eqP, toPy, PyData.eqv]
@[simp] theorem eqP_tup {xs ys : List D} : eqP (.tup xs) (.tup ys) = eqPs xs ys := by simp [eqP, toPy, PyData.eqv, eqPs_py]
@[simp] theorem eqP_lst {xs ys : List D} : eqP (.lst xs) (.lst ys) = eqPs xs ys := by simp [eqP, toPy, PyData.eqv, eqPs_py]
@[simp] theorem eqPs_ints : ∀ {xs ys : List Int}, eqPs (xs.map .int) (ys.map .int) = decide (xs = ys)
  | [], [] => by simp [eqPs]
  | [], _ :: _ => by simp [eqPs]
  | _ :: _, [] => by simp [eqPs]
  | x :: xs, y :: ys => by
    have ih := eqPs_ints (xs := xs) (ys := ys)
    simp only [List.map_cons, eqPs, eqP_int, ih, List.cons.injEq]
    by_cases h : x = y <;> simp [h]
/-- a depth that the machine bears; no dict; texts that it bears -/
def Fit : Nat → D → Prop
  | _, .non => True
  | _, .bl _ => True
  | _, .int _ => True
  | _, .str x => PyData.strOk x = true
  | n + 1, .tup ds => ∀ d ∈ ds, Fit n d
  | n + 1, .lst ds => ∀ d ∈ ds, Fit n d
  | n + 1, .ftu ds => ∀ d ∈ ds, Fit n d
  | _, _ => False
theorem fits_py {n : Nat} : ∀ {ds : List D}, (∀ d ∈ ds, (toPy d).canLay0 = true ∧ (toPy d).depth ≤ n) → PyData.canLayAll0 (toPys ds) = true ∧ PyData.depthAll (toPys ds) ≤ n
  | [], _ => by simp [toPys, PyData.canLayAll0, PyData.depthAll]
  | d :: ds, h => by
    have h1 := h d (by simp)
    have h2 := fits_py (ds := ds) fun e he => h e (by simp [he])
    simp only [toPys, PyData.canLayAll0, PyData.depthAll, h1.1, h2.1, Bool.and_self, true_and]
    omega
theorem fit_py : ∀ {n : Nat} {d : D}, Fit n d → (toPy d).canLay0 = true ∧ (toPy d).depth ≤ n
  | n, .non, _ => by simp [toPy, PyData.canLay0, PyData.depth]
  | n, .bl _, _ => by simp [toPy, PyData.canLay0, PyData.depth]
  | n, .int _, _ => by simp [toPy, PyData.canLay0, PyData.depth]
  | n, .str x, h => by
    have h : PyData.strOk x = true := by cases n <;> exact h
    simp [toPy, PyData.canLay0, PyData.depth, h]
  | 0, .tup ds, h => h.elim
  | 0, .lst ds, h => h.elim
  | n + 1, .tup ds, h => by
    have h : ∀ d ∈ ds, Fit n d := h
    have := fits_py fun d hd => fit_py (h d hd)
    simp only [toPy, PyData.canLay0, PyData.depth, this.1, true_and]
    omega
  | n + 1, .lst ds, h => by
    have h : ∀ d ∈ ds, Fit n d := h
    have := fits_py fun d hd => fit_py (h d hd)
    simp only [toPy, PyData.canLay0, PyData.depth, this.1, true_and]
    omega
  | 0, .ftu ds, h => h.elim
  | n + 1, .ftu ds, h => by
    have h : ∀ d ∈ ds, Fit n d := h
    have := fits_py fun d hd => fit_py (h d hd)
    simp only [toPy, PyData.canLay0, PyData.depth, this.1, true_and]
    omega
  | n, .arg _, h => by cases n <;> exact h.elim
  | n, .dik _ _, h => by cases n <;> exact h.elim
  | n, .dit _ _, h => by cases n <;> exact h.elim
  | n, .tab _ _, h => by cases n <;> exact h.elim
theorem dOk_fit {n : Nat} {d : D} (h : Fit n d) (hn : n ≤ 64 := by decide) : dOk d = true := by
  have := fit_py h
  unfold dOk SeqAt.shaped
  rw [this.1, decide_eq_true (by omega)]
  rfl
theorem fit_ints {n : Nat} {xs : List Int} : ∀ d ∈ xs.map D.int, Fit n d := fun d h => by
  obtain ⟨x, _, rfl⟩ := List.mem_map.mp h
  cases n <;> trivial
theorem fit_int {n : Nat} {i : Int} : Fit n (.int i) := by cases n <;> trivial
theorem fit_bl {n : Nat} {i : Bool} : Fit n (.bl i) := by cases n <;> trivial
theorem fit_tupI {n : Nat} {xs : List Int} : Fit (n + 1) (.tup (xs.map D.int)) := fit_ints
theorem eqD_of {n : Nat} {x y : D} (hx : Fit n x) (hy : Fit n y) (hn : n ≤ 64 := by decide) : eqD x y = .ok (.bl (eqP x y)) := by
  unfold eqD
  rw [dOk_fit hx hn, dOk_fit hy hn]
  rfl
theorem neD_of {n : Nat} {x y : D} (hx : Fit n x) (hy : Fit n y) (hn : n ≤ 64 := by decide) : neD x y = .ok (.bl (!eqP x y)) := by
  unfold neD
  rw [dOk_fit hx hn, dOk_fit hy hn]
  rfl
@[simp] theorem eqD_int {i j : Int} : eqD (.int i) (.int j) = .ok (.bl (decide (i = j))) := by
  rw [eqD_of (n := 0) (by unfold Fit; trivial) (by unfold Fit; trivial), eqP_int]
  by_cases h : i = j <;> simp [h]
@[simp] theorem neD_int {i j : Int} : neD (.int i) (.int j) = .ok (.bl (!decide (i = j))) := by
  rw [neD_of (n := 0) (by unfold Fit; trivial) (by unfold Fit; trivial), eqP_int]
  by_cases h : i = j <;> simp [h]
theorem eqPs_refl : ∀ {ds : List D}, (∀ d ∈ ds, eqP d d = true) → eqPs ds ds = true
  | [], _ => rfl
  | d :: ds, h => by simp [eqPs, h d (by simp), eqPs_refl (ds := ds) fun e he => h e (by simp [he])]
theorem eqP_refl : ∀ {n : Nat} {d : D}, Fit n d → eqP d d = true
  | n, .non, _ => by simp [eqP, toPy, PyData.eqv]
  | n, .bl _, _ => by simp
  | n, .int _, _ => by simp
  | n, .str x, h => by simp
  | 0, .tup ds, h => h.elim
  | 0, .lst ds, h => h.elim
  | n + 1, .tup ds, h => by
    have h : ∀ d ∈ ds, Fit n d := h
    rw [eqP_tup]
    exact eqPs_refl fun d hd => eqP_refl (h d hd)
  | n + 1, .lst ds, h => by
    have h : ∀ d ∈ ds, Fit n d := h
    rw [eqP_lst]
    exact eqPs_refl fun d hd => eqP_refl (h d hd)
  | 0, .ftu ds, h => h.elim
  | n + 1, .ftu ds, h => by
    have h : ∀ d ∈ ds, Fit n d := h
    rw [show eqP (.ftu ds) (.ftu ds) = eqPs ds ds from eqP_tup]
    exact eqPs_refl fun d hd => eqP_refl (h d hd)
  | n, .arg _, h => by cases n <;> exact h.elim
  | n, .dik _ _, h => by cases n <;> exact h.elim
  | n, .dit _ _, h => by cases n <;> exact h.elim
  | n, .tab _ _, h => by cases n <;> exact h.elim
theorem eqD_refl {n : Nat} {x : D} (hx : Fit n x) (hn : n ≤ 64 := by decide) : eqD x x = .ok (.bl true) := by rw [eqD_of hx hx hn, eqP_refl hx]
theorem neD_refl {n : Nat} {x : D} (hx : Fit n x) (hn : n ≤ 64 := by decide) : neD x x = .ok (.bl false) := by rw [neD_of hx hx hn, eqP_refl hx]; rfl
def ChkL (O W : List Nat) : Nat → Env → Env → Prop
  | _, _, [] => True
  | j, x :: xs, y :: ys => (y = none ∨ (y = x ∧ j ∉ W) ∨ (∃ d, y = some d ∧ ((j ∈ O ∧ d.shallow = true) ∨ d.nl = true))) ∧ ChkL O W (j + 1) xs ys
  | _, [], _ :: _ => False
theorem ChkL.at {O W : List Nat} : ∀ {ρ ρ' : Env} {k j : Nat} {d : D}, ChkL O W k ρ ρ' → ρ'[j]? = some (some d) → (ρ[j]? = some (some d) ∧ k + j ∉ W) ∨ (k + j ∈ O ∧ d.shallow = true) ∨ d.nl = true
  | _, [], _, _, _, _, e => by simp at e
  | [], _ :: _, _, _, _, h, _ => h.elim
  | x :: xs, y :: ys, k, 0, d, h, e => by
    simp at e
    subst e
    rcases h.1 with h | ⟨h, w⟩ | ⟨d', h, w⟩
    · cases h
    · exact .inl ⟨by simp [h], w⟩
    · cases h; exact .inr w
  | x :: xs, y :: ys, k, j + 1, d, h, e => by
    have := ChkL.at (j := j) h.2 (by simpa using e)
    rw [show k + (j + 1) = k + 1 + j by omega]
    simpa using this
@[simp] theorem e_wsf {d : D} : Hd.ws (.fr d) = [] := id rfl
@[simp] theorem e_wsv {d : D} : Hd.ws (.vl d) = [] := id rfl
@[simp] theorem e_wso {i : Nat} : Hd.ws (.ow i) = [i] := id rfl
def shAt (i : Nat) (ρ : Y.Env) : Bool := match ρ[i]? with | some (some d) => d.shallow | _ => true
@[simp] theorem chkO_w1 {O : List Nat} {i : Nat} {ρ : Y.Env} (hi : i ∈ O) (h : shAt i ρ = true) : chkO O [i] ρ ρ = .ok () := by
  unfold chkO
  rw [if_pos]
  intro j d e
  by_cases c : j = i
  · subst c
    unfold shAt at h
    rw [e] at h
    exact .inr (.inl ⟨hi, h⟩)
  · exact .inl ⟨e, by simpa using c⟩
@[simp] theorem shL {ds : List D} : D.shallow (.lst ds) = nls ds := id rfl
@[simp] theorem nls0 : nls [] = true := by simp [nls]
@[simp] theorem nls1 {d : D} {ds : List D} : nls (d :: ds) = (d.nl && nls ds) := by simp [nls]
@[simp] theorem nlI {i : Int} : D.nl (.int i) = true := by simp [D.nl]
@[simp] theorem nlB {i : Bool} : D.nl (.bl i) = true := by simp [D.nl]
@[simp] theorem nlS {i : Str} : D.nl (.str i) = true := by simp [D.nl]
@[simp] theorem nlN : D.nl .non = true := by simp [D.nl]
@[simp] theorem nlT {ds : List D} : D.nl (.tup ds) = nls ds := by simp [D.nl]
@[simp] theorem owL {ds : List D} : D.ownable (.lst ds) = true := id rfl
theorem nls_all : ∀ {ds : List D}, (∀ d ∈ ds, d.nl = true) → nls ds = true
  | [], _ => by simp
  | d :: ds, h => by simp [h d (by simp), nls_all fun e he => h e (List.mem_cons_of_mem _ he)]
@[simp] theorem nls_ints {xs : List Int} : nls (xs.map D.int) = true := nls_all fun d h => by
  obtain ⟨x, _, rfl⟩ := List.mem_map.mp h
  simp
/-- one turn of a comprehension; of a for -/
def turnC (tm : GM) (t : BM) (e : EM) (vs : List Nat) (x : D) (ρ : Env) : R (Option D × Env) :=
  tm x ρ >>= fun ρ1 => t ρ1 >>= fun p => if p.1 = true then (e p.2 >>= fun q => q.1.v >>= fun d => R.ok (some d, wipeE q.2 vs)) else R.ok (none, wipeE p.2 vs)
def turnF (tm : GM) (body : SM) (vs : List Nat) (x : D) (ρ : Env) : R (Fl × Env) :=
  (tm x ρ).nox >>= fun ρ1 => body ρ1 >>= fun p => match p.1 with | .nx => R.ok (.nx, wipeE p.2 vs) | .ct => R.ok (.nx, wipeE p.2 vs) | f => R.ok (f, p.2)
theorem comp_cons {tm : GM} {t : BM} {e : EM} {vs ws : List Nat} {x : D} {xs ys : List D} {ρ ρ' ρf : Env} {o : Option D} (h : turnC tm t e vs x ρ = .ok (o, ρ')) (hw : ∀ w ∈ ws, ρ'[w]? = ρ[w]?) (h2 : cCompL tm t e vs ws xs ρ' = .ok (ys, ρf)) : cCompL tm t e vs ws (x :: xs) ρ = .ok (o.toList ++ ys, ρf) := by
  have ck : chk ws ρ ρ' = .ok () := by unfold chk; rw [if_pos hw]
  unfold turnC at h
  obtain ⟨ρ1, e1, h⟩ := R.ok_of h
  obtain ⟨⟨k, ρ2⟩, e3, h⟩ := R.ok_of h
  unfold cCompL
  rw [e1]
  simp only [R.bind_ok]
  rw [e3]
  cases k with
  | false =>
    have h : R.ok (none, wipeE ρ2 vs) = R.ok (o, ρ') := h
    cases h
    simp only [R.bind_ok, Bool.false_eq_true, if_false]
    rw [ck]
    exact h2
  | true =>
    have h : (e ρ2 >>= fun q => q.1.v >>= fun d => R.ok (some d, wipeE q.2 vs)) = R.ok (o, ρ') := h
    obtain ⟨⟨hd, ρ3⟩, e4, h⟩ := R.ok_of h
    obtain ⟨d, e5, h⟩ := R.ok_of h
    cases h
    simp only [R.bind_ok, if_true]
    rw [e4]
    simp only [R.bind_ok]
    rw [show hd.v = _ from e5]
    simp only [R.bind_ok]
    rw [ck]
    simp only [R.bind_ok]
    rw [h2]
    rfl
theorem for_cons {tm : GM} {body : SM} {vs ws : List Nat} {x : D} {xs : List D} {ρ ρ' : Env} {r : R (Fl × Env)} (h : turnF tm body vs x ρ = .ok (.nx, ρ')) (hw : ∀ w ∈ ws, ρ'[w]? = ρ[w]?) (h2 : forL tm body vs ws xs ρ' = r) : forL tm body vs ws (x :: xs) ρ = r := by
  have ck : chk ws ρ ρ' = .ok () := by unfold chk; rw [if_pos hw]
  unfold turnF at h
  obtain ⟨ρ1, e1, h⟩ := R.ok_of h
  obtain ⟨⟨f, ρ2⟩, e3, h⟩ := R.ok_of h
  unfold forL
  rw [e1]
  simp only [R.bind_ok]
  rw [e3]
  cases f with
  | nx =>
    have h : R.ok (Fl.nx, wipeE ρ2 vs) = R.ok (Fl.nx, ρ') := h
    cases h
    simp only [R.bind_ok]
    rw [ck]
    exact h2
  | ct =>
    have h : R.ok (Fl.nx, wipeE ρ2 vs) = R.ok (Fl.nx, ρ') := h
    cases h
    simp only [R.bind_ok]
    rw [ck]
    exact h2
  | bk => cases h
  | rt _ => cases h
/-- the loop ends in this turn -/
theorem for_rt {tm : GM} {body : SM} {vs ws : List Nat} {x : D} {xs : List D} {ρ ρ' : Env} {hd : Hd} (h : turnF tm body vs x ρ = .ok (.rt hd, ρ')) : forL tm body vs ws (x :: xs) ρ = .ok (.rt hd, ρ') := by
  unfold turnF at h
  obtain ⟨ρ1, e1, h⟩ := R.ok_of h
  obtain ⟨⟨f, ρ2⟩, e3, h⟩ := R.ok_of h
  unfold forL
  rw [e1]
  simp only [R.bind_ok]
  rw [e3]
  cases f with
  | nx => cases h
  | ct => cases h
  | bk => cases h
  | rt _ => cases h; rfl
section
variable {α : Type}
/-- the yields of a comprehension and the state behind it -/
def yields {S : Type} (next : S → α → S) (out : S → α → Option D) : List α → S → List D × S
  | [], s => ([], s)
  | x :: xs, s => ((out s x).toList ++ (yields next out xs (next s x)).1, (yields next out xs (next s x)).2)
/-- a comprehension that changes nothing: f is what it yields -/
theorem comp_map {tm : GM} {t : BM} {e : EM} {vs ws : List Nat} {ρ : Env} (F f : α → D) : ∀ (xs : List α),
    (∀ x ∈ xs, turnC tm t e vs (F x) ρ = .ok (some (f x), ρ)) → cCompL tm t e vs ws (xs.map F) ρ = .ok (xs.map f, ρ)
  | [], _ => rfl
  | x :: xs, h => comp_cons (h x (by simp)) (fun _ _ => rfl) (comp_map F f xs fun y hy => h y (by simp [hy]))
/-- .. with a test p, yields f -/
theorem comp_filter {tm : GM} {t : BM} {e : EM} {vs ws : List Nat} {ρ : Env} (F : α → D) (p : α → Bool) (f : α → D) : ∀ (xs : List α),
    (∀ x ∈ xs, turnC tm t e vs (F x) ρ = .ok (if p x = true then some (f x) else none, ρ)) → cCompL tm t e vs ws (xs.map F) ρ = .ok ((xs.filter p).map f, ρ)
  | [], _ => rfl
  | x :: xs, h => by
    have := comp_cons (ws := ws) (h x (by simp)) (fun _ _ => rfl) (comp_filter F p f xs fun y hy => h y (by simp [hy]))
    rw [List.map_cons, this]
    cases hp : p x with
    | false => rw [List.filter_cons_of_neg (by simp [hp])]; rfl
    | true => rw [List.filter_cons_of_pos hp]; rfl
/-- for: something that holds of what stands -/
theorem for_inv {tm : GM} {body : SM} {vs ws : List Nat} (F : α → D) (I : Env → Prop) : ∀ (xs : List α) (ρ : Env), I ρ →
    (∀ ρ x, I ρ → x ∈ xs → ∃ ρ', turnF tm body vs (F x) ρ = .ok (.nx, ρ') ∧ I ρ' ∧ (∀ w ∈ ws, ρ'[w]? = ρ[w]?)) →
    ∃ ρ', forL tm body vs ws (xs.map F) ρ = .ok (.nx, ρ') ∧ I ρ'
  | [], ρ, hs, _ => ⟨ρ, rfl, hs⟩
  | x :: xs, ρ, hs, h => by
    obtain ⟨ρ1, e1, e3, hw⟩ := h ρ x hs (by simp)
    obtain ⟨ρ', e4, h4⟩ := for_inv (body := body) (tm := tm) (ws := ws) F I xs ρ1 e3 fun s y hs hy => h s y hs (by simp [hy])
    exact ⟨ρ', for_cons e1 hw e4, h4⟩
/-- for: by the turn's number -/
theorem for_idx {tm : GM} {body : SM} {vs ws : List Nat} (F : α → D) : ∀ (xs : List α) (rho : Nat → Env),
    (∀ i (h : i < xs.length), (∀ w ∈ ws, (rho (i + 1))[w]? = (rho i)[w]?) ∧ turnF tm body vs (F xs[i]) (rho i) = .ok (.nx, rho (i + 1))) → forL tm body vs ws (xs.map F) (rho 0) = .ok (.nx, rho xs.length)
  | [], rho, _ => rfl
  | x :: xs, rho, h => by
    have h0 := h 0 (by simp)
    have ih := for_idx F xs (fun i => rho (i + 1)) fun i hi => h (i + 1) (by simp; omega)
    exact for_cons h0.2 h0.1 ih
theorem for_rng {tm : GM} {body : SM} {vs ws : List Nat} {n : Nat} (F : Nat → D) (rho : Nat → Env) (h : ∀ i, i < n → (∀ w ∈ ws, (rho (i + 1))[w]? = (rho i)[w]?) ∧ turnF tm body vs (F i) (rho i) = .ok (.nx, rho (i + 1))) : forL tm body vs ws ((List.range n).map F) (rho 0) = .ok (.nx, rho n) := by
  have := for_idx (tm := tm) (body := body) (vs := vs) (ws := ws) F (List.range n) rho fun i hi => by
    rw [List.getElem_range]
    exact h i (by simpa using hi)
  rwa [List.length_range] at this
/-- a comprehension whose turns change what stands: something of each yield -/
theorem comp_ex {S β : Type} {tm : GM} {t : BM} {e : EM} {vs ws : List Nat} (F : α → D) (G : β → D) (rho : S → Env) (P : β → Prop) : ∀ (xs : List α) (s : S),
    (∀ s x, x ∈ xs → ∃ y s', turnC tm t e vs (F x) (rho s) = .ok (some (G y), rho s') ∧ P y ∧ (∀ w ∈ ws, (rho s')[w]? = (rho s)[w]?)) →
    ∃ (ys : List β) (s' : S), cCompL tm t e vs ws (xs.map F) (rho s) = .ok (ys.map G, rho s') ∧ ys.length = xs.length ∧ ∀ y ∈ ys, P y
  | [], s, _ => ⟨[], s, rfl, rfl, by simp⟩
  | x :: xs, s, h => by
    obtain ⟨y, s1, e1, p1, w1⟩ := h s x (by simp)
    obtain ⟨ys, s2, e2, l2, p2⟩ := comp_ex F G rho P xs s1 fun s y hy => h s y (by simp [hy])
    exact ⟨y :: ys, s2, comp_cons e1 w1 e2, by simp [l2], by simpa using ⟨p1, p2⟩⟩
theorem comp_exF {S : Type} {tm : GM} {t : BM} {e : EM} {vs ws : List Nat} (F G : α → D) (rho : S → Env) : ∀ (xs : List α) (s : S),
    (∀ s x, x ∈ xs → ∃ b s', turnC tm t e vs (F x) (rho s) = .ok (if b = true then some (G x) else none, rho s') ∧ (∀ w ∈ ws, (rho s')[w]? = (rho s)[w]?)) →
    ∃ (ys : List α) (s' : S), cCompL tm t e vs ws (xs.map F) (rho s) = .ok (ys.map G, rho s') ∧ ys.Sublist xs
  | [], s, _ => ⟨[], s, rfl, List.Sublist.slnil⟩
  | x :: xs, s, h => by
    obtain ⟨b, s1, e1, w1⟩ := h s x (by simp)
    obtain ⟨ys, s2, e2, l2⟩ := comp_exF F G rho xs s1 fun s y hy => h s y (by simp [hy])
    have := comp_cons e1 w1 e2
    cases b with
    | true => exact ⟨x :: ys, s2, this, l2.cons₂ x⟩
    | false => exact ⟨ys, s2, this, l2.cons x⟩
end
end Y

set_option Elab.async false
set_option linter.all false
set_option maxRecDepth 100000
namespace Y
open PySem PySem.Spec PyProof.Rows L2
section
variable {K : PySem.W.Frag} {X : Cx} {P0 : Pr} {O W U : List Nat} {E : EK} {a b e : Expr} {es : List Expr} {ma mb : EM} {ms : AM} {pos : Pos}
theorem Keep.ownW {i : Nat} {l : Addr} {o : HO} {σ : St} {H H1 : Hp} (k : Keep W σ H H1) (hi : i ∈ W) (ha : σ[i]? = Option.some (Option.some (V.ref l))) : Keep W σ H (upd H1 l o) where
  keep := fun b u e n => by
    rw [upd_ne fun (z : b = l) => n ⟨i, hi, by rw [z]; exact ha⟩]
    exact k.keep b u e n
  some := fun b e => by
    by_cases hb : b = l
    · rw [hb, upd_same]; intro z; cases z
    · rw [upd_ne hb]; exact k.some b e
theorem Reps.erase {H : Hp} {P : Pr} : ∀ {ds : List D} {vs : List V} (k : Nat), Reps K H ds P vs → Reps K H (ds.eraseIdx k) P (vs.eraseIdx k)
  | [], _, k, h => by rw [h.nil_iff]; simp; exact Reps.nil
  | d :: ds, _, 0, h => by
    obtain ⟨v, ws, rfl, h1, h2⟩ := h.cons_iff
    exact h2
  | d :: ds, _, k + 1, h => by
    obtain ⟨v, ws, rfl, h1, h2⟩ := h.cons_iff
    exact Reps.cons h1 (Reps.erase k h2)
end
end Y

set_option Elab.async false
set_option linter.all false
set_option maxRecDepth 100000
set_option maxHeartbeats 4000000
namespace Y
open PySem PySem.Spec PyProof.Rows L2
def TupV (h : Heap) (v : Value) (ns : List Int) : Prop := ∃ a o its n, v = .ref a ∧ h.get? a = some o ∧ o.cls = .type "tuple" ∧ o.data = .seq its n ∧ IntsAre its.toList ns
theorem TupV.at {h g : Heap} {v : Value} {ns : List Int} (p : TupV h v ns) (k : ∀ b o, h.get? b = some o → o.cls = .type "tuple" → g.get? b = some o) : TupV g v ns :=
  let ⟨a, o, its, n, e, ho, c, d, i⟩ := p
  ⟨a, o, its, n, e, k _ _ ho c, c, d, i⟩
section
variable {prog : Program} {w : World} {A : Around} {E : Value → Shared → Prop} {s : Shared}
end
section
variable {X : Cx}
end
end Y

set_option Elab.async false
set_option linter.all false
set_option maxRecDepth 100000
namespace Y
open PySem PySem.Spec PyProof.Rows L2
theorem ltC_cons {x y : Nat} {xs ys : List Nat} : ltCps (x :: xs) (y :: ys) = true ↔ x < y ∨ (x = y ∧ ltCps xs ys = true) := by simp [ltCps]
theorem ltC_asym : ∀ {a b : List Nat}, ltCps a b = true → ltCps b a = false
  | [], [], h => by simp [ltCps] at h
  | [], _ :: _, _ => by simp [ltCps]
  | _ :: _, [], h => by simp [ltCps] at h
  | x :: xs, y :: ys, h => by
    rw [← Bool.not_eq_true, ltC_cons]
    rcases ltC_cons.mp h with h2 | ⟨rfl, h2⟩
    · rintro (z | ⟨z, _⟩) <;> omega
    · have := ltC_asym h2
      rintro (z | ⟨_, z⟩)
      · omega
      · rw [this] at z; cases z
theorem ltC_tr : ∀ {a b c : List Nat}, ltCps a b = true → ltCps b c = true → ltCps a c = true
  | [], _ :: _, _ :: _, _, _ => by simp [ltCps]
  | [], [], _, h, _ => by simp [ltCps] at h
  | _ :: _, [], _, h, _ => by simp [ltCps] at h
  | _, _ :: _, [], _, h => by simp [ltCps] at h
  | x :: xs, y :: ys, z :: zs, h1, h2 => by
    rw [ltC_cons] at *
    rcases h1 with h1 | ⟨rfl, h1⟩
    · rcases h2 with h2 | ⟨rfl, h2⟩
      · exact .inl (by omega)
      · exact .inl h1
    · rcases h2 with h2 | ⟨rfl, h2⟩
      · exact .inl h2
      · exact .inr ⟨rfl, ltC_tr h1 h2⟩
theorem ltC_tot : ∀ {a b : List Nat}, ltCps a b = false → ltCps b a = false → a = b
  | [], [], _, _ => rfl
  | [], _ :: _, h, _ => by simp [ltCps] at h
  | _ :: _, [], _, h => by simp [ltCps] at h
  | x :: xs, y :: ys, h1, h2 => by
    rw [← Bool.not_eq_true, ltC_cons] at h1 h2
    have e : x = y := by omega
    subst e
    rw [ltC_tot (a := xs) (b := ys) (Bool.not_eq_true _ ▸ fun z => h1 (.inr ⟨rfl, z⟩)) (Bool.not_eq_true _ ▸ fun z => h2 (.inr ⟨rfl, z⟩))]
theorem ltC_ntr {a b c : List Nat} (h1 : ltCps b a = false) (h2 : ltCps c b = false) : ltCps c a = false := by
  cases e : ltCps c a with
  | false => rfl
  | true =>
    cases e2 : ltCps a b with
    | true => rw [ltC_tr e e2] at h2; cases h2
    | false => rw [ltC_tot e2 h1] at e; rw [e] at h2; cases h2
def ltStr (x y : Str) : Bool := ltCps x.cps.toList y.cps.toList
theorem ltStr_tot {x y : Str} (h1 : ltStr x y = false) (h2 : ltStr y x = false) : x = y := by
  have e := ltC_tot h1 h2
  cases x; cases y
  simp at e
  rw [e]
def sortS (xs : List Str) : List Str := xs.mergeSort fun a b => !ltStr b a
theorem sortS_perm (xs : List Str) : (sortS xs).Perm xs := List.mergeSort_perm _ _
theorem sortS_pw (xs : List Str) : (sortS xs).Pairwise fun a b => ltStr b a = false := by
  have := List.pairwise_mergeSort (le := fun a b : Str => !ltStr b a) (fun a b c h1 h2 => by
    simp only [Bool.not_eq_true'] at *
    exact ltC_ntr h1 h2) (fun a b => by
    cases e : ltStr b a with
    | false => rfl
    | true =>
      have := ltC_asym e
      simp [ltStr, this]) xs
  exact this.imp fun h => by simpa using h
theorem sortS_of {xs ys : List Str} (p : ys.Perm xs) (h : ys.Pairwise fun a b => ltStr b a = false) : ys = sortS xs :=
  List.Perm.eq_of_pairwise (le := fun a b : Str => ltStr b a = false) (fun a b _ _ h1 h2 => ltStr_tot h2 h1) h (sortS_pw xs) (p.trans (sortS_perm xs).symm)
theorem rising_pw : ∀ {ys : List Str}, sortedS ys = true → ys.Pairwise fun a b => ltStr b a = false
  | [], _ => List.Pairwise.nil
  | [x], _ => List.pairwise_singleton _ _
  | x :: y :: r, h => by
    simp only [sortedS, risingS, Bool.and_eq_true, Bool.not_eq_true'] at h
    have ih := rising_pw (ys := y :: r) h.2
    refine List.pairwise_cons.mpr ⟨fun z hz => ?_, ih⟩
    rcases List.mem_cons.mp hz with rfl | hz
    · exact h.1
    · exact ltC_ntr h.1 ((List.pairwise_cons.mp ih).1 z hz)
theorem reps_strs {K : PySem.W.Frag} {H : Hp} {P : Pr} : ∀ ns : List Str, Reps K H (ns.map D.str) P (ns.map V.str)
  | [] => Reps.nil
  | n :: ns => Reps.cons (by unfold Rep; rfl) (reps_strs ns)
section
variable {K : PySem.W.Frag} {X : Cx}
end
theorem strs_map : ∀ xs : List Str, strsOf (xs.map .str) = some xs
  | [] => rfl
  | x :: xs => by simp [strsOf, strs_map xs]
end Y

set_option Elab.async false
set_option linter.all false
set_option maxRecDepth 100000
namespace Y
open PySem PySem.Spec PyProof.Rows L2
section
variable {X : Cx} {P0 : Pr} {O W U : List Nat} {E : EK} {c : Expr} {pos : Pos} {m : SM}
end
end Y

set_option Elab.async false
set_option linter.all false
set_option maxRecDepth 100000
namespace Y
open PySem PySem.Spec PyProof.Rows L2
section
variable {X : Cx} {P0 : Pr} {O W U : List Nat} {E : EK} {a e : Expr} {ma mb : EM} {pos : Pos}
theorem ce_globI {x : Str} {i : Int} (h : ∃ t, X.mg x = some (.int i t)) (hg : Gl X x := by rfl) (hd : (x == ("__debug__" : Str)) = false := by decide) : CEx X P0 O W E (.Name x pos) (cC (.int i)) :=
  h.elim fun t ht => ce_glob (v := .int i) (fun _ _ => by unfold Rep; rfl) rfl ⟨t, rfl⟩ ht hg hd
theorem ce_globS {x : Str} {i : Str} (h : ∃ t, X.mg x = some (.str i t)) (hg : Gl X x := by rfl) (hd : (x == ("__debug__" : Str)) = false := by decide) : CEx X P0 O W E (.Name x pos) (cC (.str i)) :=
  h.elim fun t ht => ce_glob (v := .str i) (fun _ _ => by unfold Rep; rfl) rfl ⟨t, rfl⟩ ht hg hd
def joinD : D → D → R D
  | .str a, .lst ds => match strsOf ds with
    | some ys => if (ys.map (·.length)).sum + ys.length * a.length ≤ 16777216 then .ok (.str (Txt.join a ys)) else .stk
    | none => .stk
  | .str a, .tup ds => match strsOf ds with
    | some ys => if (ys.map (·.length)).sum + ys.length * a.length ≤ 16777216 then .ok (.str (Txt.join a ys)) else .stk
    | none => .stk
  | _, _ => .stk
def cJoin (a b : EM) : EM := fun ρ => do
  let (h1, ρ1) ← a ρ
  let x ← h1.v.nox
  match x with
  | .str s => do
    let (h2, ρ2) ← b ρ1
    let y ← (h2.d ρ2).nox
    let z ← (joinD (.str s) y).nox
    pure (.fr z, ρ2)
  | _ => .stk
theorem ce_join {apos : Pos} (ha : CEx X P0 O W E a ma) (hb : CEx X P0 O W E e mb) (hs : starEach [e] X.env = [(false, eval e X.env)] := by rfl) (hbase : attributeBase a "join" X.env (eval a X.env) = eval a X.env := by rfl) (hline : (apos.endLine == pos.line) = true := by rfl) :
    CEx X P0 O W E (.Call (.Attribute a "join" apos) [e] [] pos) (cJoin ma mb) := PE.imp (pe_join ha hb hs hbase hline) fun σ H Q ⟨ρ, S, h⟩ => by
  refine ⟨ρ, S, h.of_bind.mono fun ⟨h1, ρ1⟩ q v H1 S1 k1 r1 => ?_⟩
  obtain ⟨d, e1, q⟩ := q.of_nox
  have rd := r1.v e1
  cases d <;> first | (exact q.elim) | skip
  rename_i s
  unfold Rep at rd
  subst rd
  have q : Res E W σ H (mb ρ1 >>= fun p => (p.1.d p.2).nox >>= fun y => (joinD (.str s) y).nox >>= fun z => R.ok (Hd.fr z, p.2)) _ := q
  refine ⟨⟨s, rfl⟩, ρ1, S1, (q.of_bind.keep k1).mono fun ⟨h2, ρ2⟩ q2 w H2 S2 k2 r2 => ?_⟩
  obtain ⟨y, e2, q2⟩ := q2.of_nox
  obtain ⟨z, e3, q2⟩ := q2.of_nox
  have rw2 := HdR.d S2 r2 e2
  have o := out_of (K := X.K) S2 (k1.trans k2) q2
  unfold joinD at e3
  cases y <;> first | (cases e3; done) | skip
  · rename_i ds
    have rt : Rep X.K H2 (.tup ds) _ w := rw2
    unfold Rep at rt
    obtain ⟨b, ws, rfl, t1, t2⟩ := rt
    simp only at e3
    cases es : strsOf ds with
    | none => rw [es] at e3; cases e3
    | some ys =>
      rw [es] at e3
      simp only at e3
      by_cases c : (ys.map (·.length)).sum + ys.length * s.length ≤ 16777216
      · rw [if_pos c] at e3
        cases e3
        rw [strs_rep es t2] at t1
        exact ⟨s, b, ys, rfl, rfl, .inr (SqT.of t1), c, o.flat (by unfold Rep; rfl) rfl⟩
      · rw [if_neg c] at e3; cases e3
  · rename_i ds
    obtain ⟨b, ws, rfl, t1, t2⟩ := rw2
    simp only at e3
    cases es : strsOf ds with
    | none => rw [es] at e3; cases e3
    | some ys =>
      rw [es] at e3
      simp only at e3
      by_cases c : (ys.map (·.length)).sum + ys.length * s.length ≤ 16777216
      · rw [if_pos c] at e3
        cases e3
        rw [strs_rep es t2] at t1
        exact ⟨s, b, ys, rfl, rfl, .inl (SqL.of t1), c, o.flat (by unfold Rep; rfl) rfl⟩
      · rw [if_neg c] at e3; cases e3
end
end Y

set_option Elab.async false
set_option linter.all false
set_option maxRecDepth 100000
namespace Y
open PySem PySem.Spec PyProof.Rows L2
section
variable {X : Cx} {P0 : Pr} {O W U : List Nat} {E : EK} {e : Expr} {ma : EM} {pos : Pos}
end
variable {ρ : Y.Env}
end Y

set_option Elab.async false
set_option linter.all false
set_option maxRecDepth 100000
namespace Y
open PySem PySem.Spec PyProof.Rows L2
section
variable {X : Cx}
end
end Y

set_option Elab.async false
set_option linter.all false
set_option maxRecDepth 100000
namespace Y
open PySem PySem.Spec PyProof.Rows L2
section
variable {K : PySem.W.Frag} {X : Cx} {P0 : Pr} {O W U : List Nat} {E : EK} {e : Expr} {ma : EM} {pos : Pos}
end
variable {ρ : Y.Env}
end Y

set_option Elab.async false
set_option linter.all false
set_option maxRecDepth 100000
namespace Y
open PySem PySem.Spec PyProof.Rows L2
variable {ρ : Y.Env}
@[simp] theorem e_join {a b : EM} : cJoin a b ρ = (a ρ >>= fun p => p.1.v.nox >>= fun x => match x with | .str s => (b p.2 >>= fun q => (q.1.d q.2).nox >>= fun y => (joinD (.str s) y).nox >>= fun z => R.ok (.fr z, q.2)) | _ => .stk) := by
  unfold cJoin; congr
end Y

set_option Elab.async false
set_option linter.all false
set_option maxRecDepth 100000
namespace Y
open PySem PySem.Spec PyProof.Rows L2
inductive Kd where
  | l (a : Addr) | t (a : Addr) | s (z : Str)
def strV (z : Str) : List V := z.cps.toList.map fun c => V.str ⟨#[c]⟩
def Kd.has (K : PySem.W.Frag) (H : Hp) : Kd → List V → Prop
  | .l a, xs => SqL K H a xs
  | .t a, xs => SqT K H a xs
  | .s z, xs => xs = strV z
def Kd.val : Kd → V
  | .l a => .ref a
  | .t a => .ref a
  | .s z => .str z
def Kd.lo : Kd → Nat → Prop
  | .l a, n => a < n
  | .t a, n => a < n
  | .s _, _ => True
/-- the iterator it over it, i items told -/
def Kd.at (it : Addr) (tk : Tok) : Kd → Nat → Heap → Prop
  | .l a, i, h => h.IsListIter it a i
  | .t a, i, h => h.IsTupleIter it a i
  | .s z, i, h => h.IsStrIter it (strIterType z) z tk i
theorem Kd.at_ob {k : Kd} {it : Addr} {tk : Tok} {i : Nat} {h : Heap} (x : k.at it tk i h) : ∃ o, h.get? it = some o ∧ ∀ v, o.data ≠ .cell v := by
  cases k with
  | l a => obtain ⟨o, e, _, d⟩ := x; exact ⟨o, e, fun v q => by rw [d] at q; cases q⟩
  | t a => obtain ⟨o, e, _, d⟩ := x; exact ⟨o, e, fun v q => by rw [d] at q; cases q⟩
  | s z => obtain ⟨o, e, _, d⟩ := x; exact ⟨o, e, fun v q => by rw [d] at q; cases q⟩
theorem Kd.at_k {k : Kd} {it : Addr} {tk : Tok} {i : Nat} {h h' : Heap} (x : k.at it tk i h) (q : ∀ o, h.get? it = some o → h'.get? it = some o) : k.at it tk i h' := by
  cases k with
  | l a => obtain ⟨o, e, r⟩ := x; exact ⟨o, q o e, r⟩
  | t a => obtain ⟨o, e, r⟩ := x; exact ⟨o, q o e, r⟩
  | s z => obtain ⟨o, e, r⟩ := x; exact ⟨o, q o e, r⟩
theorem vals_at : ∀ {xs : List V} {us : List Value} {j : Nat} {u : Value}, Vals xs us → us[j]? = some u → ∃ x, xs[j]? = some x ∧ RelV x u
  | _, _, _, _, .nil, e => by simp at e
  | x :: xs, _, 0, _, .cons r _, e => by simp at e; subst e; exact ⟨x, rfl, r⟩
  | x :: xs, _, j + 1, _, .cons _ t, e => by simpa using vals_at (j := j) t (by simpa using e)
section
variable {X : Cx} {pins : List (Addr × Obj)} {σ : St} {H : Hp} {s : Shared}
theorem Kd.inj {k : Kd} {xs ys : List V} (I : Inv X pins σ H s) (h : k.has X.K H xs) (h2 : k.has X.K H ys) : xs = ys := by
  cases k with
  | l a => exact I.list_inj h h2
  | t a => exact I.tuple_inj h h2
  | s z => exact Eq.trans h (Eq.symm h2)
/-- what an iterator over it draws -/
structure Kd.Drw (X : Cx) (A : Around) (k : Kd) (it : Addr) (tk : Tok) (xs : List V) (fp : List Addr) (P : Nat → Value → Prop) (S : Nat → Heap → Prop) : Prop where
  dr : Draws X.prog X.w A it fp xs.length P S
  mem : it ∈ fp
  lo : ∀ b ∈ fp, b = it ∨ ∃ a, b = a ∧ (k = .l a ∨ k = .t a)
  back : ∀ j h, S j h → k.at it tk j h
  item : ∀ j v, P j v → ∃ x, xs[j]? = some x ∧ RelV x v
theorem Kd.draw {A : Around} {k : Kd} {it : Addr} {tk : Tok} {i : Nat} {xs : List V} (hh : A.handled = none) (I : Inv X pins σ H s) (h : k.has X.K H xs) (lo : ∀ a, k = .l a ∨ k = .t a → a ≠ it) (st : k.at it tk i s.heap) : ∃ fp P S, Kd.Drw X A k it tk xs fp P S ∧ S i s.heap := by
  cases k with
  | l a =>
    obtain ⟨its, rv, p, _⟩ := I.list h
    have hl : its.toArray.size = xs.length := by simp [rv.length]
    have D := Draws.list (prog := X.prog) (w := X.w) hh it a (lo a (.inl rfl)) its.toArray
    rw [hl] at D
    exact ⟨_, _, _, ⟨D, by simp, fun b hb => by simpa [eq_comm] using hb, fun j h z => z.1, fun j v z => by
      rw [List.getElem?_toArray] at z
      exact vals_at rv z⟩, st, p.isList⟩
  | t a =>
    obtain ⟨its, rv, p, _⟩ := I.tuple h
    have hl : its.toArray.size = xs.length := by simp [rv.length]
    have D := Draws.tuple (prog := X.prog) (w := X.w) hh it a (lo a (.inr rfl)) its.toArray
    rw [hl] at D
    exact ⟨_, _, _, ⟨D, by simp, fun b hb => by simpa [eq_comm] using hb, fun j h z => z.1, fun j v z => by
      rw [List.getElem?_toArray] at z
      exact vals_at rv z⟩, st, p⟩
  | s z =>
    have h : xs = strV z := h
    have hl : z.cps.size = xs.length := by rw [h]; simp [strV]
    have D := Draws.text (prog := X.prog) (w := X.w) hh it z tk
    rw [hl] at D
    exact ⟨_, _, _, ⟨D, by simp, fun b hb => .inl (by simpa using hb), fun j h z => z, fun j v ⟨c, u, e1, e2⟩ => by
      refine ⟨.str ⟨#[c]⟩, ?_, u, e2⟩
      rw [h, strV, List.getElem?_map, Array.getElem?_toList, e1]
      rfl⟩, st⟩
end
theorem ad {a b : Nat} (h : ¬ a = b) : @Ne Addr a b := h
def ItzG (K : PySem.W.Frag) (k1 k2 : Kd) : It :=
  ⟨fun i H => ∃ xs ys x y, k1.has K H xs ∧ k2.has K H ys ∧ xs[i]? = some x ∧ ys[i]? = some y,
    fun i H v H' => ∃ T x y, v = .ref T ∧ H T = none ∧ H' = upd H T (.tup [x, y]) ∧ (∀ xs, k1.has K H xs → xs[i]? = some x) ∧ ∀ ys, k2.has K H ys → ys[i]? = some y,
    fun i H => ∃ xs ys, k1.has K H xs ∧ k2.has K H ys ∧ i = min xs.length ys.length⟩
/-- five cells that lie apart, from n on -/
structure Cells5 (n : Nat) (k1 k2 : Kd) : Prop where
  lo1 : k1.lo n
  lo2 : k2.lo n
theorem Kd.lo_ne {k : Kd} {n : Nat} (h : k.lo n) (a : Nat) (e : k = .l a ∨ k = .t a) : a < n := by
  rcases e with rfl | rfl <;> exact h
abbrev fp5 (n : Nat) : List Addr := [n + 4, n + 2, n + 3, n, n + 1]
theorem fp5_cases {n b : Nat} (h : b ∈ fp5 n) : b = n + 4 ∨ b = n + 2 ∨ b = n + 3 ∨ b = n ∨ b = n + 1 := by simpa using h
def tnZ (n : Nat) (t1 t2 : Tok) (k1 k2 : Kd) (i : Nat) (h : Heap) : Prop :=
  IsZip h (n + 4) (n + 2) (n + 3) .none ∧ IsTupOf2 h (n + 2) (.ref n) (.ref (n + 1)) ∧ (∃ x y, IsTupOf2 h (n + 3) x y) ∧ k1.at n t1 i h ∧ k2.at (n + 1) t2 i h
theorem sep5 {X : Cx} {A : Around} {k1 k2 : Kd} {n : Nat} {t1 t2 : Tok} {xs ys : List V} {fp1 fp2 : List Addr} {P1 P2 : Nat → Value → Prop} {S1 S2 : Nat → Heap → Prop} (c : Cells5 n k1 k2)
    (d1 : Kd.Drw X A k1 n t1 xs fp1 P1 S1) (d2 : Kd.Drw X A k2 (n + 1) t2 ys fp2 P2 S2) : ZipSep2 (n + 4) (n + 2) (n + 3) n (n + 1) fp1 fp2 := by
  have o1 : ∀ b : Nat, b ∈ fp1 → b ≤ n := fun b hb => by
    rcases d1.lo b hb with rfl | ⟨a, rfl, e⟩
    · exact Nat.le_refl _
    · exact Nat.le_of_lt (Kd.lo_ne c.lo1 _ e)
  have o2 : ∀ b : Nat, b ∈ fp2 → b = n + 1 ∨ b < n := fun b hb => by
    rcases d2.lo b hb with rfl | ⟨a, rfl, e⟩
    · exact .inl rfl
    · exact .inr (Kd.lo_ne c.lo2 _ e)
  exact ⟨ad (by omega), ad (by omega), ad (by omega), ad (by omega), d1.mem, fun z => by have := o1 (n + 4) z; omega, fun z => by have := o1 (n + 3) z; omega, ad (by omega), d2.mem,
    fun z => by have := o2 (n + 4) z; omega, fun z => by have := o2 (n + 3) z; omega, fun z => by have := o2 n z; omega, fun z => by have := o1 (n + 1) z; omega⟩
theorem turn_zipG {P : Program} {w : World} {K : PySem.W.Frag} {elts : List Expr} {kk : Nat} {tpos : Pos} {k1 k2 : Kd} {n : Nat} {t1 t2 : Tok} (c : Cells5 n k1 k2) :
    Turn P w K (.Tuple elts kk tpos) (ItzG K k1 k2) (fp5 n) (n + 4) (tnZ n t1 t2 k1 k2) where
  mem := by simp
  obj := fun i h ⟨hz, hI, ⟨x, y, hO⟩, q1, q2⟩ b hb => by
    rcases fp5_cases hb with rfl | rfl | rfl | rfl | rfl
    · exact ⟨_, hz, fun v q => nomatch q⟩
    · exact ⟨_, hI, fun v q => nomatch q⟩
    · exact ⟨_, hO, fun v q => nomatch q⟩
    · exact Kd.at_ob q1
    · exact Kd.at_ob q2
  keep := fun i h h' ⟨hz, hI, ⟨x, y, hO⟩, q1, q2⟩ k => ⟨k _ (by simp) _ hz, k _ (by simp) _ hI, ⟨x, y, k _ (by simp) _ hO⟩, Kd.at_k q1 (k _ (by simp)), Kd.at_k q2 (k _ (by simp))⟩
  item := by
    intro X hP hw hK hc i pins s σ H E I hf ⟨hz, hI, ⟨x0, y0, hO⟩, q1, q2⟩ ⟨xs, ys, x, y, g1, g2, ex, ey⟩
    subst hP hw hK
    have hh : X.A.in1.handled = none := by simp [I.ok.hd hc]
    obtain ⟨fp1, P1, S1, d1, s1⟩ := Kd.draw (A := X.A.in1) hh I g1 (fun a e => ad (by have := Kd.lo_ne c.lo1 a e; omega)) q1
    obtain ⟨fp2, P2, S2, d2, s2⟩ := Kd.draw (A := X.A.in1) hh I g2 (fun a e => ad (by have := Kd.lo_ne c.lo2 a e; omega)) q2
    have hzl : n + 4 < s.heap.objs.size := Heap.lt_size hz
    refine wpAny_pyNext_zipD2_item (sep5 c d1 d2) d1.dr d2.dr hz hI hO s1 s2 (List.getElem?_eq_some_iff.mp ex).1 (List.getElem?_eq_some_iff.mp ey).1 fun u1 u2 h' tk p1 p2 z' O' s1' s2' hT hsz hk => ?_
    obtain ⟨x', ex', r1⟩ := d1.item _ _ p1
    obtain ⟨y', ey', r2⟩ := d2.item _ _ p2
    rw [ex] at ex'; cases ex'
    rw [ey] at ey'; cases ey'
    refine ⟨_, rfl, wpAny_letOwnedTupleGo_zip (s := { s with heap := h', toks := tk }) z' fun h2 z2 sb => ?_⟩
    have hT2 : h2.get? s.heap.objs.size = some { cls := .type "tuple", data := .seq #[u1, u2] } := (sb.2 _ (ad (by omega))).trans hT
    have new : ObjOk X.prog X.w (upd H s.heap.objs.size (.tup [x, y])) h2 s.heap.objs.size (.tup [x, y]) := ⟨by show 2 ≤ sizeLine; decide, [u1, u2], .cons r1 (.cons r2 .nil), ⟨_, hT2, rfl, _, rfl⟩⟩
    have I1 : Inv X pins σ (upd H s.heap.objs.size (.tup [x, y])) { s with heap := h2, toks := tk } :=
      I.turnedNew (t' := tk) (ch := fp5 n) (fun b o hb q => (sb.2 b fun e => hb (by simp [e])).trans (hk b o (fun e => hb (by simp [e])) (fun e => hb (by simp [e])) (fun e => hb (by simp [e])) (fun e => hb (by simp [e])) q)) hf (Nat.le_refl _) new
    refine ⟨.ref s.heap.objs.size, _, I1, rfl, ⟨_, x, y, rfl, I.hok.fresh (Nat.le_refl _), rfl, fun l hl => by rw [Kd.inj I hl g1]; exact ex, fun l hl => by rw [Kd.inj I hl g2]; exact ey⟩, ⟨z2, ?_, ⟨u1, u2, ?_⟩, ?_, ?_⟩, fun b hb => ?_⟩
    · exact (sb.2 _ (ad (by omega))).trans (hk _ _ (ad (by omega)) (ad (by omega)) (ad (by omega)) (ad (by omega)) hI)
    · exact (sb.2 _ (ad (by omega))).trans O'
    · exact Kd.at_k (d1.back _ _ s1') fun o q => (sb.2 _ (ad (by omega))).trans q
    · exact Kd.at_k (d2.back _ _ s2') fun o q => (sb.2 _ (ad (by omega))).trans q
    · rw [upd_ne (by rcases fp5_cases hb with e | e | e | e | e <;> (rw [e]; exact ad (by omega)))]
      exact (hf b hb).1
  done := by
    intro X hP hw hK hc i pins s σ H E I hf ⟨hz, hI, ⟨x0, y0, hO⟩, q1, q2⟩ ⟨xs, ys, g1, g2, ei⟩
    subst hP hw hK
    have hh : X.A.in1.handled = none := by simp [I.ok.hd hc]
    obtain ⟨fp1, P1, S1, d1, s1⟩ := Kd.draw (A := X.A.in1) hh I g1 (fun a e => ad (by have := Kd.lo_ne c.lo1 a e; omega)) q1
    obtain ⟨fp2, P2, S2, d2, s2⟩ := Kd.draw (A := X.A.in1) hh I g2 (fun a e => ad (by have := Kd.lo_ne c.lo2 a e; omega)) q2
    exact wpAny_pyNext_zipD2_end (sep5 c d1 d2) d1.dr d2.dr hz hI hO s1 s2 (by omega) (by omega) (by omega) fun h' tk hk => ⟨rfl, I.turnedL (t' := tk) (ch := fp5 n) (fun b o hb q =>
      hk b o (fun e => hb (by simp [e])) (fun e => hb (by simp [e])) (fun e => hb (by simp [e])) (fun e => hb (by simp [e])) q) hf⟩
  self := fun A i s Q E st h => wpAny_pyIter_zip st.1 h
section
variable {X : Cx} {pins : List (Addr × Obj)} {σ : St} {H : Hp} {s : Shared}
theorem Kd.begins {k : Kd} {xs : List V} {u : Value} (I : Inv X pins σ H s) (h : k.has X.K H xs) (r : RelV k.val u) : ∃ (o : Obj) (G : Heap → Prop) (tk : Tok), Begins u o G ∧ G s.heap ∧ k.lo s.heap.objs.size ∧ ∀ n h', h'.get? n = some o → k.at n tk 0 h' := by
  cases k with
  | l a =>
    obtain ⟨its, rv, p, _⟩ := I.list h
    cases r
    exact ⟨_, _, 0, begins_list a its.toArray, p.isList, p.lt, fun n h' e => ⟨_, e, rfl, rfl⟩⟩
  | t a =>
    obtain ⟨its, rv, p, _⟩ := I.tuple h
    cases r
    have p : s.heap.IsTuple a its.toArray := p
    obtain ⟨o, e, _⟩ := id p
    exact ⟨_, _, 0, begins_tuple a its.toArray, p, Heap.lt_size e, fun n h' e => ⟨_, e, rfl, rfl⟩⟩
  | s z =>
    obtain ⟨tk, rfl⟩ := r
    exact ⟨_, _, tk, begins_text z tk, trivial, trivial, fun n h' e => ⟨_, e, rfl, rfl⟩⟩
def iZipG (K : PySem.W.Frag) (ta : TA) : TI := fun σ H R => ta σ H fun vs H1 => ∃ k1 k2 xs ys, vs = [Kd.val k1, Kd.val k2] ∧ k1.has K H1 xs ∧ k2.has K H1 ys ∧ R (ItzG K k1 k2) H1
theorem pi_zipG {e e2 : Expr} {ta : TA} {p pos tpos : Pos} {elts : List Expr} {kk : Nat} (hg : Gl X "zip") (hm : X.mg "zip" = none) (ha : PA X [e, e2] ta)
    (hs : starEach [e, e2] X.env = (false, eval e X.env) :: starEach [e2] X.env := by rfl) (hpl : (backTo pos (starEach [e2] X.env)).any (·.1) = false := by rfl) :
    PI X (.Tuple elts kk tpos) (.Call (.Name "zip" p) [e, e2] [] pos) (iZipG X.K ta) := ⟨fun pins s σ H R I h =>
  Call_ (ld_blt I hg hm PyProof.Rows.boot_zip (PyProof.Rows.callWith_type1 (thn (ha.run pos pins s σ H _ I h) fun us s1 ⟨vs, H1, I1, r1, q1⟩ => by
    obtain ⟨k1, k2, xs, ys, ex, h1, h2, q⟩ := q1
    subst ex
    obtain ⟨u1, us1, rfl, r2, r3⟩ : ∃ u us', us = u :: us' ∧ RelV k1.val u ∧ Vals [k2.val] us' := by cases r1 with | cons a b => exact ⟨_, _, rfl, a, b⟩
    obtain ⟨u2, rfl, r4⟩ := vals1 r3
    obtain ⟨o1, G1, tk1, b1, g1, l1, m1⟩ := Kd.begins I1 h1 r2
    obtain ⟨o2, G2, tk2, b2, g2, l2, m2⟩ := Kd.begins I1 h2 r4
    refine zip_begins2 b1 b2 g1 g2 fun h' hz hI hO e1 e2 hsz hk => wpAny_pyIter_zip hz ?_
    have I2 : Inv X pins σ H1 { s1 with heap := h' } := I1.kept (t' := s1.toks) hk
    refine ⟨s1.heap.objs.size + 4, fp5 s1.heap.objs.size, tnZ s1.heap.objs.size tk1 tk2 k1 k2, _, H1, rfl, I2, turn_zipG ⟨l1, l2⟩, ⟨hz, hI, ⟨_, _, hO⟩, m1 _ _ e1, m2 _ _ e2⟩, fun b hb => ?_, q⟩
    have le : s1.heap.objs.size ≤ b := by rcases fp5_cases hb with e | e | e | e | e <;> (rw [e]; first | exact Nat.le_refl _ | exact Nat.le_add_right _ _)
    exact I1.fpOk le (I1.hok.fresh le)) hs hpl))⟩
end
def kdOf : D → V → Option Kd
  | .lst _, .ref a => some (.l a)
  | .arg _, .ref a => some (.l a)
  | .tup _, .ref a => some (.t a)
  | .str z, _ => some (.s z)
  | .ftu _, .ref a => some (.t a)
  | _, _ => none
section
variable {K : PySem.W.Frag} {P0 : Pr} {O W : List Nat} {ρ ρ' : Env} {σ σ' : St} {H H' Hs : Hp} {h h2 : Hd} {d d2 : D} {v : V}
/-- a datum that is walked: its kind and the items' values -/
theorem RepW.kd {ds : List D} {P : Pr} (r : RepW K H d P v) (e : itD d = .ok ds) : ∃ k vs, v = Kd.val k ∧ k.has K H vs ∧ Reps K H ds P vs ∧ kdOf d v = some k := by
  cases d <;> simp only [itD, R.ok.injEq, reduceCtorEq] at e
  · subst e
    rename_i z
    obtain rfl := r.str
    refine ⟨.s z, strV z, rfl, rfl, ?_, rfl⟩
    unfold strV
    generalize z.cps.toList = l
    induction l with
    | nil => exact Reps.nil
    | cons c l ih => exact Reps.cons (by unfold Rep; rfl) ih
  · subst e
    obtain ⟨a, vs, rfl, t1, t2⟩ := r.tup
    exact ⟨.t a, vs, rfl, SqT.of t1, t2, rfl⟩
  · subst e
    obtain ⟨a, vs, rfl, t1, t2⟩ := r.lst
    exact ⟨.l a, vs, rfl, SqL.of t1, t2, rfl⟩
  · subst e
    obtain ⟨a, rfl, t1⟩ := r.arg
    exact ⟨.l a, _, rfl, t1, reps_ints _, rfl⟩
  · subst e
    obtain ⟨a, vs, o, rfl, t1, _, t2⟩ := r.ftu
    exact ⟨.t a, vs, rfl, SqT.fz t1, t2, rfl⟩
/-- .. from what holds of it -/
theorem Hold.kd {ds : List D} {k : Kd} (S : Sim K P0 O W ρ σ H) (o : Hold K O h d v P0 ρ σ H) (e : itD d = .ok ds) (ek : kdOf d v = some k) : ∃ vs, k.has K H vs ∧ Reps K H ds (FA P0 O σ) vs := by
  obtain ⟨k', vs, _, h1, h2, h3⟩ := (o.rep S).kd e
  rw [ek] at h3; cases h3
  exact ⟨vs, h1, h2⟩
theorem src_zipG {k1 k2 : Kd} {ds es : List D} {w : V} (hd : itD d = .ok ds) (he : itD d2 = .ok es) (e1 : kdOf d v = some k1) (e2 : kdOf d2 w = some k2) :
    Src K O W (pairsD ds es) (h.ws ++ h2.ws) (ItzG K k1 k2) (fun P0 ρ σ H => Hold K O h d v P0 ρ σ H ∧ Hold K O h2 d2 w P0 ρ σ H) where
  go := fun P0 i ρ σ H S ok hi => by
    obtain ⟨vs, a1, a2⟩ := ok.1.kd S hd e1
    obtain ⟨vs2, b1, b2⟩ := ok.2.kd S he e2
    rw [pairsD_len, ← a2.length, ← b2.length] at hi
    exact ⟨vs, vs2, vs[i]'(by omega), vs2[i]'(by omega), a1, b1, List.getElem?_eq_getElem _, List.getElem?_eq_getElem _⟩
  stop := fun P0 ρ σ H S ok => by
    obtain ⟨vs, a1, a2⟩ := ok.1.kd S hd e1
    obtain ⟨vs2, b1, b2⟩ := ok.2.kd S he e2
    exact ⟨vs, vs2, a1, b1, by rw [pairsD_len, ← a2.length, ← b2.length]⟩
  yld := fun P0 i ρ σ H x H' d S ok hq y => by
    obtain ⟨vs, a1, a2⟩ := ok.1.kd S hd e1
    obtain ⟨vs2, b1, b2⟩ := ok.2.kd S he e2
    obtain ⟨x1, y1, q1, q2, rfl⟩ := pairsD_get hq
    obtain ⟨v1, q3, r1⟩ := a2.get q1
    obtain ⟨v2, q4, r2⟩ := b2.get q2
    obtain ⟨T, u1, u2, rfl, hT, rfl, e3, e4⟩ := y
    have e3 := e3 _ a1
    have e4 := e4 _ b1
    rw [q3] at e3; cases e3
    rw [q4] at e4; cases e4
    exact pair_rep S.dom hT r1 r2
  keep := fun P0 ρ σ H ρ' σ' H' S k w hw ok => ⟨ok.1.keep S k w fun i hi => hw i (List.mem_append_left _ hi), ok.2.keep S k w fun i hi => hw i (List.mem_append_right _ hi)⟩
  mem := fun P0 ρ σ H ok w z => (List.mem_append.mp z).elim (ok.1.mem w) (ok.2.mem w)
  grow := fun P0 P1 ρ σ H H' S w k ok => ⟨ok.1.grow S w k, ok.2.grow S w k⟩
end
def zipGD (x y : D) : R (List D) := do
  let xs ← itD x
  let ys ← itD y
  pure (pairsD xs ys)
def cZipG (m : AM) : IM := fun ρ => do
  let (hs, ρ1) ← m ρ
  match hs with
  | [h, h2] => do
    let x ← (h.d ρ1).nox
    let y ← (h2.d ρ1).nox
    let ps ← (zipGD x y).nox
    if szOk ps.length = true then pure ((ps, h.ws ++ h2.ws), ρ1) else .stk
  | _ => .stk
theorem zipGD_ok {x y : D} {ps : List D} (h : zipGD x y = .ok ps) : ∃ xs ys, itD x = .ok xs ∧ itD y = .ok ys ∧ ps = pairsD xs ys := by
  obtain ⟨xs, e1, h⟩ := R.ok_of h
  obtain ⟨ys, e2, h⟩ := R.ok_of h
  cases h
  exact ⟨xs, ys, e1, e2, rfl⟩
section
variable {X : Cx} {P0 : Pr} {O W : List Nat} {E : EK} {a b c e tg : Expr} {es : List Expr} {ma mb mc : EM} {ms : AM} {pos : Pos}
theorem ci_zipG {p tpos : Pos} {elts : List Expr} {kk : Nat} (hm : X.mg "zip" = none) (ha : CA X P0 O W E [a, b] ms) (hg : Gl X "zip" := by rfl) (hs : starEach [a, b] X.env = (false, eval a X.env) :: starEach [b] X.env := by rfl) (hpl : (backTo pos (starEach [b] X.env)).any (·.1) = false := by rfl) :
    CI X P0 O W E (.Tuple elts kk tpos) (.Call (.Name "zip" p) [a, b] [] pos) (cZipG ms) := PI.imp (pi_zipG hg hm ha hs hpl) fun σ H _ ⟨ρ, S, h⟩ => by
  refine ⟨ρ, S, h.of_bind.mono fun ⟨hs, ρ1⟩ q vs H1 S1 k1 r1 => ?_⟩
  match hs, r1, q with
  | [h, h2], r1, q =>
    obtain ⟨v, ws, rfl, t1, t2⟩ := r1
    obtain ⟨w, us, rfl, t3, t4⟩ := t2
    have t4 : us = [] := t4
    subst t4
    obtain ⟨x, ex, q1⟩ := Res.of_nox (show Res E W σ H ((h.d ρ1).nox >>= _) _ from q)
    obtain ⟨y, ey, q2⟩ := q1.of_nox
    obtain ⟨ps, ep, q3⟩ := q2.of_nox
    clear q q1 q2
    obtain ⟨xs, ys, e1, e2, rfl⟩ := zipGD_ok ep
    by_cases c : szOk (pairsD xs ys).length = true
    · rw [if_pos c] at q3
      obtain ⟨c1, vs1, rfl, f1, _, g1⟩ := (t1.d S1 ex).kd e1
      obtain ⟨c2, vs2, rfl, f2, _, g2⟩ := (t3.d S1 ey).kd e2
      exact ⟨c1, c2, vs1, vs2, rfl, f1, f2, q3 _ H1 _ S1 k1 (src_zipG e1 e2 g1 g2) ⟨t1.hold ex, t3.hold ey⟩ (of_decide_eq_true c)⟩
    · rw [if_neg c] at q3
      exact q3.elim
  | [], _, q => exact q.elim
  | [_], _, q => exact q.elim
  | _ :: _ :: _ :: _, _, q => exact q.elim
end
section
variable {ρ : Y.Env}
@[simp] theorem e_zipG {m : AM} : cZipG m ρ = (m ρ >>= fun p => match p.1 with | [h, h2] => ((h.d p.2).nox >>= fun x => (h2.d p.2).nox >>= fun y => (zipGD x y).nox >>= fun ps => if szOk ps.length = true then R.ok ((ps, h.ws ++ h2.ws), p.2) else .stk) | _ => .stk) := by
  unfold cZipG; congr
@[simp] theorem d_zipG {x y : D} : zipGD x y = (itD x >>= fun xs => itD y >>= fun ys => R.ok (pairsD xs ys)) := id rfl
end
def IteG (K : PySem.W.Frag) (k : Kd) : It :=
  ⟨fun i H => ∃ xs x, k.has K H xs ∧ xs[i]? = some x, fun i H v H' => ∃ T x, v = .ref T ∧ H T = none ∧ H' = upd H T (.tup [.int (i : Nat), x]) ∧ ∀ xs, k.has K H xs → xs[i]? = some x, fun i H => ∃ xs, k.has K H xs ∧ i = xs.length⟩
abbrev fp2 (n : Nat) : List Addr := [n + 1, n]
def tnE (n : Nat) (t : Tok) (k : Kd) (i : Nat) (h : Heap) : Prop := (∃ old, IsEnum h (n + 1) n ((i : Nat) : Int) old) ∧ k.at n t i h
theorem turn_enumG {P : Program} {w : World} {K : PySem.W.Frag} {elts : List Expr} {kk : Nat} {tpos : Pos} {k : Kd} {n : Nat} {t : Tok} (c : k.lo n) :
    Turn P w K (.Tuple elts kk tpos) (IteG K k) (fp2 n) (n + 1) (tnE n t k) where
  mem := by simp
  obj := fun i h ⟨⟨old, he⟩, q1⟩ b hb => by
    have hb : b = n + 1 ∨ b = n := by simpa using hb
    rcases hb with rfl | rfl
    · exact ⟨_, he, fun v q => nomatch q⟩
    · exact Kd.at_ob q1
  keep := fun i h h' ⟨⟨old, he⟩, q1⟩ k => ⟨⟨old, k _ (by simp) _ he⟩, Kd.at_k q1 (k _ (by simp))⟩
  item := by
    intro X hP hw hK hc i pins s σ H E I hf ⟨⟨old, he⟩, q1⟩ ⟨xs, x, g1, ex⟩
    subst hP hw hK
    have hh : X.A.in1.handled = none := by simp [I.ok.hd hc]
    obtain ⟨fp1, P1, S1, d1, s1⟩ := Kd.draw (A := X.A.in1) hh I g1 (fun a e => ad (by have := Kd.lo_ne c a e; omega)) q1
    have hel : n + 1 < s.heap.objs.size := Heap.lt_size he
    have hef : n + 1 ∉ fp1 := fun z => by
      rcases d1.lo _ z with e | ⟨a, e, e2⟩
      · have e : n + 1 = n := e
        omega
      · have := Kd.lo_ne c a e2
        have e : n + 1 = a := e
        omega
    refine wpAny_pyNext_enum_itemD d1.dr he s1 (List.getElem?_eq_some_iff.mp ex).1 (ad (by omega)) hef fun u h' tk p1 ho s1' hT hsz hk => ?_
    obtain ⟨x', ex', r1⟩ := d1.item _ _ p1
    rw [ex] at ex'; cases ex'
    refine ⟨_, rfl, wpAny_letOwnedTupleGo_enum (s := { s with heap := h', toks := tk + 1 }) ho fun h2 he2 sb => ?_⟩
    have hT2 : h2.get? s.heap.objs.size = some { cls := .type "tuple", data := .seq #[.int i tk, u] } := (sb.2 _ (ad (by omega))).trans hT
    have new : ObjOk X.prog X.w (upd H s.heap.objs.size (.tup [.int (i : Nat), x])) h2 s.heap.objs.size (.tup [.int (i : Nat), x]) := ⟨by show 2 ≤ sizeLine; decide, [.int i tk, u], .cons ⟨_, rfl⟩ (.cons r1 .nil), ⟨_, hT2, rfl, _, rfl⟩⟩
    have I1 : Inv X pins σ (upd H s.heap.objs.size (.tup [.int (i : Nat), x])) { s with heap := h2, toks := tk + 1 } :=
      I.turnedNew (t' := tk + 1) (ch := fp2 n) (fun b o hb q => (sb.2 b fun e => hb (by simp [e])).trans (hk b o (fun e => hb (by simp [e])) (fun e => hb (by simp [e])) q)) hf (Nat.le_refl _) new
    refine ⟨.ref s.heap.objs.size, _, I1, rfl, ⟨_, x, rfl, I.hok.fresh (Nat.le_refl _), rfl, fun l hl => by rw [Kd.inj I hl g1]; exact ex⟩, ⟨⟨u, ?_⟩, ?_⟩, fun b hb => ?_⟩
    · have e1 : ((i + 1 : Nat) : Int) = (i : Int) + 1 := by omega
      rw [e1]; exact he2
    · exact Kd.at_k (d1.back _ _ s1') fun o q => (sb.2 _ (ad (by omega))).trans q
    · have hb' : b = n + 1 ∨ b = n := by simpa using hb
      rw [upd_ne (by rcases hb' with e | e <;> (rw [e]; exact ad (by omega)))]
      exact (hf b hb).1
  done := by
    intro X hP hw hK hc i pins s σ H E I hf ⟨⟨old, he⟩, q1⟩ ⟨xs, g1, ei⟩
    subst hP hw hK
    have hh : X.A.in1.handled = none := by simp [I.ok.hd hc]
    obtain ⟨fp1, P1, S1, d1, s1⟩ := Kd.draw (A := X.A.in1) hh I g1 (fun a e => ad (by have := Kd.lo_ne c a e; omega)) q1
    subst ei
    exact wpAny_pyNext_enum_endD d1.dr he s1 fun h' eb => ⟨rfl, I.turnedL (t' := s.toks) (ch := fp2 n) (fun b o hb q => eb b o (fun e => hb (by simp [e])) q) hf⟩
  self := fun A i s Q E ⟨⟨_, he⟩, _⟩ h => wpAny_pyIter_enum he h
open AutoSeq1 (wpAny_loadPart') in
set_option maxHeartbeats 1000000 in
theorem enum_newT (b : Addr) (ys : Array Value) (m : Nat) (dd : Option Addr) (sl : Array (Option Value)) : Meets (Builtin.«enumerate.__new__» ⟨[.type "enumerate", .ref b], []⟩) (fun _ R s => s.heap.get? b = some { cls := .type "tuple", dict := dd, data := .seq ys m, slots := sl } ∧
    R (.ok (.ret (.ref (s.heap.push { cls := .type "tuple_iterator", data := .fields #[.ref b, .int 0 0] }).objs.size))) { s with heap := (s.heap.push { cls := .type "tuple_iterator", data := .fields #[.ref b, .int 0 0] }).push { cls := .type "enumerate", data := .fields #[.none, .bool false, .ref s.heap.objs.size, rawInt 0, .none, .none] } }) :=
  .of_wp fun prog w A R s ⟨hb, q⟩ => by
    obtain ⟨hp, g, d, tk, os⟩ := s
    have z1 := sub_enumerate
    have hT : Heap.IsTuple (Shared.heap ⟨hp, g, d, tk, os⟩) b ys := ⟨_, hb, rfl, m, rfl⟩
    wp_walk using wpAny_loadPart' hb
    refine wpAny_stack_any fun st => wpAny_pure ?_
    split
    · rename_i c _ _ _ _ _
      cases (c == Value.type "enumerate") <;> (wp_walk using wpAny_loadPart' hb, wpAny_pyIter_tuple hT; exact ⟨_, rfl, q⟩)
    · wp_walk using wpAny_loadPart' hb, wpAny_pyIter_tuple hT
      exact ⟨_, rfl, q⟩
theorem call_enumT {prog : Program} {w : World} {A : Around} {E : Value → Shared → Prop} {s : Shared} {b : Addr} {ys : Array Value} {Q : Value → Shared → Prop} (hT : s.heap.IsTuple b ys)
    (q : ∀ h', IsEnum h' (s.heap.objs.size + 1) s.heap.objs.size 0 .none → h'.IsTupleIter s.heap.objs.size b 0 → (∀ c o, s.heap.get? c = some o → h'.get? c = some o) → Q (.ref (s.heap.objs.size + 1)) { s with heap := h' }) :
    wpAny (model prog w) A (call (.type "enumerate") [.ref b]) Q E s := by
  obtain ⟨⟨cls, dd, data, sl⟩, hb, ec, m, ed⟩ := hT
  simp only at ec ed
  subst ec ed
  refine callType_new F.called_enumerate (by decide) (F.typeCall_enumerate_1 _) (F.newCall_enumerate_1 _) (fun obj => F.args_object_init_2 obj _) F.entry_enumerate_new (enum_newT b ys m dd sl) ⟨hb, ?_⟩
  have hz : (s.heap.push { cls := .type "tuple_iterator", data := .fields #[.ref b, .int 0 0] }).objs.size = s.heap.objs.size + 1 := Heap.size_push ..
  have he : IsEnum ((s.heap.push { cls := .type "tuple_iterator", data := .fields #[.ref b, .int 0 0] }).push { cls := .type "enumerate", data := .fields #[.none, .bool false, .ref s.heap.objs.size, rawInt 0, .none, .none] }) (s.heap.objs.size + 1) s.heap.objs.size 0 .none := by
    rw [← hz]
    exact Heap.get?_push_size _ rfl
  show _ ∧ _
  rw [hz]
  exact ⟨⟨_, he, rfl⟩, q _ he ⟨_, Heap.get?_push_of_some _ (Heap.get?_push_size _ rfl), rfl, rfl⟩ fun c o x => Heap.get?_push_of_some _ (Heap.get?_push_of_some _ x)⟩
section
variable {X : Cx} {P0 : Pr} {O W : List Nat} {E : EK} {a b c e tg : Expr} {es : List Expr} {ma mb mc : EM} {ms : AM} {pos : Pos}
def iEnumG (K : PySem.W.Frag) (ta : TA) : TI := fun σ H R => ta σ H fun vs H1 => ∃ k xs, vs = [Kd.val k] ∧ k.has K H1 xs ∧ R (IteG K k) H1
theorem pi_enumG {ta : TA} {p tpos : Pos} {elts : List Expr} {kk : Nat} (hg : Gl X "enumerate") (hm : X.mg "enumerate" = none) (ha : PA X [e] ta) (hs : starEach [e] X.env = [(false, eval e X.env)] := by rfl) :
    PI X (.Tuple elts kk tpos) (.Call (.Name "enumerate" p) [e] [] pos) (iEnumG X.K ta) := ⟨fun pins s σ H R I h =>
  Call_ (ld_blt I hg hm boot_enumerate (PyProof.Rows.callWith_type1 (thn (ha.run pos pins s σ H _ I h) fun us s1 ⟨vs, H1, I1, r1, q1⟩ => by
    obtain ⟨k, xs, ex, h1, q⟩ := q1
    subst ex
    obtain ⟨u, rfl, r2⟩ := vals1 r1
    have fin : ∀ (tk : Tok) (h' : Heap), k.lo s1.heap.objs.size → IsEnum h' (s1.heap.objs.size + 1) s1.heap.objs.size 0 .none → k.at s1.heap.objs.size tk 0 h' → (∀ c o, s1.heap.get? c = some o → h'.get? c = some o) → PIE X pins σ (.Tuple elts kk tpos) R (.ref (s1.heap.objs.size + 1)) { s1 with heap := h' } := fun tk h' lo he hit hk =>
      ⟨s1.heap.objs.size + 1, fp2 s1.heap.objs.size, tnE s1.heap.objs.size tk k, _, H1, rfl, I1.kept (t' := s1.toks) hk, turn_enumG lo, ⟨⟨.none, he⟩, hit⟩, fun b hb => by
        have hb' : b = s1.heap.objs.size + 1 ∨ b = s1.heap.objs.size := by simpa using hb
        have le : s1.heap.objs.size ≤ b := by rcases hb' with e | e <;> (rw [e]; first | exact Nat.le_refl _ | exact Nat.le_add_right _ _)
        exact I1.fpOk le (I1.hok.fresh le), q⟩
    cases k with
    | l a =>
      obtain ⟨its, rv, p, _⟩ := I1.list h1
      cases r2
      exact call_enumerate_list p.isList fun h' he hit hsz hk => wpAny_pyIter_enum he (fin 0 h' p.lt he hit hk)
    | t a =>
      obtain ⟨its, rv, p, _⟩ := I1.tuple h1
      cases r2
      have p : s1.heap.IsTuple a its.toArray := p
      obtain ⟨o, e, _⟩ := id p
      exact call_enumT p fun h' he hit hk => wpAny_pyIter_enum he (fin 0 h' (Heap.lt_size e) he hit hk)
    | s z =>
      obtain ⟨tk, rfl⟩ := r2
      exact call_enumerate_str fun h' he hit hsz hk => wpAny_pyIter_enum he (fin tk h' trivial he hit hk)) hs rfl))⟩
def numD (ds : List D) : List D := pairsD ((List.range ds.length).map fun i => D.int (i : Nat)) ds
section
variable {K : PySem.W.Frag} {ρ ρ' : Env} {σ σ' : St} {H H' Hs : Hp} {h h2 : Hd} {d d2 : D} {v : V}
theorem src_enumG {k : Kd} {ds : List D} (hd : itD d = .ok ds) (e1 : kdOf d v = some k) : Src K O W (numD ds) h.ws (IteG K k) (Hold K O h d v) where
  go := fun P0 i ρ σ H S ok hi => by
    obtain ⟨vs, a1, a2⟩ := ok.kd S hd e1
    unfold numD at hi
    rw [pairsD_len, ← a2.length] at hi
    have hi : i < vs.length := by simpa using hi
    exact ⟨vs, vs[i], a1, List.getElem?_eq_getElem hi⟩
  stop := fun P0 ρ σ H S ok => by
    obtain ⟨vs, a1, a2⟩ := ok.kd S hd e1
    exact ⟨vs, a1, by unfold numD; rw [pairsD_len, ← a2.length]; simp⟩
  yld := fun P0 i ρ σ H x H' d S ok hq y => by
    obtain ⟨vs, a1, a2⟩ := ok.kd S hd e1
    have hi := (List.getElem?_eq_some_iff.mp hq).1
    unfold numD at hi hq
    rw [pairsD_len] at hi
    have hi : i < ds.length := by simpa using hi
    obtain ⟨x1, y1, q1, q2, rfl⟩ := pairsD_get hq
    obtain ⟨v2, q4, r2⟩ := a2.get q2
    obtain ⟨T, u, rfl, hT, rfl, e3⟩ := y
    have e3 := e3 _ a1
    rw [q4] at e3; cases e3
    rw [List.getElem?_map, List.getElem?_range hi] at q1
    cases q1
    exact pair_rep S.dom hT (by unfold Rep; rfl) r2
  keep := fun P0 ρ σ H ρ' σ' H' S k w hw ok => ok.keep S k w hw
  mem := fun P0 ρ σ H ok => ok.mem
  grow := fun P0 P1 ρ σ H H' S w k ok => ok.grow S w k
end
def cEnumG (m : AM) : IM := fun ρ => do
  let (hs, ρ1) ← m ρ
  match hs with
  | [h] => do
    let x ← (h.d ρ1).nox
    let ds ← (itD x).nox
    if szOk (numD ds).length = true then pure ((numD ds, h.ws), ρ1) else .stk
  | _ => .stk
theorem ci_enumG {p tpos : Pos} {elts : List Expr} {kk : Nat} (hm : X.mg "enumerate" = none) (ha : CA X P0 O W E [a] ms) (hg : Gl X "enumerate" := by rfl) (hs : starEach [a] X.env = [(false, eval a X.env)] := by rfl) :
    CI X P0 O W E (.Tuple elts kk tpos) (.Call (.Name "enumerate" p) [a] [] pos) (cEnumG ms) := PI.imp (pi_enumG hg hm ha hs) fun σ H _ ⟨ρ, S, h⟩ => by
  refine ⟨ρ, S, h.of_bind.mono fun ⟨hs, ρ1⟩ q vs H1 S1 k1 r1 => ?_⟩
  match hs, r1, q with
  | [h], r1, q =>
    obtain ⟨v, ws, rfl, t1, t2⟩ := r1
    have t2 : ws = [] := t2
    subst t2
    obtain ⟨x, ex, q1⟩ := Res.of_nox (show Res E W σ H ((h.d ρ1).nox >>= _) _ from q)
    obtain ⟨ds, e1, q3⟩ := q1.of_nox
    clear q q1
    by_cases c : szOk (numD ds).length = true
    · rw [if_pos c] at q3
      obtain ⟨c1, vs1, rfl, f1, _, g1⟩ := (t1.d S1 ex).kd e1
      exact ⟨c1, vs1, rfl, f1, q3 _ H1 _ S1 k1 (src_enumG e1 g1) (t1.hold ex) (of_decide_eq_true c)⟩
    · rw [if_neg c] at q3
      exact q3.elim
  | [], _, q => exact q.elim
  | _ :: _ :: _, _, q => exact q.elim
end
section
variable {ρ : Y.Env}
@[simp] theorem e_enumG {m : AM} : cEnumG m ρ = (m ρ >>= fun p => match p.1 with | [h] => ((h.d p.2).nox >>= fun x => (itD x).nox >>= fun ds => if szOk (numD ds).length = true then R.ok ((numD ds, h.ws), p.2) else .stk) | _ => .stk) := by
  unfold cEnumG; congr
@[simp] theorem numD_len {ds : List D} : (numD ds).length = ds.length := by unfold numD; rw [pairsD_len]; simp
end
end Y

set_option Elab.async false
set_option linter.all false
set_option maxRecDepth 100000
namespace Y
open PySem PySem.Spec PyProof.Rows L2
section
variable {K : PySem.W.Frag} {X : Cx} {P0 : Pr} {O W U : List Nat} {E : EK} {XE : XK} {e : Expr} {ma : EM} {pos : Pos}
end
end Y

set_option Elab.async false
set_option linter.all false
set_option maxRecDepth 100000
namespace Y
open PySem PySem.Spec PyProof.Rows L2
abbrev setO0 (w : World) : Obj := { cls := .type "set", dict := none, data := .set #[] 0 (.fresh 0 0 (!w.params.followText "set-order")) }
section
variable {P : Program} {w : World} {A : Around} {E : Value → Shared → Prop} {s : Shared}
end
end Y

set_option Elab.async false
set_option linter.all false
set_option maxRecDepth 100000
namespace Y
open PySem PySem.Spec PyProof.Rows L2
section
variable {X : Cx}
end
section
variable {K : PySem.W.Frag} {X : Cx} {P0 : Pr} {O W : List Nat} {E : EK} {a e : Expr} {ma : EM} {pos : Pos}
end
variable {ρ : Y.Env}
end Y

set_option Elab.async false
set_option linter.all false
set_option maxRecDepth 100000
namespace Y
open PySem PySem.Spec PyProof.Rows L2
section
variable {K : PySem.W.Frag} {X : Cx} {P0 : Pr} {O W U : List Nat} {E : EK} {a b e : Expr} {sts : List Stmt} {ma mb : EM} {pos : Pos}
def indexD : D → D → R D
  | .lst ds, y => if (dOk (.lst ds) && dOk y) = true then (match ds.findIdx? fun z => eqP z y with | some j => .ok (.int j) | none => .stk) else .stk
  | .str x, .str y => (match Builtin.Str.occurrences x y 0 x.length 1 with | i :: _ => .ok (.int (i : Nat)) | [] => .stk)
  | _, _ => .stk
def cIndex (a b : EM) : EM := fun ρ => do
  let (h1, ρ1) ← a ρ
  let x0 ← (h1.d ρ1).nox
  match x0 with
  | .str x => do
    let (h2, ρ2) ← b ρ1
    let y ← (h2.d ρ2).nox
    let z ← (indexD (.str x) y).nox
    pure (.fr z, ρ2)
  | .lst _ => do
    let (h2, ρ2) ← b ρ1
    let x ← (h1.d ρ2).nox
    let y ← (h2.d ρ2).nox
    let z ← (indexD x y).nox
    pure (.fr z, ρ2)
  | _ => .stk
theorem dps_find {y : D} : ∀ {ds : List D} {j : Nat}, (ds.findIdx? fun z => eqP z y) = some j → (∃ z, (toPys ds)[j]? = some z ∧ PyData.eqv z (toPy y) = true) ∧ ∀ (m : Nat) (z : PyData), m < j → (toPys ds)[m]? = some z → PyData.eqv z (toPy y) = false
  | [], j, h => by simp at h
  | d :: ds, j, h => by
    rw [List.findIdx?_cons] at h
    by_cases c : eqP d y = true
    · rw [if_pos c] at h
      cases h
      exact ⟨⟨toPy d, by unfold toPys; rfl, c⟩, fun m z hm => by omega⟩
    · rw [if_neg c] at h
      cases e : ds.findIdx? fun z => eqP z y with
      | none => rw [e] at h; cases h
      | some i =>
        rw [e] at h
        cases h
        obtain ⟨⟨z, e1, e2⟩, e3⟩ := dps_find e
        refine ⟨⟨z, by unfold toPys; simpa using e1, e2⟩, fun m z hm hz => ?_⟩
        unfold toPys at hz
        cases m with
        | zero => simp at hz; subst hz; exact Bool.not_eq_true _ ▸ c
        | succ m => exact e3 m z (by have hm : m + 1 < i + 1 := hm; omega) (by simpa using hz)
theorem ce_index {apos : Pos} (hu : X.A.units + 65 < cLine) (ha : CEx X P0 O W E a ma) (hb : CEx X P0 O W E b mb) (hs : starEach [b] X.env = (false, eval b X.env) :: starEach [] X.env := by rfl) (hs2 : starEach [b] X.env = [(false, eval b X.env)] := by rfl) (hpl : (backTo pos (starEach [] X.env)).any (·.1) = false := by rfl)
    (hbase : attributeBase a "index" X.env (eval a X.env) = eval a X.env := by rfl) (hline : (apos.endLine == pos.line) = true := by rfl) (hfew : Few X pos [b] := by rfl) : CEx X P0 O W E (.Call (.Attribute a "index" apos) [b] [] pos) (cIndex ma mb) :=
  PE.imp (PE.or (pe_bm PySem.F.plainAttrs_list PySem.F.slot_list_index PySem.F.type_list_index (mt_indexD hu) ha (pa_cons hb pa_nil hs) hbase hfew hline hs hpl)
    (pe_m1 PySem.F.slot_str_index PySem.F.type_str_index mt_sindex ha hb hs2 hbase hline)) fun σ H Q ⟨ρ, S, h⟩ => by
    unfold cIndex at h
    cases em : ma ρ with
    | stk => rw [em] at h; exact h.elim
    | er c ds =>
      rw [em] at h
      exact .inl ⟨ρ, S, by rw [em]; exact h⟩
    | ok p =>
      obtain ⟨h1, ρ1⟩ := p
      rw [em] at h
      obtain ⟨x0, e0, h⟩ := Res.of_nox (show Res E W σ H ((h1.d ρ1).nox >>= _) _ from h)
      cases x0 <;> first | (exact h.elim) | skip
      · rename_i x
        refine .inr ⟨ρ, S, ?_⟩
        rw [em]
        intro v H1 S1 k1 r1
        obtain rfl := (r1.d S1 e0).str
        have h : Res E W σ H (mb ρ1 >>= fun q => (q.1.d q.2).nox >>= fun y => (indexD (.str x) y).nox >>= fun z => R.ok (Hd.fr z, q.2)) _ := h
        refine ⟨⟨x, rfl⟩, ρ1, S1, (h.of_bind.keep k1).mono fun ⟨h2, ρ2⟩ q w H2 S2 k2 r2 => ?_⟩
        obtain ⟨y, e2, q⟩ := q.of_nox
        obtain ⟨z, e3, q⟩ := q.of_nox
        have rw2 := r2.d S2 e2
        cases y <;> simp only [indexD, reduceCtorEq] at e3
        rename_i y
        obtain rfl := rw2.str
        split at e3
        · rename_i i rest eo
          cases e3
          exact ⟨x, y, i, rest, rfl, rfl, eo, (out_of (K := X.K) S2 (k1.trans k2) q).flat (by unfold Rep; rfl) rfl⟩
        · cases e3
      · rename_i ds0 _
        refine .inl ⟨ρ, S, ?_⟩
        rw [em]
        intro v H1 S1 k1 r1
        obtain ⟨l, vs, rfl, t1, t2⟩ := (r1.d S1 e0).lst
        have h : Res E W σ H (mb ρ1 >>= fun q => (h1.d q.2).nox >>= fun x => (q.1.d q.2).nox >>= fun y => (indexD x y).nox >>= fun z => R.ok (Hd.fr z, q.2)) _ := h
        refine ⟨.inl ⟨rfl, _, SqL.of t1⟩, ρ1, S1, (h.of_bind.keep k1).mono fun ⟨h2, ρ2⟩ q w H2 S2 k2 r2 => ?_⟩
        obtain ⟨x, e1, q⟩ := q.of_nox
        obtain ⟨y, e2, q⟩ := q.of_nox
        obtain ⟨z, e3, q⟩ := q.of_nox
        have rw1 := (r1.keep S1 k2).d S2 e1
        have rw2 := r2.d S2 e2
        have o := out_of (K := X.K) S2 (k1.trans k2) q
        cases x <;> simp only [indexD, reduceCtorEq] at e3
        · obtain ⟨_, _, e, _⟩ := rw1
        · rename_i ds _
          split at e3
          · rename_i c
            rw [Bool.and_eq_true] at c
            split at e3
            · rename_i j ej
              cases e3
              obtain ⟨⟨z, g1, g2⟩, g3⟩ := dps_find ej
              exact ⟨l, w, toPy y, toPys ds, j, z, rfl, rfl, by have q := rw1.dp c.1; unfold toPy at q; exact q, rw2.dp c.2, by have q := c.1; unfold dOk toPy at q; exact q, c.2, g1, g2, g3, o.flat (by unfold Rep; rfl) rfl⟩
            · cases e3
          · cases e3
end
variable {ρ : Y.Env}
@[simp] theorem e_index {a b : EM} : cIndex a b ρ = (a ρ >>= fun p => (p.1.d p.2).nox >>= fun x0 => match x0 with
    | .str x => (b p.2 >>= fun q => (q.1.d q.2).nox >>= fun y => (indexD (.str x) y).nox >>= fun z => R.ok (.fr z, q.2))
    | .lst _ => (b p.2 >>= fun q => (p.1.d q.2).nox >>= fun x => (q.1.d q.2).nox >>= fun y => (indexD x y).nox >>= fun z => R.ok (.fr z, q.2))
    | _ => .stk) := by
  unfold cIndex; congr
end Y

set_option Elab.async false
set_option linter.all false
set_option maxRecDepth 100000
namespace Y
open PySem PySem.Spec PyProof.Rows L2
theorem chkO_ws {O W : List Nat} {ρ : Y.Env} (h : (W.all fun i => O.contains i && shAt i ρ) = true) : chkO O W ρ ρ = .ok () := by
  unfold chkO
  rw [if_pos]
  intro j d e
  by_cases c : j ∈ W
  · have := List.all_eq_true.mp h j c
    rw [Bool.and_eq_true] at this
    obtain ⟨h1, h2⟩ := this
    unfold shAt at h2
    rw [e] at h2
    exact .inr (.inl ⟨by simpa using h1, h2⟩)
  · exact .inl ⟨e, c⟩
end Y

set_option Elab.async false
set_option linter.all false
set_option maxRecDepth 100000
namespace Y
open PySem PySem.Spec PyProof.Rows L2
section
variable {X : Cx} {P0 : Pr} {O W : List Nat} {E : EK} {XE : XK} {e : Expr} {es : List Expr} {ms : AM} {pos : Pos} {k np : Nat} {name : Str}
end
end Y

set_option Elab.async false
set_option linter.all false
set_option maxRecDepth 100000
namespace Y.HR
open PySem PySem.Spec PyProof.Rows L2 _root_.HT PySem.W PySem.SeqAt PySem.AutoSeq1 PySem.MeetsSeq PySem.MeetsSeq2 PySem.MeetsSeq3
section
variable {prog : Program} {w : World} {A : Around} {E : Value → Shared → Prop} {s : Shared}
end
end Y.HR
namespace Y
open PySem PySem.Spec PyProof.Rows L2
def RvR (X : Cx) (r : V → Hp → VK → Prop) : Prop :=
  ∀ (pins : List (Addr × Obj)) (s : Shared) (σ : St) (H : Hp) (x : V) (v vk : Value) (sl : Addr) (Q : VK), Inv X pins σ H s → RelV x v → s.heap.IsSliceOf sl .none .none vk → IsPart vk (some (-1)) → r x H Q →
    ∃ T id, typeLookup (.type T) "__getitem__" = pure (some (.builtin id)) ∧ s.TypeIs v T ∧ wpAny (model X.prog X.w) X.A (getItem v (.ref sl)) (EP X pins σ Q) X.xe s
theorem RvR.or {X : Cx} {r r' : V → Hp → VK → Prop} (h : RvR X r) (h' : RvR X r') : RvR X (fun x H Q => r x H Q ∨ r' x H Q) := by
  intro pins s σ H x v vk sl Q I rx hs pk q
  rcases q with q | q
  · exact h pins s σ H x v vk sl Q I rx hs pk q
  · exact h' pins s σ H x v vk sl Q I rx hs pk q
section
variable {X : Cx} {e k : Expr} {te : TE} {p2 pos : Pos}
variable {P0 : Pr} {O W : List Nat} {E : EK} {ma : EM} {mk : OM}
end
@[simp] theorem d_mulS {x : Str} {k : Int} : mulD (.str x) (.int k) = if k < 2 ^ 20 ∧ -(2 ^ 20) < k ∧ szOk (x.length * k.toNat) = true then .ok (.str (repS k x)) else .stk := id rfl
@[simp] theorem d_mulT {x : List D} {k : Int} : mulD (.tup x) (.int k) = if x.isEmpty = false ∧ -(2 ^ 20) < k ∧ k ≤ 1000 ∧ x.length ≤ 1000 then .ok (.tup (List.replicate k.toNat x).flatten) else .stk := id rfl
@[simp] theorem d_mulL {x : List D} {k : Int} : mulD (.lst x) (.int k) = if k < 2 ^ 20 ∧ -(2 ^ 20) < k ∧ szOk (x.length * k.toNat) = true then .ok (.lst (List.replicate k.toNat x).flatten) else .stk := id rfl
end Y

set_option Elab.async false
set_option linter.all false
set_option maxRecDepth 100000
namespace Y
open PySem PySem.Spec PyProof.Rows L2
section
variable {K : PySem.W.Frag} {P0 : Pr} {O W U : List Nat} {ρ : Y.Env} {σ : L2.St} {H : Hp}
end
section
variable {X : Cx} {P0 : Pr} {O W U : List Nat} {E : EK} {st2 : Stmt} {m : SM}
end
end Y

set_option Elab.async false
set_option linter.all false
set_option maxRecDepth 100000
namespace Y
open PySem PySem.Spec PyProof.Rows L2
section
variable {K : PySem.W.Frag} {H : Hp} {P : Pr}
end
section
variable {X : Cx} {P0 : Pr} {Oc : List Nat} {E : EK} {XE : XK} {e : Expr} {es : List Expr} {ms : AM} {pos : Pos} {k np : Nat} {name : Str}
end
end Y

set_option Elab.async false
set_option linter.all false
set_option maxRecDepth 100000
namespace Y
open PySem PySem.Spec PyProof.Rows L2
section
variable {κ : Type} [DecidableEq κ]
end
def keyOf : D → Option Key
  | .int i => some (.inl i)
  | .str x => some (.inr x)
  | _ => none
def keysOf : List D → Option (List Key)
  | [] => some []
  | d :: ds => match keyOf d with
    | some k => (keysOf ds).map (k :: ·)
    | none => none
section
variable {K : PySem.W.Frag} {H : Hp} {P : Pr}
end
section
variable {X : Cx} {P0 : Pr} {O W : List Nat} {E : EK} {a b : Expr} {ma mb : EM} {pos : Pos}
end
section
variable {K : PySem.W.Frag} {P0 : Pr} {O W U : List Nat} {ρ : Y.Env} {σ : L2.St} {H : Hp}
end
section
variable {X : Cx} {P0 : Pr} {O W U : List Nat} {E : EK}
end
end Y

set_option Elab.async false
set_option linter.all false
set_option maxRecDepth 100000
namespace Y
open PySem PySem.Spec PyProof.Rows L2
section
variable {κ : Type} [DecidableEq κ]
end
section
variable {K : PySem.W.Frag} {X : Cx} {P0 : Pr} {O W U : List Nat} {E : EK} {e k : Expr} {ma mk : EM}
end
end Y

set_option Elab.async false
set_option linter.all false
set_option maxRecDepth 100000
namespace Y
open PySem PySem.Spec PyProof.Rows L2
abbrev XM := Env → R ((Hd ⊕ Str) × Env)
section
variable {X : Cx} {P0 : Pr} {O W U : List Nat} {E : EK} {XE : XK} {a b c e : Expr} {es : List Expr} {ma mb mc : EM} {ms : AM} {pos : Pos} {k np : Nat} {name : Str} {st : Stmt} {sts : List Stmt} {m n : SM}
def tX (K : PySem.W.Frag) (mg : Str → Option Value) (P0 : Pr) (O W : List Nat) (m : XM) (Ws : WX) : TE := fun σ H Q => ∃ ρ, Sim K P0 O W ρ σ H ∧
  Res E00 W σ H (m ρ) fun a => match a.1 with
    | .inl h => ∀ v H', Sim K P0 O W a.2 σ H' → Keep W σ H H' → HdR K P0 O H σ H' h v → Q v H'
    | .inr c => ∀ H', Sim K P0 O W a.2 σ H' → Keep W σ H H' → ∃ C, mg c = some (.ref C) ∧ Ws (.ref C) none σ H'
/-- the error lies in slot i -/
def tZ (K : PySem.W.Frag) (P0 : Pr) (O W U : List Nat) (i : Nat) (a : Addr) (m : SM) : TS := fun D σ H => σ[i]? = some (some (.ref a)) ∧ tSt K P0 O W U E00 m D σ H
variable {i : Nat} {ad : Addr}
end
section
variable {K : PySem.W.Frag} {P0 : Pr} {O W U : List Nat} {ρ : Env} {σ : St} {H : Hp}
theorem Tr.fewer {U' : List Nat} {σ' : St} {H' : Hp} (t : Tr O U σ H σ' H') (h : ∀ i ∈ U', i ∈ U) : Tr O U' σ H σ' H' := ⟨t.keep, t.some, t.own, fun i hi => t.unch i (h i hi)⟩
end
section
variable {X : Cx} {P0 : Pr} {O W U : List Nat} {E : EK}
theorem PSs.exi {sts : List Stmt} {α : Type} {p : α → Prop} {t : α → TS} (h : ∀ a, p a → PSs X sts (t a)) : PSs X sts (fun D σ H => ∃ a, p a ∧ t a D σ H) := ⟨fun pins s σ H D I ⟨a, pa, q⟩ => (h a pa).run pins s σ H D I q⟩
end
end Y

set_option Elab.async false
set_option linter.all false
set_option maxRecDepth 100000
namespace Y
open PySem PySem.Spec PyProof.Rows L2
theorem all_cons {α : Type} {p : α → Prop} {c : α} {cl : List α} (h : p c) (t : ∀ c ∈ cl, p c) : ∀ x ∈ c :: cl, p x := List.forall_mem_cons.mpr ⟨h, t⟩
theorem kit_own {K : PySem.W.Frag} {C X : Addr} {b : Bool} (hs : PySem.W.subIn K (.ref C) (.ref C) = some true) (hd : PySem.W.hasDictIn K X = true) (ht : PySem.W.typeIn K (.ref X) = some (.type "type")) (h : PySem.W.subIn K (.ref C) (.ref X) = some b) : PySem.W.kitOne K (.ref C) (.ref X) = some b := by
  unfold PySem.W.kitOne
  by_cases e : C = X
  · subst e
    rw [hs] at h
    cases h
    rw [if_pos (by simp)]
  · rw [if_neg (by simpa using e)]
    obtain ⟨cd, hc, _⟩ := PySem.W.any_some hd
    show (if ((PySem.W.clsIn K X).isSome && PySem.W.typeIn K (.ref X) == some (.type "type")) = true then PySem.W.subIn K (.ref C) (.ref X) else none) = some b
    rw [hc, ht, if_pos (by simp)]
    exact h
variable {ρ : Y.Env}
end Y

set_option Elab.async false
set_option linter.all false
set_option maxRecDepth 100000
namespace Y
open PySem PySem.Spec PyProof.Rows L2
def DicU : HO → Prop
  | .dK _ => True
  | .dT _ => True
  | _ => False
theorem Rd.only {H : Hp} {a b : Addr} {u o : HO} (hu : DicU u) (r : Rd H a u) (e : H b = Option.some o) (n1 : ¬ DicU o) (n2 : ∀ x w, o = .frz x w → ¬ DicU w) : b ≠ a := by
  rintro rfl
  rcases r with r | ⟨x, r⟩
  · rw [e] at r; cases r; exact n1 hu
  · rw [e] at r; cases r; exact n2 _ _ rfl hu
section
variable {K : PySem.W.Frag} {H H' : Hp} {a : Addr} {u : HO}
theorem Rd.move (hu : DicU u) (k : ∀ b, b ≠ a → H' b = H b) (r : Rd H a u) (r' : Rd H' a u) {b : Addr} {o : HO} (n2 : ∀ x w, o ≠ .frz x w) (h : Rd H b o) : Rd H' b o := by
  by_cases e : b = a
  · subst e
    have : o = u := by
      rcases r with r | ⟨x, r⟩ <;> rcases h with h | ⟨y, h⟩ <;> rw [r] at h <;> cases h <;> first | rfl | exact absurd rfl (n2 _ _) | exact hu.elim
    rw [this]; exact r'
  · rcases h with h | ⟨y, h⟩
    · exact .inl (by rw [k b e]; exact h)
    · exact .inr ⟨y, by rw [k b e]; exact h⟩
theorem TabS.rd (hu : DicU u) (k : ∀ b, b ≠ a → H' b = H b) (r : Rd H a u) {p b : Addr} {q : Str} (t : TabP H p q b) : TabP H' p q b := by
  obtain ⟨e, ps, h1, h2, h3⟩ := t
  refine ⟨e, ps, ?_, h2, fun pos cv hc => ?_⟩
  · rw [k b (Rd.only hu r h1 (fun z => z) fun x w z => by cases z)]
    exact h1
  · obtain ⟨c, e1, e2⟩ := h3 pos cv hc
    refine ⟨c, e1, ?_⟩
    rw [k c (Rd.only hu r e2 (fun z => z) fun x w z => by unfold LamX.CodeO at z; cases z)]
    exact e2
mutual
theorem Rep.rd (hu : DicU u) (k : ∀ b, b ≠ a → H' b = H b) (r : Rd H a u) (r' : Rd H' a u) : ∀ {d : D} {P : Pr} {v : V}, Rep K H d P v → Rep K H' d P v
  | .non, _, _, h => by unfold Rep at h ⊢; exact h
  | .bl _, _, _, h => by unfold Rep at h ⊢; exact h
  | .int _, _, _, h => by unfold Rep at h ⊢; exact h
  | .str _, _, _, h => by unfold Rep at h ⊢; exact h
  | .tup ds, P, v, h => by
    unfold Rep at h ⊢
    obtain ⟨b, vs, e, h1, h2⟩ := h
    exact ⟨b, vs, e, by rw [k b (Rd.only hu r h1 id fun _ _ z => by cases z)]; exact h1, Reps.rd hu k r r' h2⟩
  | .lst ds, P, v, h => by
    unfold Rep at h ⊢
    obtain ⟨b, vs, e, h0, h1, h2⟩ := h
    exact ⟨b, vs, e, h0, by rw [k b (Rd.only hu r h1 id fun _ _ z => by cases z)]; exact h1, Reps.rd hu k r r' h2⟩
  | .arg ns, P, v, h => by
    unfold Rep at h ⊢
    obtain ⟨b, e, h⟩ := h
    refine ⟨b, e, ?_⟩
    rcases h with ⟨h0, h1⟩ | h
    · exact .inl ⟨h0, Rd.move hu k r r' (fun _ _ z => by cases z) h1⟩
    · exact .inr h
  | .dik ks ds, P, v, h => by
    unfold Rep at h ⊢
    obtain ⟨b, vs, e, h0, hl, h1, h2⟩ := h
    exact ⟨b, vs, e, h0, hl, Rd.move hu k r r' (fun _ _ z => by cases z) h1, Reps.rd hu k r r' h2⟩
  | .dit ks ds, P, v, h => by
    unfold Rep at h ⊢
    obtain ⟨b, vs, e, h0, hl, h1, h2⟩ := h
    exact ⟨b, vs, e, h0, hl, Rd.move hu k r r' (fun _ _ z => by cases z) h1, Reps.rd hu k r r' h2⟩
  | .ftu ds, P, v, h => by
    unfold Rep at h ⊢
    obtain ⟨b, vs, o, e, h1, hd, h2⟩ := h
    have nb : b ≠ a := fun z => by
      subst z
      rcases r with r | ⟨x, r⟩ <;> rw [r] at h1 <;> cases h1 <;> exact hu.elim
    exact ⟨b, vs, o, e, by rw [k b nb]; exact h1, hd, Reps.rd hu k r r' h2⟩
  | .tab p q, P, v, h => by
    unfold Rep at h ⊢
    obtain ⟨b, e, h0, h1⟩ := h
    exact ⟨b, e, h0, TabS.rd hu k r h1⟩
theorem Reps.rd (hu : DicU u) (k : ∀ b, b ≠ a → H' b = H b) (r : Rd H a u) (r' : Rd H' a u) : ∀ {ds : List D} {P : Pr} {vs : List V}, Reps K H ds P vs → Reps K H' ds P vs
  | [], _, _, h => by rw [h.nil_iff]; exact Reps.nil
  | d :: ds, P, vs, h => by
    obtain ⟨v, ws, rfl, h1, h2⟩ := h.cons_iff
    exact Reps.cons (Rep.rd hu k r r' h1) (Reps.rd hu k r r' h2)
end
variable {P0 : Pr} {O W U : List Nat} {ρ : Y.Env} {σ : L2.St}
theorem Sim.rd (S : Sim K P0 O W ρ σ H) (hu : DicU u) (k : ∀ b, b ≠ a → H' b = H b) (r : Rd H a u) (r' : Rd H' a u) (n : ¬ FA P0 O σ a) : Sim K P0 O W ρ σ H' where
  sub := S.sub
  len := S.len
  dom := fun b z => by rw [k b fun e => n (e ▸ z)]; exact S.dom b z
  val := fun i d e h => let ⟨v, h1, h2⟩ := S.val i d e h; ⟨v, h1, h2.rd hu k r r'⟩
  own := fun i d e h => by
    obtain ⟨v, h1, h2⟩ := S.own i d e h
    have na : ∀ b, v = .ref b → b ≠ a := fun b e z => n (.inr ⟨i, h, by rw [h1, e, z]⟩)
    refine ⟨v, h1, ?_⟩
    cases d with
    | lst ds => obtain ⟨b, vs, e, g1, g2⟩ := h2; exact ⟨b, vs, e, by rw [k b (na b e)]; exact g1, g2.rd hu k r r'⟩
    | dik ks ds => obtain ⟨b, vs, e, hl, g1, g2⟩ := h2; exact ⟨b, vs, e, hl, by rw [k b (na b e)]; exact g1, g2.rd hu k r r'⟩
    | dit ks ds => obtain ⟨b, vs, e, hl, g1, g2⟩ := h2; exact ⟨b, vs, e, hl, by rw [k b (na b e)]; exact g1, g2.rd hu k r r'⟩
    | non => exact h2
    | bl _ => exact h2
    | int _ => exact h2
    | str _ => exact h2
    | tup _ => exact h2
    | arg _ => exact h2
    | ftu _ => exact h2
    | tab p q => obtain ⟨b, e, g1⟩ := h2; exact ⟨b, e, TabS.rd hu k r g1⟩
  sep := S.sep
  sep0 := S.sep0
end
section
variable {P : Program} {w : World} {K : PySem.W.Frag} {d : Addr} {o : Obj} {es : Array DictEntry} {ep : Nat}
end
section
variable {K : PySem.W.Frag} {O W : List Nat} {a : Addr} {o : Obj} {ds : List D} {vs : List V}
end

theorem PS.or {X : Cx} {st : Stmt} {t t' : TS} (h : PS X st t) (h' : PS X st t') : PS X st fun D σ H => t D σ H ∨ t' D σ H :=
  ⟨fun pins s σ H D I q => q.elim (h.run pins s σ H D I) (h'.run pins s σ H D I)⟩
section
variable {K : PySem.W.Frag} {P0 : Pr} {O W U : List Nat} {E : EK} {ρ : Y.Env} {σ : L2.St} {H : Hp} {m : SM} {D : Ends} {a : Addr} {u : HO}
end
section
variable {X : Cx} {P0 : Pr} {O W U : List Nat} {E : EK} {m : SM}
end
end Y

set_option Elab.async false
set_option linter.all false
set_option maxRecDepth 100000
namespace Y
open PySem PySem.Spec PyProof.Rows L2
section
variable {X : Cx} {pins : List (Addr × Obj)} {σ : L2.St} {H : Hp} {s : Shared}
end
variable {ρ : Y.Env}
end Y

set_option Elab.async false
set_option linter.all false
set_option maxRecDepth 100000
set_option maxHeartbeats 4000000
namespace Y
open PySem PySem.Spec PyProof.Rows L2
section
variable {X : Cx} {pins : List (Addr × Obj)} {σ : L2.St} {H : Hp} {s : Shared}
end
end Y

set_option Elab.async false
set_option linter.all false
set_option maxRecDepth 100000
set_option maxHeartbeats 4000000
namespace Y
open PySem PySem.Spec PyProof.Rows L2
section
variable {K : PySem.W.Frag} {X : Cx} {H : Hp} {P : Pr}
end
section
variable {X : Cx}
end
end Y

set_option Elab.async false
set_option linter.all false
set_option maxRecDepth 100000
namespace Y
open PySem PySem.Spec PyProof.Rows L2
def D1 (p : Addr) (Q : VK) (x y : V) (H2 : Hp) : Prop := H2 p = some (.dT []) ∧ ∃ (q : Addr) (k : List Key), x = .ref q ∧ H2 q = some (.tup (k.map kV)) ∧ Q (.ref p) (upd H2 p (.dT [(k, y)]))
end Y

set_option Elab.async false
set_option linter.all false
set_option maxRecDepth 100000
namespace Y
open PySem PySem.Spec PyProof.Rows L2
section
variable {K : PySem.W.Frag} {X : Cx} {P0 : Pr} {O W U : List Nat} {E : EK} {pos : Pos}
end
section
variable {X : Cx} {P0 : Pr} {O W : List Nat} {E : EK} {a b : Expr} {ma mb : EM} {pos : Pos}
end
end Y

set_option Elab.async false
set_option linter.all false
set_option maxRecDepth 100000
namespace Y
open PySem PySem.Spec PyProof.Rows L2
section
variable {K : PySem.W.Frag} {P0 : Pr} {O W U : List Nat} {ρ ρ1 ρ2 : Y.Env} {σ σ1 σ3 : L2.St} {H H1 H2 H3 : Hp} {i : Nat} {vs : List Nat}
/-- what the state is apart from the new objects A -/
theorem Sim.apart (S1 : Sim K P0 O W ρ1 σ H1) (S2 : Sim K P0 O W ρ2 σ H2) (kp : ∀ b o, H1 b = some o → ¬ OA W σ b → H2 b = some o) {A : Pr} (hA : ∀ b, A b → H1 b = none ∧ isMut (H2 b))
    (c : ∀ (j : Nat) d, ρ2[j]? = some (some d) → (ρ1[j]? = some (some d) ∧ j ∉ W) ∨ (j ∈ O ∧ d.shallow = true) ∨ d.nl = true) : Sim K (fun b => P0 b ∨ A b) O W ρ2 σ H2 := by
  have fa : ∀ b, FA (fun b => P0 b ∨ A b) O σ b → FA P0 O σ b ∨ H1 b = none := fun b z => by
    rcases z with (z | z) | z
    · exact .inl (.inl z)
    · exact .inr (hA b z).1
    · exact .inl (.inr z)
  have kf : ∀ b o, H1 b = some o → ¬ FA P0 O σ b → H2 b = some o := fun b o e n => kp b o e fun z => n (.inr (S1.oaw z))
  refine ⟨S2.sub, S2.len, fun b z => ?_, fun j d e n => ?_, fun j d e n => ?_, S2.sep, fun a z y => ?_⟩
  · rcases z with (z | z) | z
    · exact S2.dom b (.inl z)
    · exact (hA b z).2
    · exact S2.dom b (.inr z)
  · rcases c j d e with ⟨e0, _⟩ | ⟨z, _⟩ | nl
    · obtain ⟨w, h1, h2⟩ := S1.val j d e0 n
      exact ⟨w, h1, h2.mono d S1.dom kf fa⟩
    · exact absurd z n
    · obtain ⟨w, h1, h2⟩ := S2.val j d e n
      exact ⟨w, h1, h2.nl nl⟩
  · rcases c j d e with ⟨e0, hw⟩ | ⟨_, sh⟩ | nl
    · obtain ⟨w, h1, h2⟩ := S1.own j d e0 n
      refine ⟨w, h1, h2.mono S1.dom kf fa fun a o e1 e2 => ?_⟩
      subst e1
      refine kp a o e2 fun ⟨x, hx, ex⟩ => ?_
      have := S1.sep x j a (S1.sub x hx) n ex h1
      exact hw (this ▸ hx)
    · obtain ⟨w, h1, h2⟩ := S2.own j d e n
      exact ⟨w, h1, h2.shallow sh⟩
    · obtain ⟨w, h1, h2⟩ := S2.own j d e n
      refine ⟨w, h1, ?_⟩
      cases d <;> first | exact h2 | (simp [D.nl] at nl)
  · rcases y with y | y
    · exact S2.sep0 a z y
    · have q := S1.dom a (.inr z)
      rw [(hA a y).1] at q
      exact q
end
section
variable {X : Cx} {P0 : Pr} {O W U : List Nat} {E : EK} {XE : XK} {c e e2 : Expr} {es : List Expr} {ms : AM} {mr : EM} {pos pos2 p p2 p3 px : Pos} {k np i : Nat} {name x : Str} {t : BM} {n : SM} {tl : List Stmt} {tr : D → Bool} {R : PySem.W.Frag → Pr → V → Hp → Prop} {vs qs : List Nat}
def rL (K : PySem.W.Frag) (A : Pr) (v : V) (H : Hp) : Prop := ∃ a ws M, v = .ref a ∧ A a ∧ ws.length < sizeLine ∧ H a = some (.lst ws) ∧ M + ws.length ≤ sizeLine ∧ ∀ w ∈ ws, ∃ b xs, w = V.ref b ∧ A b ∧ b ≠ a ∧ H b = some (.lst xs) ∧ xs.length < M
end
end Y

set_option Elab.async false
set_option linter.all false
set_option maxRecDepth 100000
namespace Y
open PySem PySem.Spec PyProof.Rows L2
section
variable {X : Cx} {pins : List (Addr × Obj)} {σ : L2.St} {H : Hp} {s : Shared} {a b : Addr} {r : Value} {d : V} {k : List Key} {A : Around} {E : Value → Shared → Prop}
end
section
variable {X : Cx} {o e f : Expr} {td ty tx : TE} {apos cpos : Pos}
end
abbrev Grp := List (List Key × List Int)
def gAdd (k : List Key) (s : Int) : Grp → Grp
  | [] => [(k, [s])]
  | (k', l) :: g => if k' = k then (k', l ++ [s]) :: g else (k', l) :: gAdd k s g
/-- the groups lie in objects of their own, new since H1 -/
def GOk (H1 Hx : Hp) : Grp → List Addr → Prop
  | [], bs => bs = []
  | (_, l) :: g, bs => ∃ b r, bs = b :: r ∧ H1 b = none ∧ Hx b = some (.lst (l.map V.int)) ∧ b ∉ r ∧ GOk H1 Hx g r
def kvG : Grp → List Addr → List (List Key × V)
  | (k, _) :: g, b :: bs => (k, .ref b) :: kvG g bs
  | _, _ => []
section
variable {H1 Hx Hy : Hp}
theorem GOk.keep : ∀ {g : Grp} {bs : List Addr}, GOk H1 Hx g bs → (∀ b ∈ bs, Hy b = Hx b) → GOk H1 Hy g bs
  | [], bs, h, _ => h
  | (_, l) :: g, bs, ⟨b, r, e, h1, h2, h3, h4⟩, k => ⟨b, r, e, h1, by rw [k b (by simp [e])]; exact h2, h3, h4.keep fun c hc => k c (by simp [e, hc])⟩
theorem GOk.mem : ∀ {g : Grp} {bs : List Addr}, GOk H1 Hx g bs → ∀ b ∈ bs, H1 b = none ∧ ∃ l, Hx b = some (.lst l)
  | [], bs, h, b, hb => by
    have h : bs = [] := h
    rw [h] at hb
    cases hb
  | (_, l) :: g, bs, ⟨b0, r, e, h1, h2, h3, h4⟩, b, hb => by
    rw [e] at hb
    rcases List.mem_cons.mp hb with rfl | hb
    · exact ⟨h1, _, h2⟩
    · exact h4.mem b hb
theorem GOk.get {k : List Key} {s : Int} : ∀ {g : Grp} {bs : List Addr} {v : V}, GOk H1 Hx g bs → valV (kvG g bs) k = some v → ∃ b l, v = .ref b ∧ b ∈ bs ∧ Hx b = some (.lst (l.map V.int)) ∧ (∃ k', (k', l) ∈ g) ∧ GOk H1 (upd Hx b (.lst (l.map V.int ++ [.int s]))) (gAdd k s g) bs ∧ kvG (gAdd k s g) bs = kvG g bs
  | [], bs, v, h, e => by cases e
  | (k', l) :: g, bs, v, ⟨b, r, eb, h1, h2, h3, h4⟩, e => by
    subst eb
    unfold gAdd
    by_cases c : k' = k
    · have e : valV ((k', V.ref b) :: kvG g r) k = some v := e
      rw [valV_pos c] at e
      cases e
      rw [if_pos c]
      refine ⟨b, l, rfl, by simp, h2, ⟨k', by simp⟩, ⟨b, r, rfl, h1, by rw [upd_same, List.map_append]; rfl, h3, h4.keep fun c hc => upd_ne fun z => h3 (by rw [← z]; exact hc)⟩, rfl⟩
    · have e : valV ((k', V.ref b) :: kvG g r) k = some v := e
      rw [valV_neg c] at e
      obtain ⟨b2, l2, e1, e2, e3, ⟨k2, ek⟩, e4, e5⟩ := h4.get (s := s) e
      rw [if_neg c]
      refine ⟨b2, l2, e1, by simp [e2], e3, ⟨k2, by simp [ek]⟩, ⟨b, r, rfl, h1, by rw [upd_ne fun z => h3 (by rw [z]; exact e2)]; exact h2, h3, e4⟩, ?_⟩
      show (k', V.ref b) :: kvG (gAdd k s g) r = (k', V.ref b) :: kvG g r
      rw [e5]
theorem GOk.len : ∀ {g : Grp} {bs : List Addr}, GOk H1 Hx g bs → (kvG g bs).length = g.length ∧ bs.length = g.length
  | [], bs, h => by
    have h : bs = [] := h
    subst h
    exact ⟨rfl, rfl⟩
  | (k, l) :: g, bs, ⟨b, r, e, _, _, _, h⟩ => by
    subst e
    have := h.len
    exact ⟨by show (kvG g r).length + 1 = _; rw [this.1]; rfl, by simp [this.2]⟩
end
section
variable {K : PySem.W.Frag} {P0 : Pr} {O W U : List Nat} {ρ : Y.Env} {σ σ3 : L2.St} {H1 H3 : Hp} {i : Nat} {sl : List Nat}
end
section
variable {X : Cx} {P0 : Pr} {O W U : List Nat} {E : EK} {tg iter : Expr} {pos pos3 p1 p2 p3 p4 p5 ap ap2 cp cp2 : Pos} {x ya yb ys : Str}
end
end Y

set_option Elab.async false
set_option linter.all false
set_option maxRecDepth 100000
namespace Y
open PySem PySem.Spec PyProof.Rows L2
section
variable {prog : Program} {w : World} {A : Around} {E : Value → Shared → Prop} {s : Shared}
end
section
variable {X : Cx}
end
end Y

set_option Elab.async false
set_option linter.all false
set_option maxRecDepth 100000
namespace Y
open PySem PySem.Spec PyProof.Rows L2
theorem SqL.laid {K : PySem.W.Frag} {H : Hp} {a D : Addr} {xs : List V} {o : HO} (h : SqL K H a xs) (n : H D = none) : SqL K (upd H D o) a xs := by
  rcases h with h | h
  · refine .inl (h.imp (fun e => ?_) fun ⟨o, e⟩ => ⟨o, ?_⟩)
    · rw [upd_ne (ne_of_none e n)]; exact e
    · rw [upd_ne (ne_of_none e n)]; exact e
  · exact .inr h
section
variable {X : Cx} {i j : Nat}
end
end Y

set_option Elab.async false
set_option linter.all false
set_option maxRecDepth 100000
namespace Y
open PySem PySem.Spec PyProof.Rows L2
theorem _root_.L2H.RoomH.units65 {k : Nat} {A : Around} (r : L2H.RoomH k A) : A.units + 65 < cLine := by have := r.un; omega
section
variable {X : Cx} {P0 : Pr} {O W U : List Nat} {i : Nat} {ad : Addr} {a b c e : Expr} {es : List Expr} {ma mb mc : EM} {ms : AM} {bm bn : BM} {pos : Pos}
end
end Y

set_option Elab.async false
set_option linter.all false
set_option maxRecDepth 100000
namespace Y
open PySem PySem.Spec PyProof.Rows L2
theorem _root_.L2H.RoomH.units {k : Nat} {A : Around} (r : L2H.RoomH k A) : A.units + 64 < cLine := by have := r.un; omega
section
variable {X : Cx} {P0 : Pr} {O W U : List Nat} {i j : Nat}
end
theorem roomH_suite {j k : Nat} {A : Around} {h : Option Value} (r : Room k A) (l : j ≤ k := by decide) : L2H.RoomH j (A.mark h) := ⟨(r.mono l).dp, (r.mono l).un⟩
end Y

set_option Elab.async false
set_option linter.all false
set_option maxRecDepth 100000
namespace Y
open PySem PySem.Spec PyProof.Rows L2
section
variable {K : PySem.W.Frag} {O W : List Nat} {a : Addr} {o : Obj}
end
section
variable {X : Cx} {P0 : Pr} {O W U : List Nat} {E : EK} {tg e : Expr} {ma : EM}
end
variable {ρ : Env}
end Y

set_option Elab.async false
set_option linter.all false
set_option maxRecDepth 100000
namespace Y
open PySem PySem.Spec PyProof.Rows L2
section
variable {prog : Program} {w : World} {A : Around} {E : Value → Shared → Prop}
end
section
variable {X : Cx}
end
end Y

set_option Elab.async false
set_option linter.all false
set_option maxRecDepth 100000
namespace Y
open PySem PySem.Spec PyProof.Rows L2
section
variable {prog : Program} {w : World} {A : Around} {E : Value → Shared → Prop} {s : Shared} {z TI TO T i1 i2 : Addr} {fp1 fp2 : List Addr} {n1 n2 i : Nat} {P1 P2 : Nat → Value → Prop} {St1 St2 : Nat → Heap → Prop} {f : Bool} {oT : Obj}
end
end Y

set_option Elab.async false
set_option linter.all false
set_option maxRecDepth 100000
namespace Y
open PySem PySem.Spec PyProof.Rows L2
section
variable {prog : Program} {w : World} {A : Around} {E : Value → Shared → Prop} {s : Shared}
end
section
variable {prog : Program} {w : World} {A : Around} {E : Value → Shared → Prop} {s : Shared} {R : Result → Shared → Prop} {z TI TO i1 i2 S : Addr} {fp1 fp2 : List Addr} {n1 n2 i : Nat} {P1 P2 : Nat → Value → Prop} {St1 St2 : Nat → Heap → Prop}
/-- i pairs are out -/
def ZSt (z TI TO i1 i2 S : Addr) (St1 St2 : Nat → Heap → Prop) (i : Nat) (h : Heap) : Prop := IsTupOf2 h TI (.ref i1) (.ref i2) ∧ St1 i h ∧ St2 i h ∧
  ((IsZip h z TI TO .none ∧ ∃ a b, IsTupOf2 h TO a b) ∨ ∃ T f oT, IsZipHeld h z TI TO T f ∧ h.get? T = some oT ∧ T ≠ z ∧ T ≠ i1 ∧ T ≠ i2 ∧ T ≠ S)
theorem ZSt.ty {h : Heap} (x : ZSt z TI TO i1 i2 S St1 St2 i h) : ∃ o, h.get? z = some o ∧ o.cls = .type "zip" := by
  rcases x.2.2.2 with ⟨e, _⟩ | ⟨T, f, oT, e, _⟩
  · exact ⟨_, e, rfl⟩
  · exact ⟨_, e, rfl⟩
theorem ZSt.stay (Sp : ZipSep2 z TI TO i1 i2 fp1 fp2) (D1 : Draws prog w A i1 fp1 n1 P1 St1) (D2 : Draws prog w A i2 fp2 n2 P2 St2) {h h' : Heap} (x : ZSt z TI TO i1 i2 S St1 St2 i h) (nz : S ≠ z) (nI : S ≠ TI) (nO : S ≠ TO) (n1' : S ∉ fp1) (n2' : S ∉ fp2)
    (k : ∀ b o, b ≠ S → h.get? b = some o → h'.get? b = some o) : ZSt z TI TO i1 i2 S St1 St2 i h' := by
  obtain ⟨a, b, c, d⟩ := x
  refine ⟨k _ _ nI.symm a, D1.frame _ _ _ b fun q hq o e => k q o (fun e2 => n1' (e2 ▸ hq)) e, D2.frame _ _ _ c fun q hq o e => k q o (fun e2 => n2' (e2 ▸ hq)) e, ?_⟩
  rcases d with ⟨d1, y1, y2, d2⟩ | ⟨T, f, oT, d1, d2, d3, d4, d5, d6⟩
  · exact .inl ⟨k _ _ nz.symm d1, y1, y2, k _ _ nO.symm d2⟩
  · exact .inr ⟨T, f, oT, k _ _ nz.symm d1, k _ _ d6 d2, d3, d4, d5, d6⟩
end
end Y

set_option Elab.async false
set_option linter.all false
set_option maxRecDepth 100000
namespace Y
open PySem PySem.Spec PyProof.Rows L2
section
variable {X : Cx} {pins : List (Addr × Obj)} {σ : L2.St} {H : Hp} {s : Shared}
end
section
variable {X : Cx} {P0 : Pr} {O W : List Nat} {E : EK} {a b : Expr} {ms : AM} {pos : Pos}
end
variable {ρ : Y.Env}
end Y

set_option Elab.async false
set_option linter.all false
set_option maxRecDepth 100000
namespace Y
open PySem PySem.Spec PyProof.Rows L2
section
variable {X : Cx}
end
end Y

set_option Elab.async false
set_option linter.all false
set_option maxRecDepth 100000
namespace Y
open PySem PySem.Spec PyProof.Rows L2
section
variable {κ : Type} [DecidableEq κ]
end
section
variable {X : Cx} {pins : List (Addr × Obj)} {σ : L2.St} {H : Hp} {s : Shared}
end
end Y

set_option Elab.async false
set_option linter.all false
set_option maxRecDepth 100000
namespace Y
open PySem PySem.Spec PyProof.Rows L2
def RT (H : Hp) (kvs : List (List Key × V)) (ps : List (V × V)) : Prop := Paired (fun (p : List Key × V) (q : V × V) => p.2 = q.2 ∧ ∃ b, q.1 = .ref b ∧ H b = some (.tup (p.1.map kV))) kvs ps
section
variable {X : Cx} {pins : List (Addr × Obj)} {σ : L2.St} {H : Hp} {s : Shared}
end
section
variable {X : Cx} {P0 : Pr} {O W : List Nat} {E : EK} {a b : Expr} {ms : AM} {pos : Pos}
end
variable {ρ : Y.Env}
end Y

set_option Elab.async false
set_option linter.all false
set_option maxRecDepth 100000
namespace Y
open PySem PySem.Spec PyProof.Rows L2
section
variable {X : Cx} {P0 : Pr} {O W U : List Nat} {E : EK} {e : Expr} {ma : EM} {K : PySem.W.Frag} {pos : Pos}
end
variable {ρ : Y.Env}
end Y

set_option Elab.async false
set_option linter.all false
set_option maxRecDepth 100000
namespace Y
open PySem PySem.Spec PyProof.Rows L2
section
variable {K : PySem.W.Frag} {O W : List Nat} {a : Addr} {o : Obj}
end
section
variable {K : PySem.W.Frag} {P0 : Pr} {O W : List Nat} {E : EK} {ρ : Y.Env} {σ : L2.St} {H : Hp} {m : EM} {Q : VK} {a : Addr} {u : HO}
end
section
variable {X : Cx} {P0 : Pr} {O W : List Nat} {E : EK} {tg : Expr} {pos : Pos}
end
variable {ρ : Y.Env}
end Y

set_option Elab.async false
set_option linter.all false
set_option maxRecDepth 100000
namespace Y.HR
open PySem PySem.Spec PyProof.Rows L2 _root_.HT PySem.W PySem.SeqAt PySem.AutoSeq1 PySem.MeetsSeq PySem.MeetsSeq2 PySem.MeetsSeq3
section
variable {prog : Program} {w : World} {A : Around} {E : Value → Shared → Prop} {s : Shared}
end
end Y.HR
namespace Y
open PySem PySem.Spec PyProof.Rows L2
section
variable {X : Cx} {e k : Expr} {te : TE} {p2 pos : Pos}
end
section
variable {X : Cx} {P0 : Pr} {O W : List Nat} {E : EK} {e k : Expr} {ma : EM} {mk : OM} {p2 pos : Pos}
end
variable {ρ : Y.Env}
end Y

set_option Elab.async false
set_option linter.all false
set_option maxRecDepth 100000
namespace Y
open PySem PySem.Spec PyProof.Rows L2
section
variable {X : Cx} {P0 : Pr} {O W : List Nat} {pos : Pos}
end
end Y

set_option Elab.async false
set_option linter.all false
set_option maxRecDepth 100000
namespace Y
open PySem PySem.Spec PyProof.Rows L2
section
variable {X : Cx} {P0 : Pr} {O W : List Nat} {E : EK} {a : Expr} {ma : EM} {pos : Pos}
end
variable {ρ : Y.Env}
end Y

set_option Elab.async false
set_option linter.all false
set_option maxRecDepth 100000
namespace Y
open PySem PySem.Spec PyProof.Rows L2
section
variable {X : Cx}
end
end Y

set_option Elab.async false
set_option linter.all false
set_option maxRecDepth 100000
namespace Y
open PySem PySem.Spec PyProof.Rows L2
section
variable {K : PySem.W.Frag} {P0 : Pr} {O W U : List Nat} {ρ : Y.Env} {σ : L2.St} {H : Hp} {i : Nat}
end
section
variable {X : Cx} {P0 : Pr} {O W U : List Nat} {E : EK} {st2 : Stmt} {sts : List Stmt} {m mr : SM}
end
end Y

set_option Elab.async false
set_option linter.all false
set_option maxRecDepth 100000
namespace Y
open PySem PySem.Spec PyProof.Rows L2
section
variable {X : Cx} {P0 : Pr} {O W : List Nat} {E : EK} {e f : Expr} {mk mv : EM}
end
variable {ρ : Y.Env}
end Y

set_option Elab.async false
set_option linter.all false
set_option maxRecDepth 100000
namespace Y
open PySem PySem.Spec PyProof.Rows L2
section
variable {prog : Program} {w : World} {d r : Addr} {es : Array DictEntry} {ep : Nat}
end
section
variable {X : Cx} {o : Expr} {td : TE} {p pos apos mpos : Pos}
end
section
variable {X : Cx} {P0 : Pr} {O W : List Nat} {E : EK}
end
variable {ρ : Y.Env}
end Y

set_option Elab.async false
set_option linter.all false
set_option maxRecDepth 100000
namespace Y
open PySem PySem.Spec PyProof.Rows L2
end Y

set_option Elab.async false
set_option linter.all false
set_option maxRecDepth 100000
namespace Y
open PySem PySem.Spec PyProof.Rows L2
section
variable {K : PySem.W.Frag} {P0 : Pr} {O W U : List Nat} {ρ : Y.Env} {σ : L2.St} {H : Hp} {i : Nat}
end
section
variable {X : Cx} {P0 : Pr} {O W U : List Nat} {E : EK} {st2 : Stmt} {sts : List Stmt} {m mr : SM}
end
section
variable {X : Cx} {P0 : Pr} {O W : List Nat} {E : EK} {pos : Pos}
end
end Y

set_option Elab.async false
set_option linter.all false
set_option maxRecDepth 100000
namespace Y
open PySem PySem.Spec PyProof.Rows L2
section
variable {X : Cx} {P0 : Pr} {O W : List Nat} {E : EK} {a e f : Expr} {ma mb mc : EM}
end
section
variable {K : PySem.W.Frag} {X : Cx} {P0 : Pr} {O W U : List Nat} {E : EK} {e f : Expr} {mi mx : EM} {pos : Pos}
end
variable {ρ : Y.Env}
end Y

set_option Elab.async false
set_option linter.all false
set_option maxRecDepth 100000
namespace Y
open PySem PySem.Spec PyProof.Rows L2
theorem PGs.imp {X : Cx} {e : List Expr} {t t' : TGs} (h : PGs X e t) (i : ∀ v σ H Q, t' v σ H Q → t v σ H Q) : PGs X e t' := by
  cases h with
  | mk h => exact ⟨fun pins s σ H v u Q I r q => h pins s σ H v u Q I r (i v σ H Q q)⟩
section
variable {X : Cx} {P0 : Pr} {O W : List Nat} {pos : Pos}
end
section
variable {κ : Type} [DecidableEq κ]
end
end Y

set_option Elab.async false
set_option linter.all false
set_option maxRecDepth 100000
namespace Y
open PySem PySem.Spec PyProof.Rows L2 RT
section
variable {prog : Program} {w : World} {A : Around} {E : Value → Shared → Prop} {s : Shared}
end
section
variable {X : Cx}
end
section
variable {X : Cx} {P0 : Pr} {O W : List Nat} {E : EK} {e : Expr} {me : EM} {pos : Pos}
end
variable {ρ : Y.Env}
end Y

set_option Elab.async false
set_option linter.all false
set_option maxRecDepth 100000
namespace Y
open PySem PySem.Spec PyProof.Rows L2
end Y

set_option Elab.async false
set_option linter.all false
set_option maxRecDepth 100000
namespace Y
open PySem PySem.Spec PyProof.Rows L2
abbrev PrT := Addr × List Int
/-- what a set holds of the first i things -/
structure Has (ks : List PrT) (i : Nat) (L : List PrT) : Prop where
  low : ∀ q ∈ L, q ∈ ks.take i
  top : ∀ q ∈ ks.take i, q.2 ∈ L.map (·.2)
theorem Has.none (ks : List PrT) : Has ks 0 [] := ⟨fun q z => (nomatch z), fun q z => by simp at z⟩
theorem take_more {α : Type} {l : List α} {i : Nat} {x : α} (h : l[i]? = some x) : l.take (i + 1) = l.take i ++ [x] := by rw [List.take_add_one, h]; rfl
theorem Has.stay {ks L : List PrT} {i : Nat} {x : PrT} (g : Has ks i L) (h : ks[i]? = some x) (m : x.2 ∈ L.map (·.2)) : Has ks (i + 1) L := by
  refine ⟨fun q z => ?_, fun q z => ?_⟩
  · rw [take_more h]; exact List.mem_append_left _ (g.low q z)
  · rw [take_more h] at z
    rcases List.mem_append.mp z with z | z
    · exact g.top q z
    · rw [List.mem_singleton] at z; rw [z]; exact m
theorem Has.grow {ks L M : List PrT} {i : Nat} {x : PrT} (g : Has ks i L) (h : ks[i]? = some x) (pm : M.Perm (x :: L)) : Has ks (i + 1) M := by
  refine ⟨fun q z => ?_, fun q z => ?_⟩
  · rw [take_more h]
    rcases List.mem_cons.mp (pm.mem_iff.mp z) with rfl | z
    · exact List.mem_append_right _ (by simp)
    · exact List.mem_append_left _ (g.low q z)
  · refine (pm.map (·.2)).mem_iff.mpr ?_
    rw [take_more h] at z
    rcases List.mem_append.mp z with z | z
    · exact List.mem_cons_of_mem _ (g.top q z)
    · rw [List.mem_singleton] at z; rw [z]; exact List.mem_cons_self
theorem card_le {α : Type} [DecidableEq α] : ∀ {A B : List α}, A.Nodup → (∀ x ∈ A, x ∈ B) → A.length ≤ B.length
  | [], B, _, _ => Nat.zero_le _
  | x :: A, B, h, s => by
    obtain ⟨h1, h2⟩ := List.nodup_cons.mp h
    have hx := s x (by simp)
    have ih := card_le (A := A) (B := B.erase x) h2 fun y hy => (List.mem_erase_of_ne fun z : y = x => h1 (by rw [← z]; exact hy)).mpr (s y (by simp [hy]))
    rw [List.length_erase_of_mem hx] at ih
    have := List.length_pos_of_mem hx
    rw [List.length_cons]
    omega
section
variable {P : Program} {w : World} {A : Around} {E : Value → Shared → Prop} {s : Shared}
end
section
variable {K : PySem.W.Frag} {X : Cx} {P0 : Pr} {O W : List Nat} {E : EK} {a e : Expr} {ma : EM} {pos : Pos}
end
end Y

set_option Elab.async false
set_option linter.all false
set_option maxRecDepth 100000
namespace Y
open PySem PySem.Spec PyProof.Rows L2
end Y

set_option Elab.async false
set_option linter.all false
set_option maxRecDepth 100000
namespace Y
open PySem PySem.Spec PyProof.Rows L2
section
variable {X : Cx}
end
end Y

set_option Elab.async false
set_option linter.all false
set_option maxRecDepth 100000
namespace Y
open PySem PySem.Spec PyProof.Rows L2
section
variable {X : Cx}
end
end Y

set_option Elab.async false
set_option linter.all false
set_option maxRecDepth 100000
namespace Y
open PySem PySem.Spec PyProof.Rows L2
section
variable {X : Cx} {e k : Expr} {te : TE} {p2 pos : Pos}
end
section
variable {X : Cx} {P0 : Pr} {O W : List Nat} {E : EK} {e k : Expr} {ma : EM} {mk : OM} {p2 pos : Pos}
end
variable {ρ : Y.Env}
end Y

set_option Elab.async false
set_option linter.all false
set_option maxRecDepth 100000
namespace Y
open PySem PySem.Spec PyProof.Rows L2
variable {K : PySem.W.Frag} {P0 : Pr} {O W U : List Nat} {E : EK} {ms : AM}
section
variable {X : Cx}
end
variable {ρ : Y.Env}
end Y

set_option Elab.async false
set_option linter.all false
set_option maxRecDepth 100000
namespace Y
open PySem PySem.Spec PyProof.Rows L2
section
variable {X : Cx} {P0 : Pr} {O W U : List Nat} {E : EK} {st2 : Stmt} {sts : List Stmt} {m mr : SM}
end
end Y

set_option Elab.async false
set_option linter.all false
set_option maxRecDepth 100000
namespace Y
open PySem PySem.Spec PyProof.Rows L2
section
variable {X : Cx} {i : Nat} {x : Str}
end
end Y

set_option Elab.async false
set_option linter.all false
set_option maxRecDepth 100000
namespace Y
open PySem PySem.Spec PyProof.Rows L2
section
variable {K : PySem.W.Frag} {O W : List Nat}
end
section
variable {X : Cx} {P0 : Pr} {O W : List Nat} {E : EK} {a b c tg : Expr} {ms : AM} {pos : Pos}
end
end Y

set_option Elab.async false
set_option linter.all false
set_option maxRecDepth 100000
namespace Y
open PySem PySem.Spec PyProof.Rows L2
section
variable {prog : Program} {w : World} {A : Around} {E : Value → Shared → Prop}
end
section
variable {X : Cx}
end
end Y

set_option Elab.async false
set_option linter.all false
set_option maxRecDepth 100000
namespace Y
open PySem PySem.Spec PyProof.Rows L2
section
variable {X : Cx} {P0 : Pr} {O W U : List Nat} {E : EK} {st : Stmt} {m n : SM} {pre tl : List Stmt}
end
section
variable {K : PySem.W.Frag} {P0 : Pr} {O W : List Nat} {ρ1 ρ2 : Y.Env} {σ1 σ2 : L2.St} {H1 H2 : Hp}
end
section
variable {X : Cx} {P0 : Pr} {O W U UU us : List Nat} {E : EK} {XE : XK} {e : Expr} {es : List Expr} {ms : AM} {pos pos2 p px : Pos} {k np i : Nat} {name x : Str} {n n0 : SM} {tl pre : List Stmt} {tr : D → Bool} {R : PySem.W.Frag → Pr → V → Hp → Prop}
end
end Y

set_option Elab.async false
set_option linter.all false
set_option maxRecDepth 100000
namespace Y
open PySem PySem.Spec PyProof.Rows L2
section
variable {K : PySem.W.Frag} {X : Cx} {P0 : Pr} {O W : List Nat} {E : EK} {e : Expr} {es : List Expr} {ms : AM} {pos : Pos}
end
section
variable {K : PySem.W.Frag} {X : Cx} {P0 : Pr} {O W : List Nat} {E : EK} {o e : Expr} {es : List Expr} {to : TE} {t : TA} {name : Str} {apos cpos : Pos} {id : String} {r : V → List V → Hp → VK → Prop}
end
section
variable {X : Cx}
end
variable {ρ : Y.Env}
@[simp] theorem d_lenF {x : List D} : lenD [.ftu x] = .ok (.int x.length) := id rfl
@[simp] theorem d_itF {x : List D} : itD (.ftu x) = .ok x := id rfl
@[simp] theorem d_ixF {x : List D} {i : Int} : ixD (.ftu x) (.int i) = match atI x i with | some d => .ok d | none => .stk := id rfl
@[simp] theorem isFt_F {ds : List D} : isFt (.ftu ds) = true := id rfl
@[simp] theorem isTup_F {ds : List D} : isTup (.ftu ds) = true := id rfl
@[simp] theorem nlF {ds : List D} : D.nl (.ftu ds) = nls ds := by simp [D.nl]
end Y

set_option Elab.async false
set_option linter.all false
set_option maxRecDepth 100000
set_option maxHeartbeats 4000000
namespace Y
open PySem PySem.Spec PyProof.Rows L2
section
variable {X : Cx}
end
end Y

set_option Elab.async false
set_option linter.all false
set_option maxRecDepth 100000
set_option maxHeartbeats 4000000
namespace Y
open PySem PySem.Spec PyProof.Rows L2
section
variable {prog : Program} {w : World} {A : Around} {E : Value → Shared → Prop} {s : Shared} {R : Result → Shared → Prop} {e it S T : Addr} {fp : List Addr} {n i : Nat} {P : Nat → Value → Prop} {St : Nat → Heap → Prop} {f : Bool} {oT : Obj} {old : Value}
/-- i pairs are out -/
def ESt (e it S : Addr) (St : Nat → Heap → Prop) (i : Nat) (h : Heap) : Prop := St i h ∧
  ((∃ old, IsEnum h e it ((i : Nat) : Int) old) ∨ ∃ old T f oT, IsEnumHeld h e it ((i : Nat) : Int) old T f ∧ h.get? T = some oT ∧ T ≠ e ∧ T ≠ it ∧ T ≠ S)
theorem ESt.ty {h : Heap} (x : ESt e it S St i h) : ∃ o, h.get? e = some o ∧ o.cls = .type "enumerate" := by
  rcases x.2 with ⟨_, y⟩ | ⟨_, _, _, _, y, _⟩
  · exact ⟨_, y, rfl⟩
  · exact ⟨_, y, rfl⟩
theorem ESt.stay (D : Draws prog w A it fp n P St) {h h' : Heap} (x : ESt e it S St i h) (nz : S ≠ e) (n1 : S ∉ fp) (k : ∀ b o, b ≠ S → h.get? b = some o → h'.get? b = some o) : ESt e it S St i h' := by
  obtain ⟨a, d⟩ := x
  refine ⟨D.frame _ _ _ a fun q hq o y => k q o (fun e2 => n1 (e2 ▸ hq)) y, ?_⟩
  rcases d with ⟨old, y⟩ | ⟨old, T, f, oT, y, y2, d3, d4, d5⟩
  · exact .inl ⟨old, k _ _ nz.symm y⟩
  · exact .inr ⟨old, T, f, oT, k _ _ nz.symm y, k _ _ d5 y2, d3, d4, d5⟩
end
end Y

set_option Elab.async false
set_option linter.all false
set_option maxRecDepth 100000
set_option maxHeartbeats 4000000
namespace Y
open PySem PySem.Spec PyProof.Rows L2
section
variable {X : Cx} {pins : List (Addr × Obj)} {σ : L2.St} {H : Hp} {s : Shared}
end
section
variable {X : Cx} {P0 : Pr} {O W : List Nat} {E : EK} {a b : Expr} {ms : AM} {pos : Pos}
end
variable {ρ : Y.Env}
end Y

set_option Elab.async false
set_option linter.all false
set_option maxRecDepth 100000
namespace Y
open PySem PySem.Spec PyProof.Rows L2
section
variable {X : Cx} {P0 : Pr} {O W : List Nat} {E : EK} {k v : Int} {c1 c2} {p1 p2 pos : Pos}
end
end Y

set_option Elab.async false
set_option linter.all false
set_option maxRecDepth 100000
namespace Y
open PySem PySem.Spec PyProof.Rows L2
section
variable {X : Cx} {P0 : Pr} {O W : List Nat} {E : EK} {a e : Expr} {ma mk : EM} {pos : Pos}
end
variable {ρ : Y.Env}
end Y

set_option Elab.async false
set_option linter.all false
set_option maxRecDepth 100000
namespace Y
open PySem PySem.Spec PyProof.Rows L2
section
variable {K : PySem.W.Frag} {P0 : Pr} {O W : List Nat} {ρ : Env} {σ : St} {H : Hp}
end
section
variable {X : Cx} {P0 : Pr} {O W U : List Nat} {E : EK} {st2 st3 : Stmt} {sts : List Stmt} {es : List Expr} {m0 : AM} {m2 m3 mr : SM}
end
end Y

set_option Elab.async false
set_option linter.all false
set_option maxRecDepth 100000
namespace Y
open PySem PySem.Spec PyProof.Rows L2
section
variable {X : Cx} {P0 : Pr} {O W U : List Nat} {E : EK} {e e2 : Expr} {ms : AM} {pos p2 : Pos} {k i : Nat}
end
end Y

set_option Elab.async false
set_option linter.all false
set_option maxRecDepth 100000
namespace Y
open PySem PySem.Spec PyProof.Rows L2
section
variable {X : Cx} {P0 : Pr} {O W U : List Nat} {E : EK} {i : Nat} {x : Str}
end
end Y

set_option Elab.async false
set_option linter.all false
set_option maxRecDepth 100000
namespace Y
open PySem PySem.Spec PyProof.Rows L2
def splitD : D → D → R D
  | .str x, .str y => if (y.length == 0) = false ∧ x.length ≤ 1000000 then .ok (.lst ((Txt.split x y).map D.str)) else .stk
  | _, _ => .stk
def partiD : D → D → R D
  | .str x, .str y => if (y.length == 0) = false ∧ x.length ≤ 1000000 then .ok (.tup [.str (Txt.partition x y).1, .str (Txt.partition x y).2.1, .str (Txt.partition x y).2.2]) else .stk
  | _, _ => .stk
def cSplit (a b : EM) : EM := fun ρ => do
  let (h1, ρ1) ← a ρ
  let x ← h1.v.nox
  match x with
  | .str s => do
    let (h2, ρ2) ← b ρ1
    let y ← h2.v.nox
    let z ← (splitD (.str s) y).nox
    pure (.fr z, ρ2)
  | _ => .stk
def cParti (a b : EM) : EM := fun ρ => do
  let (h1, ρ1) ← a ρ
  let x ← h1.v.nox
  match x with
  | .str s => do
    let (h2, ρ2) ← b ρ1
    let y ← h2.v.nox
    let z ← (partiD (.str s) y).nox
    pure (.fr z, ρ2)
  | _ => .stk
section
variable {K : PySem.W.Frag} {X : Cx} {P0 : Pr} {O W U : List Nat} {E : EK} {a b e : Expr} {ma mb : EM} {pos : Pos}
theorem reps_str {H : Hp} {P : Pr} : ∀ {ys : List Str}, Reps K H (ys.map D.str) P (ys.map V.str)
  | [] => Reps.nil
  | y :: ys => Reps.cons (by unfold Rep; rfl) reps_str
theorem ce_split {apos : Pos} (ha : CEx X P0 O W E a ma) (hb : CEx X P0 O W E e mb) (hs : starEach [e] X.env = [(false, eval e X.env)] := by rfl) (hbase : attributeBase a "split" X.env (eval a X.env) = eval a X.env := by rfl) (hline : (apos.endLine == pos.line) = true := by rfl) :
    CEx X P0 O W E (.Call (.Attribute a "split" apos) [e] [] pos) (cSplit ma mb) := PE.imp (pe_m1 PySem.F.slot_str_split PySem.F.type_str_split mt_split ha hb hs hbase hline) fun σ H Q ⟨ρ, S, h⟩ => by
  refine ⟨ρ, S, h.of_bind.mono fun ⟨h1, ρ1⟩ q v H1 S1 k1 r1 => ?_⟩
  obtain ⟨d, e1, q⟩ := q.of_nox
  have rd := r1.v e1
  cases d <;> first | (exact q.elim) | skip
  rename_i s
  unfold Rep at rd
  subst rd
  have q : Res E W σ H (mb ρ1 >>= fun p => p.1.v.nox >>= fun y => (splitD (.str s) y).nox >>= fun z => R.ok (Hd.fr z, p.2)) _ := q
  refine ⟨⟨s, rfl⟩, ρ1, S1, (q.of_bind.keep k1).mono fun ⟨h2, ρ2⟩ q2 w H2 S2 k2 r2 => ?_⟩
  obtain ⟨y, e2, q2⟩ := q2.of_nox
  obtain ⟨z, e3, q2⟩ := q2.of_nox
  have rw2 := r2.v e2
  have o := out_of (K := X.K) S2 (k1.trans k2) q2
  unfold splitD at e3
  cases y <;> first | (cases e3; done) | skip
  rename_i y
  unfold Rep at rw2
  subst rw2
  simp only at e3
  split at e3
  · rename_i c
    cases e3
    have sz : sizeLine = 16777216 := by decide
    refine ⟨s, y, rfl, rfl, c.1, by rw [sz]; omega, fun p hp => ?_⟩
    exact o.newL S2.dom reps_str hp
  · cases e3
theorem ce_parti {apos : Pos} (ha : CEx X P0 O W E a ma) (hb : CEx X P0 O W E e mb) (hs : starEach [e] X.env = [(false, eval e X.env)] := by rfl) (hbase : attributeBase a "partition" X.env (eval a X.env) = eval a X.env := by rfl) (hline : (apos.endLine == pos.line) = true := by rfl) :
    CEx X P0 O W E (.Call (.Attribute a "partition" apos) [e] [] pos) (cParti ma mb) := PE.imp (pe_m1 PySem.F.slot_str_partition PySem.F.type_str_partition mt_partition ha hb hs hbase hline) fun σ H Q ⟨ρ, S, h⟩ => by
  refine ⟨ρ, S, h.of_bind.mono fun ⟨h1, ρ1⟩ q v H1 S1 k1 r1 => ?_⟩
  obtain ⟨d, e1, q⟩ := q.of_nox
  have rd := r1.v e1
  cases d <;> first | (exact q.elim) | skip
  rename_i s
  unfold Rep at rd
  subst rd
  have q : Res E W σ H (mb ρ1 >>= fun p => p.1.v.nox >>= fun y => (partiD (.str s) y).nox >>= fun z => R.ok (Hd.fr z, p.2)) _ := q
  refine ⟨⟨s, rfl⟩, ρ1, S1, (q.of_bind.keep k1).mono fun ⟨h2, ρ2⟩ q2 w H2 S2 k2 r2 => ?_⟩
  obtain ⟨y, e2, q2⟩ := q2.of_nox
  obtain ⟨z, e3, q2⟩ := q2.of_nox
  have rw2 := r2.v e2
  have o := out_of (K := X.K) S2 (k1.trans k2) q2
  unfold partiD at e3
  cases y <;> first | (cases e3; done) | skip
  rename_i y
  unfold Rep at rw2
  subst rw2
  simp only at e3
  split at e3
  · rename_i c
    cases e3
    have sz : sizeLine = 16777216 := by decide
    refine ⟨s, y, rfl, rfl, c.1, by rw [sz]; omega, fun p hp => ?_⟩
    exact o.newT S2.dom (reps_str (ys := [_, _, _])) hp
  · cases e3
end
variable {ρ : Y.Env}
@[simp] theorem e_split {a b : EM} : cSplit a b ρ = (a ρ >>= fun p => p.1.v.nox >>= fun x => match x with | .str s => (b p.2 >>= fun q => q.1.v.nox >>= fun y => (splitD (.str s) y).nox >>= fun z => R.ok (.fr z, q.2)) | _ => .stk) := id rfl
@[simp] theorem e_parti {a b : EM} : cParti a b ρ = (a ρ >>= fun p => p.1.v.nox >>= fun x => match x with | .str s => (b p.2 >>= fun q => q.1.v.nox >>= fun y => (partiD (.str s) y).nox >>= fun z => R.ok (.fr z, q.2)) | _ => .stk) := id rfl
end Y

set_option Elab.async false
set_option linter.all false
set_option maxRecDepth 100000
namespace Y
open PySem PySem.Spec PyProof.Rows L2
section
variable {X : Cx} {pins : List (Addr × Obj)} {σ : L2.St} {H : Hp} {s : Shared}
end
/-- what a def with a hidden slot promises; the slot's datum is the last one of g -/
def spT (K : PySem.W.Frag) (mg : Str → Option Value) (np : Nat) (O : List Nat) (g : Fn) : Sp := fun vs H Q E => vs.length = np ∧ ∃ v, spD K mg (np + 1) O g (vs ++ [v]) H Q E
structure GloT (P : Program) (w : World) (K : PySem.W.Frag) (mg : Str → Option Value) (base : Heap) (name : Str) (k np : Nat) (O : List Nat) (g : Fn) : Prop where
  ex : ∃ f fd ps, mg name = some (.ref f) ∧ PySem.W.keepIn K (.ref f) = true ∧ Binds K fd ps [] ∧ ps.length = np ∧ FnOk P w K mg base (L2N.CX P w) k f fd ps (spT K mg np O g)
section
variable {K : PySem.W.Frag} {mg : Str → Option Value} {P0 : Pr} {O Oc W U : List Nat} {ρ : Env} {σ : St} {H H' : Hp} {d : D} {v : V} {np n : Nat}
end
theorem GloT.mono {P : Program} {w : World} {K : PySem.W.Frag} {mg : Str → Option Value} {base : Heap} {name : Str} {k np : Nat} {O : List Nat} {g : Fn} {k' : Nat} (G : GloT P w K mg base name k np O g) (h : k ≤ k' := by decide) : GloT P w K mg base name k' np O g :=
  let ⟨f, fd, ps, h1, h2, h3, h4, F⟩ := G.ex
  ⟨f, fd, ps, h1, h2, h3, h4, F.mono h⟩
section
variable {X : Cx} {P0 : Pr} {O Oc W U : List Nat} {E : EK} {XE : XK} {e : Expr} {es : List Expr} {ms : AM} {pos : Pos} {k np : Nat} {name : Str} {pr : List (Nat × Nat)} {t : Nat}
end
end Y

set_option Elab.async false
set_option linter.all false
set_option maxRecDepth 100000
set_option maxHeartbeats 2000000
namespace Y
open PySem PySem.Spec PyProof.Rows L2
section
variable {X : Cx} {pins : List (Addr × Obj)} {σ : L2.St} {H : Hp} {s : Shared}
end
section
variable {prog : Program} {w : World} {A : Around} {s : Shared} {x q : Str} {params : Arguments} {body : Expr} {scope : Scope} {pm ctv : Value} {c' f : Addr} {v : Value} {Q : Value → Shared → Prop}
end
end Y

set_option Elab.async false
set_option linter.all false
set_option maxRecDepth 100000
set_option maxHeartbeats 2000000
namespace Y
open PySem PySem.Spec PyProof.Rows L2
section
variable {α : Type} {g : α → Int}
end
section
variable {X : Cx} {pins : List (Addr × Obj)} {σ : L2.St} {H : Hp} {s : Shared} {x q c : Str} {params : Arguments} {body : Expr} {scope : Scope} {pm ctv : Value} {c' f a : Addr} {xs : List Str} {Q : VK} {k : Nat}
end
end Y

set_option Elab.async false
set_option linter.all false
set_option maxRecDepth 100000
set_option maxHeartbeats 2000000
namespace Y
open PySem PySem.Spec PyProof.Rows L2
section
variable {K : PySem.W.Frag} {P0 : Pr} {O W : List Nat} {ρ : Env} {σ : L2.St} {H H2 : Hp} {t : Nat} {P : Addr} {q : Str}
end
section
variable {X : Cx} {P0 : Pr} {O W : List Nat} {E : EK} {a : Expr} {ma : EM} {pos : Pos} {k : Nat}
end
variable {ρ : Y.Env}
end Y

set_option Elab.async false
set_option linter.all false
set_option maxRecDepth 100000
namespace Y
open PySem PySem.Spec PyProof.Rows L2
section
variable {K : PySem.W.Frag} {mg : Str → Option Value} {O Oc W U : List Nat} {np n : Nat}
end
end Y

set_option Elab.async false
set_option linter.all false
set_option maxRecDepth 100000
namespace Y
open PySem PySem.Spec PyProof.Rows L2
section
variable {X : Cx} {P0 : Pr} {O Oc W : List Nat} {e : Expr} {es : List Expr} {ms : AM} {pos : Pos} {k k0 np : Nat} {name : Str} {pr : List (Nat × Nat)} {t : Nat}
end
end Y

set_option Elab.async false
set_option linter.all false
set_option maxRecDepth 100000
namespace Y
open PySem PySem.Spec PyProof.Rows L2
end Y

set_option Elab.async false
set_option linter.all false
set_option maxRecDepth 100000
set_option maxHeartbeats 4000000
namespace Y
open PySem PySem.Spec PyProof.Rows L2
section
variable {prog : Program} {w : World} {A : Around} {s : Shared} {x : Str} {Q : Value → Shared → Prop}
end

section
variable {X : Cx} {P0 : Pr} {O W : List Nat} {E : EK} {a : Expr} {ma : EM} {pos : Pos} {k : Nat}
end
end Y

set_option Elab.async false
set_option linter.all false
set_option maxRecDepth 100000
set_option maxHeartbeats 2000000
namespace Y
open PySem PySem.Spec PyProof.Rows L2
section
variable {X : Cx} {P0 : Pr} {O W : List Nat} {E : EK} {a : Expr} {ma : EM} {pos : Pos} {k : Nat}
end
variable {ρ : Y.Env}
end Y

set_option Elab.async false
set_option linter.all false
set_option maxRecDepth 100000
set_option maxHeartbeats 2000000
namespace Y
open PySem PySem.Spec PyProof.Rows L2
def lenT (d : D) : Int := match d with
  | .tup ds => (ds.length : Int)
  | .ftu ds => (ds.length : Int)
  | _ => 0
section
variable {X : Cx} {P0 : Pr} {O W : List Nat} {E : EK} {a : Expr} {ma : EM} {pos : Pos} {k : Nat}
end
variable {ρ : Y.Env}
end Y

set_option Elab.async false
set_option linter.all false
set_option maxRecDepth 100000
set_option maxHeartbeats 4000000
namespace Y
open PySem PySem.Spec PyProof.Rows L2
section
variable {prog : Program} {w : World} {A : Around} {E : Value → Shared → Prop} {s : Shared} {e it T : Addr} {fp : List Addr} {n i : Nat} {P : Nat → Value → Prop} {St : Nat → Heap → Prop} {f : Bool} {old : Value}
end
section
variable {X : Cx} {P0 : Pr} {O W : List Nat} {E : EK} {a e : Expr} {ms : AM} {pos : Pos}
end
end Y

set_option Elab.async false
set_option linter.all false
set_option maxRecDepth 100000
set_option maxHeartbeats 4000000
namespace Y
open PySem PySem.Spec PyProof.Rows L2
section
variable {X : Cx}
end
end Y

set_option Elab.async false
set_option linter.all false
set_option maxRecDepth 100000
set_option maxHeartbeats 4000000
namespace Y
open PySem PySem.Spec PyProof.Rows L2
section
variable {X : Cx}
end
end Y

set_option Elab.async false
set_option linter.all false
set_option maxRecDepth 100000
set_option maxHeartbeats 4000000
namespace Y
open PySem PySem.Spec PyProof.Rows L2
section
variable {P : Program} {w : World} {A : Around} {E : Value → Shared → Prop} {s : Shared}
def IntsE (l : List (Int × Value)) : Prop := ∀ e ∈ l, GoodE e
theorem IntsE.perm {l l' : List (Int × Value)} (h : IntsE l) (p : l'.Perm l) : IntsE l' := fun e he => h e (p.mem_iff.mp he)
end
end Y

namespace Y
open PySem PySem.Spec PyProof.Rows L2
end Y

namespace Y
open PySem PySem.Spec PyProof.Rows L2
section
variable {K : PySem.W.Frag} {X : Cx} {P0 : Pr} {O W : List Nat} {E : EK} {a b : Expr} {ma mb : EM} {pos : Pos}
end
variable {ρ : Y.Env}
end Y

set_option Elab.async false
set_option linter.all false
set_option maxRecDepth 100000
set_option maxHeartbeats 4000000
namespace Y
open PySem PySem.Spec PyProof.Rows L2
section
variable {X : Cx} {P0 : Pr} {O W U : List Nat} {E : EK} {a b : Expr} {ms : AM} {pos : Pos}
end
variable {ρ : Y.Env}
end Y

set_option Elab.async false
set_option linter.all false
set_option maxRecDepth 100000
namespace Y
open PySem PySem.Spec PyProof.Rows L2
section
variable {X : Cx}
end
end Y

set_option Elab.async false
set_option linter.all false
set_option maxRecDepth 100000
set_option maxHeartbeats 4000000
namespace Y
open PySem PySem.Spec PyProof.Rows L2
section
variable {X : Cx}
end
section
variable {K : PySem.W.Frag} {X : Cx} {P0 : Pr} {O W : List Nat} {E : EK} {a b : Expr} {ma mb : EM} {pos : Pos}
end
section
variable {X : Cx} {P0 : Pr} {O W U : List Nat} {E : EK}
end
variable {ρ : Y.Env}
end Y

set_option Elab.async false
set_option linter.all false
set_option maxRecDepth 100000
set_option maxHeartbeats 4000000
namespace Y
open PySem PySem.Spec PyProof.Rows L2
section
variable {X : Cx} {P0 : Pr} {O W : List Nat} {E : EK} {b : Expr} {mb : EM} {pos p : Pos}
end
variable {ρ : Y.Env}
end Y

set_option Elab.async false
set_option linter.all false
set_option maxRecDepth 100000
namespace Y
open PySem PySem.Spec PyProof.Rows L2
section
variable {K : PySem.W.Frag} {P0 : Pr} {O W : List Nat} {E : EK} {m : EM}
end
end Y

set_option Elab.async false
set_option linter.all false
set_option maxRecDepth 100000
namespace Y
open PySem PySem.Spec PyProof.Rows L2
section
variable {K : PySem.W.Frag} {X : Cx} {P0 : Pr} {O W U : List Nat} {E : EK} {a b e : Expr} {ma mb : EM} {pos : Pos}
end
variable {ρ : Y.Env}
end Y

set_option Elab.async false
set_option linter.all false
set_option maxRecDepth 100000
namespace Y
open PySem PySem.Spec PyProof.Rows L2
section
variable {X : Cx} {P0 : Pr} {O W : List Nat} {E : EK} {e k : Expr} {ma : EM} {mk : OM} {p2 pos : Pos}
end
variable {ρ : Y.Env}
end Y

set_option Elab.async false
set_option linter.all false
set_option maxRecDepth 100000
namespace Y
open PySem PySem.Spec PyProof.Rows L2
section
variable {M : Model} {A : Around} {E : Value → Shared → Prop} {s : Shared} {env : PySem.Env}
end
section
variable {X : Cx} {pins : List (Addr × Obj)} {σ : L2.St} {H : Hp} {s s' : Shared} {E : XK}
end
section
variable {X : Cx} {pins : List (Addr × Obj)} {σ : L2.St} {H3 : Hp} {s3 : Shared} {scope : Scope} {fp : List Addr} {E : XK}
end
end Y

set_option Elab.async false
set_option linter.all false
set_option maxRecDepth 100000
namespace Y
open PySem PySem.Spec PyProof.Rows L2
section
variable {X : Cx} {E : XK}
end
end Y

set_option Elab.async false
set_option linter.all false
set_option maxRecDepth 100000
namespace Y
open PySem PySem.Spec PyProof.Rows L2
section
variable {K : PySem.W.Frag} {P0 : Pr} {O W : List Nat} {E : EK}
end
section
variable {X : Cx} {P0 : Pr} {O W : List Nat} {E : EK} {XE : XK} {tg : Expr} {pos : Pos}
end
end Y

set_option Elab.async false
set_option linter.all false
set_option maxRecDepth 100000
namespace Y
open PySem PySem.Spec PyProof.Rows L2
section
variable {K : PySem.W.Frag} {P0 : Pr} {O W : List Nat} {E : EK}
end
section
variable {X : Cx} {P0 : Pr} {O W : List Nat} {E : EK} {XE : XK} {tg : Expr} {pos : Pos}
end
end Y

set_option Elab.async false
set_option linter.all false
set_option maxRecDepth 100000
namespace Y
open PySem PySem.Spec PyProof.Rows L2
def oexB (K : PySem.W.Frag) (C : Addr) : Bool := match K.lookup C with
  | some ⟨.type "type", _, .cls cd, sl⟩ => (match cd.mro, sl.toList with
    | .ref C' :: bm, [_, _, _, _, some (.builtin n), _] => C' == C && n == "ValueError.__new__" && !cd.hasDel && cd.hasDict && PySem.HandSPX.refsVE bm
    | _, _ => false)
  | _ => false
theorem oex_cls {K : PySem.W.Frag} {C : Addr} (q : oexB K C = true) : ∃ nm q N bs bm sn sub ab col dd k0 k1 k2 k3 k5, K.lookup C = some (excClassObj nm q C N bs bm true sn sub ab col dd k0 k1 k2 k3 k5 "ValueError.__new__") ∧ PySem.HandSPX.refsVE bm = true := by
  unfold oexB at q
  split at q
  · rename_i dd cd sl ho
    split at q
    · rename_i C' bm k0 k1 k2 k3 n k5 hm hs
      simp only [Bool.and_eq_true, beq_iff_eq, Bool.not_eq_true'] at q
      obtain ⟨⟨⟨⟨rfl, rfl⟩, hdel⟩, hdc⟩, ht⟩ := q
      obtain ⟨nm, bs, mro, ns, qn, hd, sn, sub, ab, col, del⟩ := cd
      dsimp only at hm hdel hdc
      subst hm hdel hdc
      have hsl : sl = #[k0, k1, k2, k3, some (.builtin "ValueError.__new__"), k5] := by
        obtain ⟨l⟩ := sl
        simp only at hs
        rw [hs]
      subst hsl
      exact ⟨nm, qn, ns, bs, bm, sn, sub, ab, col, dd, k0, k1, k2, k3, k5, ho, ht⟩
    · cases q
  · cases q
/-- the class above: its __init__ is ValueError's -/
structure BaseI (K : PySem.W.Frag) (mg : Str → Option Value) (x : Str) : Prop where
  ex : ∃ B, mg x = some (.ref B) ∧ PySem.W.specialIn K (.ref B) "__getattribute__" = some (some (.builtin "type.__getattribute__")) ∧ PySem.W.typeIn K (.ref B) = some (.type "type") ∧ PySem.W.readsIn K B (.type "type") = true ∧ PySem.W.findCls K (.ref B) (.type "type") "__init__" = some (.val (.builtin "ValueError.__init__"))
/-- __init__(self, row) -/
def spNT (K : PySem.W.Frag) : Sp := fun vs H Q _ => ∃ (a C : Addr) (k : Int), vs = [.ref a, .int k] ∧ OexC K C ∧ PySem.W.findIn K (.ref C) "row" = some none ∧ H a = some (exo a C none) ∧
  ∀ dx, H dx = none → dx ≠ a → Q .non (upd (upd H dx (exd dx [("row", .int k)])) a (exo a C (some dx)))
/-- what the class of such refusals bears -/
structure RowF (K : PySem.W.Frag) (mg : Str → Option Value) (x : Str) (st : Stmt) : Prop where
  ex : ∃ (C fI : Addr) (fd : FuncData), mg x = some (.ref C) ∧ OexC K C ∧ PySem.W.findIn K (.ref C) "__init__" = some (some (.ref fI)) ∧ PySem.W.typeIn K (.ref fI) = some (.type "function") ∧ PySem.W.findIn K (.ref C) "row" = some none ∧ Fun K "__init__" (x ++ ".__init__") st fI fd
structure RowC (P : Program) (w : World) (K : PySem.W.Frag) (mg : Str → Option Value) (base : Heap) (x : Str) (k : Nat) : Prop where
  ex : ∃ (C fI : Addr) (fd : FuncData) (ps : List Str), mg x = some (.ref C) ∧ OexC K C ∧ PySem.W.findIn K (.ref C) "__init__" = some (some (.ref fI)) ∧ PySem.W.typeIn K (.ref fI) = some (.type "function") ∧ PySem.W.findIn K (.ref C) "row" = some none ∧ Binds K fd ps [] ∧ FnOk P w K mg base (L2N.CX P w) k fI fd ps (spNT K)
section
variable {X : Cx} {P0 : Pr} {O W U : List Nat} {E : EK} {XE : XK} {e : Expr} {es : List Expr} {te : TE} {ta : TA} {ma : EM} {p p1 p2 pos : Pos}
theorem pe_ninit {pl : Sem Bool} {x : Str} (B : BaseI X.K X.mg x) (hg : Gl X x) (ha : PA X (e :: es) ta) (hdb : (x == ("__debug__" : Str)) = false := by decide)
    (hc : eval (.Call (.Attribute (.Name x p1) "__init__" p2) (e :: es) [] pos) X.env = (do
      let ov ← eval (.Name x p1) X.env
      standAt p2.atName
      let (f, first) ← holding [ov] (getMethod ov "__init__" pl)
      callWith pos f first (backTo pos (starEach (e :: es) X.env)) (backToKw pos (keywordEach [] X.env))) := by rfl)
    (he : starEach (e :: es) X.env = (false, eval e X.env) :: starEach es X.env := by rfl) (hpl : (backTo pos (starEach es X.env)).any (·.1) = false := by rfl) :
    PE X (.Call (.Attribute (.Name x p1) "__init__" p2) (e :: es) [] pos) (tVeI X.K ta) := by
  obtain ⟨B, hm, sg, ty, rd, fc⟩ := B.ex
  refine ⟨fun pins s σ H Q I h => ?_⟩
  refine PySem.W.methodCall_KW (ld_glob I hg hm ?_ hdb) hc
  obtain ⟨m, fr⟩ := I.fr
  refine PySem.W.method_of_cls fr I.ok.mod.kin sg (PySem.W.cls_val fr I.ok.mod.kin ty rd fc (by decide +kernel) ?_)
  show wpAny _ _ (callWith pos (Value.builtin "ValueError.__init__") [] (backTo pos (starEach (e :: es) X.env)) []) _ _ _
  refine PyProof.Rows.callWith_method1 (thn (ha.run pos pins _ σ H _ (I.tok _) h) fun us s1 ⟨vs, H1, I1, r1, a, C, ws, ev, hl, T, ea, q⟩ => ?_) he hpl
  subst ev
  cases r1 with
  | @cons _ u0 _ ur ra rw' =>
    obtain rfl : u0 = Value.ref a := ra
    have hlen : ur.length ≤ sizeLine := by
      rw [← Paired.length rw', sizeLine_eq]
      omega
    exact oinit_ok T I1 ea hlen fun s' J => ⟨.non, H1, J, rfl, q⟩
/-- C(e, ..), C's own __init__ keeping sp, where none is handled -/
theorem pmk_oexN {x : Str} {C fI : Addr} {k : Nat} {fd : FuncData} {ps : List Str} {sp : Sp} (T : OexC X.K C) (iC : PySem.W.findIn X.K (.ref C) "__init__" = some (some (.ref fI))) (tI : PySem.W.typeIn X.K (.ref fI) = some (.type "function"))
    (F1 : FnOk X.prog X.w X.K X.mg X.base (L2N.CX X.prog X.w) k fI fd ps sp) (hr : Room (k + 1) X.A) (hb : Binds X.K fd ps []) (hg : Gl X x) (hm : X.mg x = some (.ref C)) (ha : PA X (e :: es) ta)
    (hdb : (x == ("__debug__" : Str)) = false := by decide) (he : starEach (e :: es) X.env = (false, eval e X.env) :: starEach es X.env := by rfl) (hpl : (backTo pos (starEach es X.env)).any (·.1) = false := by rfl) :
    L2N.PMk X (.Call (.Name x p) (e :: es) [] pos) (tMkO C sp [] ta) := by
  intro pins s σ H Q I h
  obtain ⟨nm, q, N, bs, bm, sn, sub, ab, col, dd, k0, k1, k2, k3, k5, hC, hbm⟩ := T.cls
  refine wpAny_Call_Name_kw (ld_glob I hg hm ?_ hdb)
  refine PySem.W.callWith_K (h₀ := X.base) I.ok.mod.kin T.kC (thn (ha.run pos pins s σ H _ I h) fun us s1 ⟨vs, H1, I1, r1, hz, q1⟩ => ⟨I1.kIn, ?_⟩) he hpl
  show wpAny _ _ (call (.ref C) us) _ _ _
  obtain ⟨hp, g, dr, tk, os⟩ := s1
  have hsz : hp.objs.size ≤ hp.objs.size + 1 := Nat.le_succ _
  have hn : H1 (hp.objs.size + 1) = none := I1.hok.fresh hsz
  have hq := q1 (hp.objs.size + 1) hn
  rw [List.append_nil] at hq
  have kk : ∀ b o, hp.get? b = some o → ((hp.push (PySem.W.kdv_tup us)).push (PySem.HandSPX.excO C hp.objs.size)).get? b = some o := fun b o e => Heap.get?_push_of_some _ (Heap.get?_push_of_some _ e)
  have hget : ((hp.push (PySem.W.kdv_tup us)).push (PySem.HandSPX.excO C hp.objs.size)).get? (hp.objs.size + 1) = some (PySem.HandSPX.excO C hp.objs.size) := by heap_get
  have I2 : Inv X pins σ (upd H1 (hp.objs.size + 1) (exo (hp.objs.size + 1) C none)) ⟨(hp.push (PySem.W.kdv_tup us)).push (PySem.HandSPX.excO C hp.objs.size), g, dr, tk, os⟩ :=
    I1.laid (t' := tk) (a := hp.objs.size + 1) (o := exo (hp.objs.size + 1) C none) (h' := (hp.push (PySem.W.kdv_tup us)).push (PySem.HandSPX.excO C hp.objs.size)) kk hsz (exo_ok hget)
  have r2 : Vals (V.ref (hp.objs.size + 1) :: vs) (Value.ref (hp.objs.size + 1) :: us) := .cons rfl r1
  have hl : (Value.ref (hp.objs.size + 1) :: us ++ []).length = ps.length := by
    have e := r2.length
    rw [F1.len _ _ _ _ hq] at e
    rw [List.append_nil]
    exact e.symm
  have hus : us.length ≤ sizeLine := by
    rw [← Paired.length r1, sizeLine_eq]
    omega
  have b2 := hb _ (Value.ref (hp.objs.size + 1) :: us) I2.kIn hl
  rw [List.append_nil] at b2
  refine wpAny_call (PySem.HandSPX.call_own F.excBase_ValueError (fun Y => PySem.HandSPX.refsVE_contains Y bm hbm) (I1.kIn _ _ hC) (PySem.W.looks_findIn I1.kIn iC) (fun self => PySem.W.bind_fn I1.kIn self tI) hus
    (codeAny_mono (F1.run _ X.stack _ _ ⟨Value.ref (hp.objs.size + 1) :: us, []⟩ (Value.ref (hp.objs.size + 1) :: us) _ _ (fun _ _ _ => False) (hr.make C us []) (I2.env0.make C us []) b2 r2 hq) fun r s' hq' => ?_))
  cases r with
  | error er => exact passN pins σ _ _ er s' I2 hq'
  | ok fl =>
    cases fl with
    | ret u =>
      obtain ⟨v, H2, os2, bare2, un2, hok2, rv, ev, d, fs, ea, ed, hd1, q2⟩ := hq'
      subst ev
      obtain ⟨h2, g2, d2, t2, os'⟩ := s'
      obtain ⟨t0, G, J, kG, ge, hoe, na⟩ := mk_end0 (d2 := d2) (t2 := t2) I1 hsz kk un2 hok2 os2 bare2 ea ed hd1
      refine ⟨rv, hp.objs.size + 1, _, _, ⟨G, g2, d2, t2, os'⟩, _, .ref C, some d, rfl, J, kG, ge, hoe, ⟨rfl, rfl, fun vs hv => ?_⟩, rfl, rfl, na, rfl, bare2, raises_own T.exC T.tyC, q2⟩
      cases hv
      rfl
    | next => exact False.elim hq'
    | brk => exact False.elim hq'
    | cont => exact False.elim hq'
theorem row_dict {H : Hp} {a dx C : Addr} {o : HO} {fs : List (Str × V)} (n : H a = none) (ne : dx ≠ a) : upd (del (upd (upd (upd H a o) dx (exd dx fs)) a (exo a C (some dx))) a) dx (.xd fs) = upd H dx (.xd fs) := by
  funext b
  by_cases hb : b = dx
  · rw [hb, upd_same, upd_same]
  · rw [upd_ne hb, upd_ne hb]
    by_cases ha : b = a
    · rw [ha, del_same, n]
    · rw [del_ne ha, upd_ne ha, upd_ne hb, upd_ne ha]
def sRaiseN (c : Str) (m : EM) : SM := fun ρ => do
  let (h, _) ← m ρ
  match h.v with
  | .ok (.int k) => .er c [.int k]
  | _ => .stk
/-- raise X(e), e a number -/
theorem cs_raiseN {x : Str} {k : Nat} (T : RowC X.prog X.w X.K X.mg X.base x k) (hc : X.calm = true) (tk : L2N.Takes X fun cls d _ H => XE cls d H) (hr : Room (k + 1) X.A) (ha : CEx X P0 O W (exE X.mg XE) e ma) (hg : Gl X x := by rfl) (hdb : (x == ("__debug__" : Str)) = false := by decide)
    (hst : starEach [e] X.env = (false, eval e X.env) :: starEach [] X.env := by rfl) (hpl : (backTo pos (starEach [] X.env)).any (·.1) = false := by rfl) :
    CS X P0 O W U (exE X.mg XE) (.Raise (some (.Call (.Name x p) [e] [] pos)) none p2) (sRaiseN x ma) := by
  obtain ⟨C, fI, fd, ps, gC, T, iC, tI, hno, hb, F⟩ := T.ex
  refine PS.imp (L2N.ps_raise hc tk (pmk_oexN T iC tI F hr hb hg gC (pa_cons ha pa_nil hst) hdb hst hpl)) fun D σ H ⟨ρ, S, h⟩ => ?_
  refine ⟨ρ, S, (h.of_bind.down S.sub).mono fun ⟨hd, ρ1⟩ q v H1 S1 k1 r1 => ?_⟩
  have q : Res (exE X.mg XE) O σ H (match hd.v with | .ok (.int k) => (.er x [.int k] : R (Fl × Env)) | _ => .stk) (fun a => ∀ σ' H', Sim X.K P0 O W a.2 σ' H' → Tr O U σ H σ' H' → σ'.length = σ.length → Fin X.K P0 O H D σ' H' a.1) := q
  cases ev : hd.v with
  | ok d =>
    rw [ev] at q
    cases d with
    | int n =>
      have rv := r1.v ev
      unfold Rep at rv
      subst rv
      refine ⟨by simp, fun a na => ⟨a, C, n, rfl, T, hno, upd_same, fun dx nd ne => ?_⟩⟩
      refine ⟨rfl, dx, [("row", .int n)], upd_same, by rw [upd_ne ne, upd_same], by rw [upd_ne ne] at nd; exact nd, ?_⟩
      rw [row_dict na ne]
      rw [upd_ne ne] at nd
      rcases q H1 (k1.up S.sub) with ⟨e0, _⟩ | ⟨k', ek, C', eC, q⟩
      · cases e0
      · cases ek
        rw [gC] at eC
        cases eC
        exact q dx nd
    | _ => exact q.elim
  | er c ds => rw [ev] at q; exact q.elim
  | stk => rw [ev] at q; exact q.elim
/-- the body of __init__ -/
def tIni (K : PySem.W.Frag) : TS := fun D σ H => ∃ (a C : Addr) (k : Int), σ[0]? = some (some (.ref a)) ∧ σ[1]? = some (some (.int k)) ∧ OexC K C ∧ PySem.W.findIn K (.ref C) "row" = some none ∧ H a = some (exo a C none) ∧
  ∀ dx, H dx = none → dx ≠ a → D.nx σ (upd (upd H dx (exd dx [("row", .int k)])) a (exo a C (some dx)))
theorem row_mk {P : Program} {w : World} {K : PySem.W.Frag} {mg : Str → Option Value} {base : Heap} {x : Str} {st : Stmt} {k : Nat} (F : RowF K mg x st) (S : FnScope ["self", "row"] ["self", "row"] (defScope st))
    (hb : ∀ (f : Addr) (cdv : Value) (A : Around) (outer : List PySem.Env) (s : Shared) (H : Hp) (E : XK), PSs (cxOf (L2N.CX P w) P w K mg base ["self", "row"] (x ++ ".__init__") (defScope st) f cdv A outer s H E) (defBody st) (tIni K))
    (bi : ∀ (kV doc pm : Value) (an : Option Addr) (cdv ct : Value) (us : List Value), us.length = 2 → bindArgs (PySem.W.fnOf "__init__" (x ++ ".__init__") (defArgs st) (defBody st) (defScope st) .none kV doc pm an cdv ct) ⟨us, []⟩ = Pure.pure ((["self", "row"] : List Str).zip us)) : RowC P w K mg base x (k + 1) := by
  obtain ⟨C, fI, fd, hm, T, iC, tI, hno, F⟩ := F.ex
  refine ⟨C, fI, fd, ["self", "row"], hm, T, iC, tI, hno, F.binds bi, okN F S (fun vs H Q E h => ?_) fun cdv A outer s H vs Q E hr h => ⟨_, hb fI cdv A outer s H E, ?_⟩⟩
  · obtain ⟨a, C, n, rfl, _⟩ := h
    rfl
  · obtain ⟨a, C, n, rfl, T, hno, ea, q⟩ := h
    exact ⟨a, C, n, rfl, rfl, T, hno, ea, q⟩
end
end Y

set_option Elab.async false
set_option linter.all false
set_option maxRecDepth 100000
namespace Y
open PySem PySem.Spec PyProof.Rows L2
abbrev row1 (k : Int) : List (Str × V) := [("row", .int k)]
/-- isinstance(e, c), e has a dict -/
def rIsD (K : PySem.W.Frag) (D a dd : Addr) (k : Int) : List V → Hp → VK → Prop := fun xs H Q => ∃ (c : V) (cv : Value) (b : Bool), xs = [.ref a, c] ∧ (∀ u, RelV c u → u = cv) ∧ H dd = some (.xd (row1 k)) ∧ PySem.W.kitOne K (.ref D) cv = some b ∧ Q (.bl b) H
theorem call_isD {X : Cx} {a D dd : Addr} {oe : Obj} {k : Int} (Z : ExcC X.K D) (hz : Zc (.ref D) (some dd) oe) (hf : ∃ vs, oe.data = .fields vs) (hp : (a, oe) ∈ X.pn) : CallR X (.builtin "isinstance") (rIsD X.K D a dd k) := by
  intro pins s σ H xs us Q I r q
  rcases q with ⟨c, cv, b, rfl, hc, ed, kb, q⟩
  rcases r with _ | ⟨ra, r⟩
  rcases r with _ | ⟨rb, r⟩
  rcases r with _ | _
  have eu := hc _ rb
  subst eu
  obtain rfl := ra
  have g := (I.pin (a, oe) (List.mem_append_left _ hp)).1
  obtain ⟨mA, hns, hr⟩ := (show ObjOk X.prog X.w H s.heap dd (.xd (row1 k)) from I.hok dd _ ed)
  obtain ⟨od, es, ep, ho, _⟩ := id hns
  rcases hf with ⟨fs, hd⟩
  have J : PySem.W.InstAt s.heap a oe D (some od) := ⟨g, hz.1, by unfold PySem.W.notCls; rw [hd] <;> rfl, by rw [hz.2]; exact ho⟩
  obtain ⟨cd, hcl, _⟩ := PySem.W.any_some Z.hd
  exact PySem.W.kia_one (PySem.W.kitx_exc (by rw [hcl]; rfl) Z.hg Z.hk Z.hs Z.ha Z.hn Z.ht Z.hm) I.kIn J kb (fun y => nomatch y) fun tk => ⟨V.bl b, H, I.kept (t' := tk) fun _ _ y => y, rfl, q⟩
/-- g(k) of a number is True, in a suite too -/
def spW : Sp := fun vs H Q _ => ∃ k : Int, vs = [.int k] ∧ ∀ H', Same H H' → Q (.bl true) H'
structure GloW (P : Program) (w : World) (K : PySem.W.Frag) (mg : Str → Option Value) (base : Heap) (name : Str) (k : Nat) : Prop where
  ex : ∃ f fd ps, mg name = some (.ref f) ∧ PySem.W.keepIn K (.ref f) = true ∧ Binds K fd ps [] ∧ L2H.FnH P w K mg base (L2N.CX P w) k f fd ps spW
theorem gloW_mk {P : Program} {w : World} {K : PySem.W.Frag} {mg : Str → Option Value} {base : Heap} {k : Nat} {x y : Str} {st : Stmt} {m : SM} (F : Def K mg x st) (S : FnScope [y] [y] (defScope st))
    (hb : ∀ (f : Addr) (cdv : Value) (A : Around) (outer : List PySem.Env) (s : Shared) (H : Hp) (E : XK) (p : Addr × Obj), CSs (L2H.cxH (L2N.CX P w) P w K mg base [y] x (defScope st) f cdv A outer s H E p) (fun _ => False) [] [] [] E00 (defBody st) m)
    (bi : ∀ (kV doc pm : Value) (an : Option Addr) (cdv ct : Value) (us : List Value), us.length = 1 → bindArgs (PySem.W.fnOf x x (defArgs st) (defBody st) (defScope st) .none kV doc pm an cdv ct) ⟨us, []⟩ = Pure.pure ([y].zip us))
    (hm : ∀ k : Int, ∃ h ρ, m [some (.int k)] = .ok (.rt h, ρ) ∧ h.v = .ok (.bl true)) : GloW P w K mg base x (k + 1) := by
  obtain ⟨f, fd, hmg, F⟩ := F.ex
  refine ⟨f, fd, [y], hmg, F.kp, F.binds bi, ?_⟩
  rcases F.ex with ⟨_, _, _, _, _, _, cd, _, _, rfl, look, code⟩
  refine L2H.fn_ofH look code S (fun vs H Q E ⟨k, e, _⟩ => by rw [e]; rfl) fun A outer s H vs Q E p hot hr ⟨k, e, q⟩ => ⟨_, hb f cd A outer s H E p, ?_⟩
  subst e
  obtain ⟨h, ρ, em, eh⟩ := hm k
  refine ⟨[some (.int k)], sim_start (O := []) (Oc := []) (W := []) (np := 1) (n := 1) (ds := [.int k]) (vs := [.int k]) (sim_args (fun b z => z.elim) (Reps.cons (by unfold Rep; rfl) Reps.nil)) (fun i => by simp) (fun i z => nomatch z) rfl rfl rfl, ?_⟩
  rw [em]
  intro σ' H' S' t' l' v r
  have rv := r.v eh
  unfold Rep at rv
  subst rv
  exact q H' fun b o e => t'.keep b o e fun ⟨i, hi, _⟩ => nomatch hi
section
variable {X : Cx} {P0 : Pr} {O W U : List Nat} {E : EK} {i j : Nat} {a C dd : Addr} {oe : Obj} {pn : List (Addr × Obj)} {k : Int} {n : Str}
def tEs (i : Nat) (a dd : Addr) (k : Int) : St → Hp → Prop := fun σ H => σ[i]? = some (some (.ref a)) ∧ H dd = some (.xd (row1 k))
theorem pe_rowE {p q : Pos} (T : XfC X.K C) (hno : PySem.W.findIn X.K (.ref C) "row" = some none) (hz : Zc (.ref C) (some dd) oe) (hf : ∃ vs, oe.data = .fields vs)
    (hN : X.N[i]? = some n) (hv : Vis X.env.scope n) (hd : (n == ("__debug__" : Str)) = false) (hcd : (n == ("__classdict__" : Str)) = false) (hb : attributeBase (.Name n q) "row" X.env (eval (.Name n q) X.env) = eval (.Name n q) X.env) :
    PE (X.suite a ((a, oe) :: pn)) (.Attribute (.Name n q) "row" p) (fun σ H Q => tEs i a dd k σ H ∧ Q (.int k) H) :=
  PE.imp (pe_xf (X := X) (cls := .ref C) (d := some dd) T hno hz hf (pe_var (X := X.suite a ((a, oe) :: pn)) (i := i) hN hv hd hcd) hb) fun σ H Q ⟨⟨e1, e2⟩, q⟩ => ⟨.ref a, e1, rfl, rfl, dd, _, .int k, rfl, e2, rfl, q⟩
/-- what is told of it -/
def sSaid (i j : Nat) (w c w2 : Str) (g : List D → R Hd) : SM := fun ρ => do
  let d ← (look i ρ).nox
  if j < ρ.length then (match g [d] with
    | .ok (.ow _) => .stk
    | .ok (.fr d) => pure (.rt (.fr (.tup [.str w, d])), ρ)
    | .ok (.vl d) => pure (.rt (.fr (.tup [.str w, d])), ρ)
    | .er c' [.int k] => if c' = c then pure (.rt (.fr (.tup [.str w2, .int k])), ρ) else .stk
    | _ => .stk) else .stk
/-- the body's reading -/
def tSaidB (K : PySem.W.Frag) (mg : Str → Option Value) (g : List D → R Hd) (w : Str) (i : Nat) (Ws : WX) : TS := tRet (tTup (tCons (tC (.str w)) (tCons (tCallS (spD K mg 1 [] (pureF g)) (WE Ws) (tCons (tVar i) tNil)) tNil)))
/-- the suite's reading -/
def tSuiteE (i : Nat) (a dd : Addr) (k : Int) (w : Str) : TS := fun D σ H => tEs i a dd k σ H ∧ ∀ H', Same H H' → ∀ p, H' p = none → D.rt (.ref p) (upd H' p (.tup [.str w, .int k]))
def tE1 (i : Nat) (a dd : Addr) (k : Int) : TE := fun σ H Q => tEs i a dd k σ H ∧ ∀ H', Same H H' → Q (.bl true) H'
def tEf (i : Nat) (a dd : Addr) (k : Int) : TT := fun σ H Q => tEs i a dd k σ H ∧ ∀ H', Same H H' → Q false H'
theorem tEs.same {σ : St} {H H' : Hp} (h : tEs i a dd k σ H) (sm : Same H H') : tEs i a dd k σ H' := ⟨h.1, sm _ _ h.2⟩
theorem Same.rfl {H : Hp} : Same H H := fun _ _ e => e
theorem said_not {e : Expr} {p : Pos} (h : PE X e (tE1 i a dd k)) (he : ∀ whole, isTrue e X.env whole = (do let v ← whole; standAt e.pos; holding [v] (truthy v)) := by intro _; rfl) : PT X (.UnaryOp .Not e p) (tEf i a dd k) :=
  PT.imp (pt_not (pt_val h he)) fun σ H Q ⟨z, q⟩ => ⟨z, fun H' sm => ⟨true, rfl, q H' sm⟩⟩
theorem said_or {b c : Expr} {p : Pos} (h1 : PT X b (tEf i a dd k)) (h2 : PT X c (tEf i a dd k)) : PT X (.BoolOp .Or [b, c] p) (tEf i a dd k) :=
  PT.imp (PW.pt (pw_or h1 (pw_or1 h2))) fun σ H Q ⟨z, q⟩ => ⟨z, fun H' sm => by
    exact (if_neg Bool.false_ne_true).mpr ⟨z.same sm, fun H2 sm2 => q H2 fun b o e => sm2 b o (sm b o e)⟩⟩
theorem said_if {c : Expr} {sts : List Stmt} {p : Pos} {w : Str} {st : Stmt} (h1 : PT X c (tEf i a dd k)) (h2 : PS X st (tSuiteE i a dd k w)) : PSs X [.If c sts [] p, st] (tSuiteE i a dd k w) :=
  PSs.imp (pss_cons (ps_if (t := fun _ _ _ => False) h1 ⟨fun _ _ _ _ _ _ z => z.elim⟩ pss_nil) (pss_one h2)) fun D σ H ⟨z, q⟩ => ⟨z, fun H' sm => by
    exact (if_neg Bool.false_ne_true).mpr ⟨z.same sm, fun H2 sm2 => q H2 fun b o e => sm2 b o (sm b o e)⟩⟩
theorem said_ret {e : Expr} {w : Str} {jj : Nat} {x1} {p p2 p3 : Pos} (h : PE X e (fun σ H Q => tEs i a dd k σ H ∧ Q (.int k) H)) (hs : starEach [.Constant (.str w) jj p, e] X.env = (false, eval (.Constant (.str w) jj p) X.env) :: starEach [e] X.env := by rfl) (hs2 : starEach [e] X.env = (false, eval e X.env) :: starEach [] X.env := by rfl) :
    PS X (.Return (some (.Tuple [.Constant (.str w) jj p, e] x1 p2)) p3) (tSuiteE i a dd k w) :=
  PS.imp (ps_ret (pe_tup (pa_cons pe_str (pa_cons h pa_nil hs2) hs))) fun D σ H ⟨z, q⟩ => ⟨z, by simp [sizeLine_eq], q H Same.rfl⟩
/-- isinstance(e, x), x the class itself -/
theorem said_isi {x : Str} {p q q2 pos : Pos} (Z : ExcC X.K C) (hk : PySem.W.kitOne X.K (.ref C) (.ref C) = some true) (hC : X.mg x = some (.ref C)) (hz : Zc (.ref C) (some dd) oe) (hf : ∃ vs, oe.data = .fields vs) (hp : (a, oe) ∈ X.pn) (hm : X.mg "isinstance" = none)
    (hN : X.N[i]? = some n := by rfl) (hv : Vis X.env.scope n := by first | exact Or.inl rfl | exact Or.inr (Or.inl rfl)) (hd : (n == ("__debug__" : Str)) = false := by decide) (hcd : (n == ("__classdict__" : Str)) = false := by decide)
    (hg : Gl X "isinstance" := by rfl) (hg2 : Gl X x := by rfl) (hdb : (x == ("__debug__" : Str)) = false := by decide)
    (he : starEach [.Name n q, .Name x q2] X.env = (false, eval (.Name n q) X.env) :: starEach [.Name x q2] X.env := by rfl) (hpl : (backTo pos (starEach [.Name x q2] X.env)).any (·.1) = false := by rfl) (he2 : starEach [.Name x q2] X.env = (false, eval (.Name x q2) X.env) :: starEach [] X.env := by rfl) :
    PE X (.Call (.Name "isinstance" p) [.Name n q, .Name x q2] [] pos) (tE1 i a dd k) :=
  PE.imp (pe_callB (call_isD (k := k) Z hz hf hp) hg hm bo_isinstance (pa_cons (pe_var (i := i) hN hv hd hcd) (pa_cons (pe_glob (v := .ref C) hg2 hC rfl hdb) pa_nil he2) he) (by decide) (by decide) he hpl) fun σ H Q ⟨z, q⟩ =>
    ⟨.ref a, z.1, .ref C, .ref C, true, rfl, fun _ z => z, z.2, hk, q H Same.rfl⟩
/-- g(e.row) -/
theorem said_whole {e : Expr} {x : Str} {m : Nat} {q pos : Pos} (G : GloW X.prog X.w X.K X.mg X.base x m) (hr : L2H.RoomH m X.A) (hc : L2H.HotC X) (h : PE X e (fun σ H Q => tEs i a dd k σ H ∧ Q (.int k) H)) (hg : Gl X x := by rfl) (hdb : (x == ("__debug__" : Str)) = false := by decide)
    (he : starEach [e] X.env = (false, eval e X.env) :: starEach [] X.env := by rfl) (hpl : (backTo pos (starEach [] X.env)).any (·.1) = false := by rfl) : PE X (.Call (.Name x q) [e] [] pos) (tE1 i a dd k) := by
  obtain ⟨f, fd, ps, hm, hk, hb, F⟩ := G.ex
  exact PE.imp (L2H.pe_callH (E := fun _ => E0) F hr hc hg hm hk hb (fun σ pins H s e s' I q => passN pins σ H s e s' I q) (pa_cons h pa_nil he) hdb he hpl) fun σ H Q ⟨z, q⟩ => ⟨z, k, rfl, q⟩
/-- the whole -/
theorem cs_said {body suite : List Stmt} {b₀ : Stmt} {g : List D → R Hd} {w w2 c x y : Str} {u : Addr} {np pos pos' : Pos} (hN : X.N.Nodup) (hC : X.mg c = some (.ref C)) (hu : X.mg x = some (.ref u)) (hk : PySem.W.exmOne X.K (.ref C) (.ref u) = some true) (hj : X.N[j]? = some y)
    (hb : ∀ (Ws : WX) (pn : List (Addr × Obj)) (xe : Value → Shared → Prop), L2N.Takes (X.tr pn xe) Ws → PSs (X.tr pn xe) body (tSaidB X.K X.mg g w i Ws))
    (hsu : ∀ (a dd : Addr) (k : Int) (oe : Obj) (pn : List (Addr × Obj)), L2N.Zn (.ref C) (some dd) oe → (∃ vs, oe.data = .fields vs) → PSs (X.suite a ((a, oe) :: pn)) (b₀ :: suite) (tSuiteE j a dd k w2))
    (hi : i ∉ O := by decide) (hs : X.stack = X.env :: X.outer := by rfl) (hf : X.env.frame = some X.env.locals := by rfl) (hln : X.env.kindOf y = some .local := by rfl) (hg : Gl X x := by rfl) (hdb : (x == ("__debug__" : Str)) = false := by decide)
    (tk : L2N.Takes X fun _ _ _ _ => False := by exact fun _ _ z => by rcases z with ⟨_, _, _, _, _, _, _, _, _, _, _, _, _, _, _, _, y⟩; exact y.elim) :
    CS X P0 O W U E (.Try body [.ExceptHandler (some (.Name x np)) (some y) (b₀ :: suite) pos'] [] [] pos) (sSaid i j w c w2 g) := by
  refine PS.imp (L2N.ps_try_as (i := j) (c := .ref u) (Wout := fun _ _ _ _ => False) (ts := fun a cls d D σ H => ∃ q : Addr × Int, (cls = .ref C ∧ d = some q.1) ∧ tSuiteE j a q.1 q.2 w2 D σ H) hs hf hN hj hln ⟨hg, hdb, .inl hu⟩ tk (fun Ws pn xe t _ => hb Ws pn xe t) (fun a oe cls d pn hz hfl => PSs.exi fun q hq => ?_)) fun D σ H ⟨ρ, S, r⟩ => ?_
  · obtain ⟨rfl, rfl⟩ := hq
    exact hsu a q.1 q.2 oe pn hz hfl
  · obtain ⟨d, el, r⟩ := Res.of_nox (show Res E O σ H ((look i ρ).nox >>= _) _ from r)
    obtain ⟨v, h1, h2⟩ := S.val i d (look_some el) hi
    have r : Res E O σ H (if j < ρ.length then (match g [d] with
      | .ok (.ow _) => (.stk : R (Fl × Env))
      | .ok (.fr d) => .ok (.rt (.fr (.tup [.str w, d])), ρ)
      | .ok (.vl d) => .ok (.rt (.fr (.tup [.str w, d])), ρ)
      | .er c' [.int k] => if c' = c then .ok (.rt (.fr (.tup [.str w2, .int k])), ρ) else .stk
      | _ => .stk) else .stk) _ := r
    by_cases hl : j < ρ.length
    · rw [if_pos hl] at r
      have fin : ∀ {d : Y.D} {v : V} {H2 : Hp} {w : Str}, Same H H2 → Rep X.K H2 d (FA P0 O σ) v → (∀ σ' H', Sim X.K P0 O W ρ σ' H' → Tr O U σ H σ' H' → σ'.length = σ.length → Fin X.K P0 O H D σ' H' (.rt (.fr (.tup [.str w, d])))) →
          ∀ p, H2 p = none → D.rt (.ref p) (upd H2 p (.tup [.str w, v])) := fun {d v H2 w} sm rv q p hp => by
        have S2 := S.same sm
        have s3 : Same H2 (upd H2 p (.tup [.str w, v])) := fun b o e => by
          by_cases hb : b = p
          · rw [hb, hp] at e; cases e
          · rw [upd_ne hb]; exact e
        exact q σ _ (S2.same s3) ⟨fun b o e _ => s3 b o (sm b o e), fun b e => (Keep.same (W := []) (σ := σ) fun b o e => s3 b o (sm b o e)).some b e, fun b z => .inl z, fun _ _ => rfl⟩ rfl (.ref p)
          ⟨Rep.newT S2.dom (Reps.cons (by unfold Rep; rfl) (Reps.cons rv Reps.nil)) hp, fun z => by cases z⟩
      refine ⟨v, h1, rfl, [d], FA P0 O σ, sim_args S.dom (Reps.cons h2 Reps.nil), rfl, ?_⟩
      unfold pureF
      cases eg : g [d] with
      | stk => rw [eg] at r; exact r.elim
      | er c' xs =>
        rw [eg] at r
        cases xs with
        | nil => exact r.elim
        | cons x1 xs =>
          cases xs with
          | cons _ _ => cases x1 <;> exact r.elim
          | nil =>
            cases x1 with
            | int k =>
              have r9 : Res E O σ H (if c' = c then (.ok (.rt (.fr (.tup [.str w2, .int k])), ρ) : R (Fl × Env)) else .stk) (fun a => ∀ σ' H', Sim X.K P0 O W a.2 σ' H' → Tr O U σ H σ' H' → σ'.length = σ.length → Fin X.K P0 O H D σ' H' a.1) := r
              by_cases ec : c' = c
              · rw [if_pos ec] at r9
                subst ec
                intro H1 k1
                refine .inr ⟨k, rfl, C, hC, fun dx nd => ⟨true, hk, fun _ a na => ⟨(dx, k), ⟨rfl, rfl⟩, ⟨List.getElem?_set_self (Nat.lt_of_lt_of_le hl S.len), upd_same⟩, fun H2 sm2 => ?_⟩, fun z => Bool.noConfusion z⟩⟩
                have sm1 : Same H H1 := k1.nil
                have sm : Same H H2 := fun b o e => sm2 b o (by
                  have e1 := sm1 b o e
                  by_cases hb : b = dx
                  · rw [hb, nd] at e1; cases e1
                  · rw [upd_ne hb]; exact e1)
                exact fin (d := .int k) sm (by unfold Rep; rfl) r9
              · rw [if_neg ec] at r9
                exact r9.elim
            | _ => exact r.elim
      | ok hd =>
        rw [eg] at r
        intro v2 H2 k2 _ r2
        have sm : Same H H2 := Keep.nil k2
        have S2 := S.same sm
        refine ⟨by simp [sizeLine_eq], ?_⟩
        cases hd with
        | ow _ => exact r.elim
        | fr d2 => exact fin sm (r2.1.less (fun b z => S2.dom b ((FA_nil b).mp z)) fun b z => .inl z) r
        | vl d2 => exact fin sm (Rep.less (fun b z => S2.dom b ((FA_nil b).mp z)) r2 fun b z => .inl z) r
    · rw [if_neg hl] at r
      exact r.elim
end
@[simp] theorem e_said {i j : Nat} {w c w2 : Str} {g : List D → R Hd} {ρ : Env} : sSaid i j w c w2 g ρ = ((look i ρ).nox >>= fun d => if j < ρ.length then (match g [d] with
    | .ok (.ow _) => .stk
    | .ok (.fr d) => .ok (.rt (.fr (.tup [.str w, d])), ρ)
    | .ok (.vl d) => .ok (.rt (.fr (.tup [.str w, d])), ρ)
    | .er c' [.int k] => if c' = c then .ok (.rt (.fr (.tup [.str w2, .int k])), ρ) else .stk
    | _ => .stk) else .stk) := id rfl
@[simp] theorem e_raiseN {c : Str} {m : EM} {ρ : Env} : sRaiseN c m ρ = (m ρ >>= fun p => match p.1.v with | .ok (.int k) => .er c [.int k] | _ => .stk) := id rfl
end Y

set_option Elab.async false
set_option linter.all false
set_option maxRecDepth 100000
namespace Y
open PySem PySem.Spec PyProof.Rows L2
def cDicS (k v : Str) : EM := fun ρ => .ok (.fr (.dik [Sum.inr k] [.str v]), ρ)
section
variable {X : Cx} {P0 : Pr} {O W : List Nat} {E : EK} {k v : Str} {c1 c2} {p1 p2 pos : Pos}
theorem ce_dicS : CEx X P0 O W E (.Dict [some (.Constant (.str k) c1 p1)] [.Constant (.str v) c2 p2] pos) (cDicS k v) :=
  PE.imp (pe_disp (pps_cons pe_str pe_str pps_nil) rfl rfl (by simp) (by show 1 ≤ 15; omega)) fun σ H Q ⟨ρ, S, h⟩ => fun p hp => by
    have out : Out X.K (FA P0 O σ) H (.dik [Sum.inr k] [.str v]) Q := out_of S .refl fun v H' S' k r => h v H' S' k r
    refine ⟨upd_same, [(Sum.inr k, .str v)], rfl, by show 1 ≤ 15; omega, ?_⟩
    rw [upd_upd]
    refine out (.ref p) _ (Same.new hp) ?_ fun _ a e => by cases e; exact hp
    unfold Rep
    exact ⟨p, [.str v], rfl, fun z => (S.dom p z).some hp, rfl, .inl upd_same, Reps.cons (by unfold Rep; rfl) Reps.nil⟩
end
@[simp] theorem e_dicS {k v : Str} {ρ : Env} : cDicS k v ρ = .ok (.fr (.dik [Sum.inr k] [.str v]), ρ) := id rfl
theorem ini_imp {K : PySem.W.Frag} {m : Str} : ∀ D σ H, tIni K D σ H → tSeq (tDrop (tVeI K (tCons (tVar 0) (tCons (tC (.str m)) tNil)))) (tOst K "row" (tVar 0) (tVar 1)) D σ H :=
  fun D σ H ⟨a, C, k, e0, e1, T, hno, ea, q⟩ => ⟨.ref a, e0, a, C, [.str m], rfl, by simp, T, ea, .int k, e1, .ref a, e0, a, C, rfl, T, hno, .inl ⟨ea, q⟩⟩
def clsBody : Stmt → List Stmt
  | .ClassDef _ _ _ b .. => b
  | _ => []
structure SaidF (K : PySem.W.Frag) (mg : Str → Option Value) (c x : Str) : Prop where
  ex : ∃ C u, mg c = some (.ref C) ∧ mg x = some (.ref u) ∧ PySem.W.exmOne K (.ref C) (.ref u) = some true ∧ ExcC K C ∧ PySem.W.kitOne K (.ref C) (.ref C) = some true ∧ PySem.W.findIn K (.ref C) "row" = some none
theorem ExcC.xf {K : PySem.W.Frag} {C : Addr} (Z : ExcC K C) : XfC K C := ⟨Z.hg, Z.hk, Z.hs, Z.hd⟩
theorem hot_ofD {A : Around} {a C dd : Addr} {oe : Obj} (hh : A.handled = some (.ref a)) (hz : L2N.Zn (.ref C) (some dd) oe) (hf : ∃ vs, oe.data = .fields vs) : L2H.Hot1 A (a, oe) := by
  obtain ⟨vs, d⟩ := hf
  exact ⟨hh, vs, d, hz.2.2 vs d⟩
section
variable {X : Cx} {P0 : Pr} {O W U : List Nat} {E : EK} {i j : Nat}
theorem said_call {g : List D → R Hd} {name x : Str} {k : Nat} {Ws : WX} {p q pos : Pos} (G : Glo X.prog X.w X.K X.mg X.base name k 1 [] (pureF g)) (tk : L2N.Takes X Ws) (hr : Room k X.A)
    (hN : X.N[i]? = some x := by rfl) (hv : Vis X.env.scope x := by first | exact Or.inl rfl | exact Or.inr (Or.inl rfl)) (hd : (x == ("__debug__" : Str)) = false := by decide) (hcd : (x == ("__classdict__" : Str)) = false := by decide) (hg : Gl X name := by rfl) (hdb : (name == ("__debug__" : Str)) = false := by decide)
    (he : starEach [.Name x q] X.env = (false, eval (.Name x q) X.env) :: starEach [] X.env := by rfl) (hpl : (backTo pos (starEach [] X.env)).any (·.1) = false := by rfl) :
    PE X (.Call (.Name name p) [.Name x q] [] pos) (tCallS (spD X.K X.mg 1 [] (pureF g)) (WE Ws) (tCons (tVar i) tNil)) := by
  obtain ⟨f, fd, ps, hm, hk, hb, _, F⟩ := G.ex
  exact pe_callS (E := WE Ws) F hr hg hm hk hb (fun σ => L2N.passAt tk σ) (pa_cons (pe_var (i := i) hN hv hd hcd) pa_nil he) hdb he hpl
theorem said_body {g : List D → R Hd} {w : Str} {jj : Nat} {x1} {e : Expr} {Ws : WX} {p p2 p3 : Pos} (h : PE X e (tCallS (spD X.K X.mg 1 [] (pureF g)) (WE Ws) (tCons (tVar i) tNil)))
    (hs : starEach [.Constant (.str w) jj p, e] X.env = (false, eval (.Constant (.str w) jj p) X.env) :: starEach [e] X.env := by rfl) (hs2 : starEach [e] X.env = (false, eval e X.env) :: starEach [] X.env := by rfl) :
    PSs X [.Return (some (.Tuple [.Constant (.str w) jj p, e] x1 p2)) p3] (tSaidB X.K X.mg g w i Ws) := pss_one (ps_ret (pe_tup (pa_cons pe_str (pa_cons h pa_nil hs2) hs)))
theorem cs_saidF {body suite : List Stmt} {b₀ : Stmt} {g : List D → R Hd} {w w2 c x y : Str} {np pos pos' : Pos} (F : SaidF X.K X.mg c x) (hN : X.N.Nodup) (hj : X.N[j]? = some y)
    (hb : ∀ (Ws : WX) (pn : List (Addr × Obj)) (xe : Value → Shared → Prop), L2N.Takes (X.tr pn xe) Ws → PSs (X.tr pn xe) body (tSaidB X.K X.mg g w i Ws))
    (hsu : ∀ (C : Addr), ExcC X.K C → PySem.W.kitOne X.K (.ref C) (.ref C) = some true → X.mg c = some (.ref C) → PySem.W.findIn X.K (.ref C) "row" = some none → ∀ (a dd : Addr) (k : Int) (oe : Obj) (pn : List (Addr × Obj)), L2N.Zn (.ref C) (some dd) oe → (∃ vs, oe.data = .fields vs) → PSs (X.suite a ((a, oe) :: pn)) (b₀ :: suite) (tSuiteE j a dd k w2))
    (hi : i ∉ O := by decide) (hs : X.stack = X.env :: X.outer := by rfl) (hf : X.env.frame = some X.env.locals := by rfl) (hln : X.env.kindOf y = some .local := by rfl) (hg : Gl X x := by rfl) (hdb : (x == ("__debug__" : Str)) = false := by decide)
    (tk : L2N.Takes X fun _ _ _ _ => False := by exact fun _ _ z => by rcases z with ⟨_, _, _, _, _, _, _, _, _, _, _, _, _, _, _, _, y⟩; exact y.elim) :
    CS X P0 O W U E (.Try body [.ExceptHandler (some (.Name x np)) (some y) (b₀ :: suite) pos'] [] [] pos) (sSaid i j w c w2 g) := by
  obtain ⟨C, u, hC, hu, hk, Z, hkk, hno⟩ := F.ex
  exact cs_said hN hC hu hk hj hb (hsu C Z hkk hC hno) hi hs hf hln hg hdb tk
end
end Y

set_option Elab.async false
set_option linter.all false
set_option maxRecDepth 100000
namespace Y
open PySem PySem.Spec PyProof.Rows L2
abbrev SDt := PySem.Froz.SD
/-- the set at a holds the texts l -/
def TxS (P : Program) (w : World) (h : Heap) (a : Addr) (l : List Str) : Prop := ∃ D : SDt, h.get? a = some (PySem.Froz.sObj "set" D) ∧ PySem.Froz.TxOk P w D l ∧ l.Nodup ∧ Ris D.2.2.place.toList ∧ (w.params.followText "set-order" = true ∨ D.2.2.led = true)
theorem TxS.at {P : Program} {w : World} {h h' : Heap} {a : Addr} {l : List Str} (x : TxS P w h a l) (k : ∀ o, h.get? a = some o → h'.get? a = some o) : TxS P w h' a l := by
  obtain ⟨D, ho, r⟩ := x
  exact ⟨D, k _ ho, r⟩
theorem addTx_ris {w : World} {hh : Int} {v : Value} {D : SDt} (r : Ris D.2.2.place.toList) (l : w.params.followText "set-order" = true ∨ D.2.2.led = true) : Ris (PySem.Froz.addTx hh v D).2.2.place.toList ∧ (w.params.followText "set-order" = true ∨ (PySem.Froz.addTx hh v D).2.2.led = true) := by
  obtain ⟨es, ep, t⟩ := D
  have r1 := layNew_ris t es hh v r
  have l1 := layNew_led t es hh v
  unfold PySem.Froz.addTx
  dsimp only
  generalize layNew t es hh v = Z at r1 l1
  obtain ⟨es1, t1, wd, gv⟩ := Z
  dsimp only at r1 l1 ⊢
  have r2 : Ris (if t1.plain = true then { t1 with plain := false } else t1).place.toList ∧ (if t1.plain = true then { t1 with plain := false } else t1).led = t.led := by
    split <;> exact ⟨r1, l1⟩
  generalize (if t1.plain = true then { t1 with plain := false } else t1) = t2 at r2
  obtain ⟨r2, l2⟩ := r2
  unfold PySem.Froz.tailTx
  split
  · refine ⟨relayAll_ris _ _ _, l.imp id fun z => ?_⟩
    show (relayAll t2 es1 _).2.1.led = true
    rw [relayAll_led, l2]
    exact z
  · exact ⟨r2, l.imp id fun z => by rw [show (es1, ep + 1, t2).2.2.led = t2.led from rfl, l2]; exact z⟩
section
variable {P : Program} {w : World} {A : Around} {E : Value → Shared → Prop} {s : Shared}
theorem txs_add {a : Addr} {l : List Str} {k : Str} {u : Tok} {Q : Bool → Shared → Prop} (x : TxS P w s.heap a l) (hb : l.length + 1 < scanBound)
    (h : ∀ b h' l', Heap.SameBut a s.heap h' → TxS P w h' a l' → (k ∈ l → l' = l) → (k ∉ l → l' = k :: l) → Q b { s with heap := h' }) : wpAny (model P w) A (setAddHashed a (.str k u) (hashStr w k)) Q E s := by
  obtain ⟨D, ho, F, nd, r, ld⟩ := x
  by_cases hk : k ∈ l
  · obtain ⟨es, ep, t⟩ := D
    have hd : (PySem.Froz.sObj "set" (es, ep, t)).data = .set es ep t := rfl
    have hf : t.fits es.size = true := F.fit
    have hel : ElemsOf (strKind P w) es.toList := F.el
    have hsz : es.size = l.length := F.sz
    have hb0 : es.size < scanBound := by omega
    have hkey : (strKind P w).is k (.str k u) = true := PySem.Froz.is_str k u
    obtain ⟨j, hj⟩ : ∃ j, List.findIdx? (fun e => (strKind P w).is k e.2) es.toList = some j := by
      cases hr : List.findIdx? (fun e => (strKind P w).is k e.2) es.toList with
      | some j => exact ⟨j, rfl⟩
      | none =>
        obtain ⟨e, he, q⟩ := (F.mem k).mp hk
        have c := List.findIdx?_eq_none_iff.mp hr e he
        rw [q] at c
        cases c
    unfold setAddHashed setAddHashedIn
    refine wpAny_holding (wpAny_bind (wpAny_setState_of ho hd hf ?_))
    dsimp only
    rw [byScan_of rfl hb0 hel]
    simp only [↓reduceIte]
    unfold setAddByScan
    refine wpAny_bind ?_
    refine wpAny_bind (wpAny_rule ?_)
    refine wpAny_bind (wpAny_setScan_of (knd := strKind P w) (k := k) hkey ho hd hf hel ?_)
    rw [hj]
    dsimp only
    exact wpAny_pure (wpAny_pure (h false s.heap l (Heap.SameBut.refl a s.heap) ⟨_, ho, F, nd, r, ld⟩ (fun _ => rfl) fun z => absurd hk z))
  · obtain ⟨r2, l2⟩ := addTx_ris (w := w) (hh := hashStr w k) (v := .str k u) r ld
    refine PySem.Froz.add_x ho F hk hb (h true _ (k :: l) (Heap.SameBut.update ..) ⟨_, PySem.Froz.get_upd _ ho rfl, PySem.Froz.add_ok u F, List.nodup_cons.mpr ⟨hk, nd⟩, r2, l2⟩ (fun z => absurd z hk) fun _ => rfl)
theorem txs_fresh {h : Heap} {a : Addr} (ho : h.get? a = some (setO0 w)) : TxS P w h a [] :=
  ⟨(#[], 0, .fresh 0 0 (!w.params.followText "set-order")), ho, PySem.Froz.TxOk.nil (by rfl), List.nodup_nil, List.Pairwise.nil, by
    show _ ∨ (!w.params.followText "set-order") = true
    cases w.params.followText "set-order"
    · exact .inr rfl
    · exact .inl rfl⟩
/-- what a set holds of the first i texts -/
structure HasS (ks : List Str) (i : Nat) (L : List Str) : Prop where
  low : ∀ q ∈ L, q ∈ ks.take i
  top : ∀ q ∈ ks.take i, q ∈ L
theorem HasS.none (ks : List Str) : HasS ks 0 [] := ⟨fun q z => (nomatch z), fun q z => by simp at z⟩
theorem HasS.stay {ks L : List Str} {i : Nat} {x : Str} (g : HasS ks i L) (h : ks[i]? = some x) (m : x ∈ L) : HasS ks (i + 1) L := by
  refine ⟨fun q z => ?_, fun q z => ?_⟩
  · rw [take_more h]; exact List.mem_append_left _ (g.low q z)
  · rw [take_more h] at z
    rcases List.mem_append.mp z with z | z
    · exact g.top q z
    · rw [List.mem_singleton] at z; rw [z]; exact m
theorem HasS.grow {ks L : List Str} {i : Nat} {x : Str} (g : HasS ks i L) (h : ks[i]? = some x) : HasS ks (i + 1) (x :: L) := by
  refine ⟨fun q z => ?_, fun q z => ?_⟩
  · rw [take_more h]
    rcases List.mem_cons.mp z with rfl | z
    · exact List.mem_append_right _ (by simp)
    · exact List.mem_append_left _ (g.low q z)
  · rw [take_more h] at z
    rcases List.mem_append.mp z with z | z
    · exact List.mem_cons_of_mem _ (g.top q z)
    · rw [List.mem_singleton] at z; rw [z]; exact List.mem_cons_self
theorem setS_loop {it : Addr} {fp wr : List Addr} {G : Array GenState → Array GenState → Prop} {n : Nat} {Pv : Nat → Value → Prop} {St : Nat → Shared → Prop} {R : Result → Shared → Prop} (Wk : WalksS P w A.in1 it fp wr G n Pv St) (S : Addr) (nS : S ∉ fp) (ks : List Str) (en : n = ks.length) (lU : ks.length + 1 < scanBound)
    (pv : ∀ i v, Pv i v → ∃ x t, ks[i]? = some x ∧ v = .str x t) :
    ∀ (k i : Nat) (s : Shared), n - i = k → i ≤ n → St i s → (∃ L, TxS P w s.heap S L ∧ L.length ≤ i ∧ HasS ks i L) →
      (∀ s2 L, Moved (S :: wr) G s s2 → TxS P w s2.heap S L → HasS ks n L → R (.ok (.ret .none)) s2) → codeAny (model P w) A (.builtin "set.update.loop" ⟨[.ref S, .ref it], []⟩) R s := by
  have nw : S ∉ wr := fun z => nS (Wk.sub _ z)
  have up : ∀ b ∈ wr, b ∈ S :: wr := fun b z => List.mem_cons_of_mem _ z
  intro k
  induction k with
  | zero =>
    intro i s ek li st ⟨L, hS, hl, g⟩ fin
    obtain rfl : i = n := by omega
    refine codeAny_builtin F.entry_set_update_loop (?_)
    rw [Around.under_plainId (F.plain_set_update_loop) _]
    show wpAny _ A.in1 (pyNext (.ref it) >>= _) _ _ s
    refine wpAny_bind (Wk.done s _ _ st fun s2 mv => ?_)
    show wpAny _ A.in1 (ret Value.none) _ _ s2
    exact wpAny_pure (fin s2 L (mv.mono up) (hS.at (fun o e => mv.heap S o nw e)) g)
  | succ k ih =>
    intro i s ek li st ⟨L, hS, hl, g⟩ fin
    have lt : i < n := by omega
    refine codeAny_builtin F.entry_set_update_loop (?_)
    rw [Around.under_plainId (F.plain_set_update_loop) _]
    show wpAny _ A.in1 (pyNext (.ref it) >>= _) _ _ s
    refine wpAny_bind (Wk.item i s _ _ lt st fun v s2 pq st2 mv => ?_)
    obtain ⟨x, t, hq, rfl⟩ := pv i v pq
    have hS2 : TxS P w s2.heap S L := hS.at fun o e => mv.heap S o nw e
    show wpAny _ A.in1 (holding [Value.str x t] (setAdd S (.str x t)) >>= _) _ _ s2
    refine wpAny_bind (wpAny_holding (?_))
    unfold setAdd
    refine wpAny_holding (wpAny_bind ((strKind P w).pyHash (k := x) (PySem.Froz.is_str x t) ?_))
    refine txs_add (s := { s2 with toks := s2.toks + 1 }) hS2 (by omega) fun b h2 L2 sb hS3 c1 c2 => ?_
    have g2 : L2.length ≤ i + 1 ∧ HasS ks (i + 1) L2 := by
      by_cases c : x ∈ L
      · rw [c1 c]; exact ⟨by omega, g.stay hq c⟩
      · rw [c2 c]; exact ⟨by rw [List.length_cons]; omega, g.grow hq⟩
    refine wpAny_pure ⟨plainId_quiet F.plain_set_update_loop _, ih (i + 1) _ (by omega) lt (Wk.frame _ s2 _ _ st2 (Nat.le_add_right _ _) fun b z o e => ?_) ⟨L2, hS3, g2.1, g2.2⟩ fun s3 L3 mv3 hS4 g3 => ?_⟩
    · rw [sb.2 b fun y : b = S => nS (by rw [← y]; exact z)]; exact e
    · refine fin s3 L3 (Moved.trans Wk.gtrans ((mv.mono up).then_heap (Nat.le_add_right _ _) fun b o z e => ?_) mv3) hS4 g3
      rw [sb.2 b fun y : b = S => z (by rw [y]; exact List.mem_cons_self)]; exact e
set_option maxHeartbeats 3200000 in
theorem setS_call {l : Addr} {ys : Array Value} (ks : List Str) {Q : Value → Shared → Prop} (hh : A.handled = none) (hl : s.heap.IsList l ys) (hi : StrsAre ys.toList ks) (lU : ks.length + 1 < scanBound)
    (q : ∀ (h2 : Heap) (tk : Nat) L, TxS P w h2 s.heap.objs.size L → HasS ks ks.length L → (∀ b o, s.heap.get? b = some o → h2.get? b = some o) → Q (.ref s.heap.objs.size) { s with heap := h2, toks := tk }) :
    wpAny (model P w) A (call (.type "set") [.ref l]) Q E s := by
  have zy : ys.size = ks.length := by
    have : ∀ {us : List Value} {xs : List Str}, StrsAre us xs → us.length = xs.length := by
      intro us xs r
      induction r with
      | nil => rfl
      | cons _ _ _ ih => rw [List.length_cons, List.length_cons, ih]
    have z := this hi
    rwa [Array.length_toList] at z
  obtain ⟨_, _, z0⟩ := F.called_set.mro
  have z1 := F.called_set.made
  have z2 := F.called_set.sub
  refine wpAny_call (codeAny_of_tree (show wpAny _ _ (callAny (.type "set") _) _ _ _ from ?_))
  refine wpAny_pure ⟨Code.quiet_builtin _ (by decide +kernel), codeAny_builtin (F.entry_type_call) (?_)⟩
  rw [Around.under_plain (weight_type_call_type "set" [.ref l] []) (rfl)]
  have z3 := F.called_set.notType
  have z4 := F.called_set.canCreate
  have z5 := F.typeCall_set_1 (.ref l)
  repeat (any_goals (first | wp_step | assumption))
  refine codeAny_mono (code_set_led1 (.ref l) (E := E) (Q₁ := fun obj t => obj = .ref s.heap.objs.size ∧ t = { s with heap := s.heap.push (setO0 w) }) ⟨rfl, rfl⟩) fun r t hr => ?_
  cases r with
  | error e => exact hr
  | ok fl =>
    cases fl with
    | ret obj =>
      obtain ⟨e1, e2⟩ := hr
      subst e1 e2
      have gS : (s.heap.push (setO0 w)).get? s.heap.objs.size = some (setO0 w) := Heap.get?_push_size _ rfl
      have tS : Shared.TypeIs { s with heap := s.heap.push (setO0 w) } (.ref s.heap.objs.size) "set" := ⟨_, gS, rfl⟩
      have z6 := F.called_set.init.lookup
      have z7 := F.called_set.init.bind (.ref s.heap.objs.size)
      repeat (any_goals (first | wp_step | assumption))
      refine codeAny_mono (codeAny_call_builtin (R := wants (fun r t => r = .none ∧ ∃ h2 tk L, t = { s with heap := h2, toks := tk } ∧ TxS P w h2 s.heap.objs.size L ∧ HasS ks ks.length L ∧ ∀ b o, s.heap.get? b = some o → h2.get? b = some o) E) F.called_set.init.plain F.entry_set_init (check_set_init_1 tS ?_)) fun r2 t2 hr2 => ?_
      · obtain ⟨⟨cls, od, data, os⟩, ho, ec, m, ed⟩ := hl
        simp only at ec ed
        subst ec ed
        have ho1 : (s.heap.push (setO0 w)).get? l = some { cls := .type "list", dict := od, data := .seq ys m, slots := os } := Heap.get?_push_of_some _ ho
        have z8 := F.sub_list_set
        have z9 := F.sub_list_frozenset
        have za : (Value.type "list" == Value.type "dict") = false := by decide
        have hl1 : (s.heap.push (setO0 w)).IsList l ys := ⟨_, ho1, rfl, m, rfl⟩
        unfold Builtin.«set.__init__» noKeywords Builtin.Frozenset.updateFrom
        generalize hp : pyIter = p
        wp_walk
        subst hp
        refine wpAny_pyIter_list hl1 (wpAny_bind (wpAny_runValue ?_))
        have ls : l < s.heap.objs.size := Heap.lt_size ho
        have h3 : A.in1.in1.in1.handled = none := by simp [hh]
        have zp : (s.heap.push (setO0 w)).objs.size = s.heap.objs.size + 1 := Heap.size_push ..
        have ne : l ≠ (s.heap.push (setO0 w)).objs.size := by rw [zp]; exact Nat.ne_of_lt (Nat.lt_succ_of_lt ls)
        have nf : s.heap.objs.size ∉ [(s.heap.push (setO0 w)).objs.size, l] := by
          rw [zp]
          intro z
          rcases List.mem_cons.mp z with z | z
          · exact Nat.ne_of_lt (Nat.lt_succ_self _) z
          · exact Nat.ne_of_gt ls (by simpa using z)
        have pv : ∀ (i : Nat) (v : Value), ys[i]? = some v → ∃ x t, ks[i]? = some x ∧ v = .str x t := fun i v e => by
          have e2 : ys.toList[i]? = some v := by rw [Array.getElem?_toList]; exact e
          obtain ⟨t, et⟩ := SS.strs_at hi i v e2
          have lt : i < ks.length := by rw [← zy]; exact (Array.getElem?_eq_some_iff.mp e).1
          exact ⟨ks[i], t, List.getElem?_eq_getElem lt, by rw [et, List.getD_eq_getElem?_getD, List.getElem?_eq_getElem lt]; rfl⟩
        refine setS_loop ((Walks.list h3 _ l ne ys).toS) s.heap.objs.size nf ks zy lU pv (ys.size - 0) 0 _ (by omega) (Nat.zero_le _) ⟨⟨_, Heap.get?_push_size _ rfl, rfl, rfl⟩, (hl1.push _)⟩ ?ha ?hb
        case ha =>
          have g2 : ((s.heap.push (setO0 w)).push { cls := .type "list_iterator", data := .fields #[.ref l, .int 0 0] }).get? s.heap.objs.size = some (setO0 w) := Heap.get?_push_of_some _ gS
          exact ⟨[], txs_fresh g2, Nat.le_refl _, HasS.none ks⟩
        case hb =>
          intro t L mv hS g
          obtain ⟨h2, g2, d2, tk2, o2⟩ := t
          have e1 : g2 = s.gens := mv.gens
          have e2 : d2 = s.drawn := mv.drawn
          have e3 : o2 = s.os := mv.os
          subst e1 e2 e3
          refine wpAny_pure (show wpAny _ _ (ret Value.none) _ _ _ from ?_)
          rw [zy] at g
          refine wpAny_pure ⟨rfl, h2, tk2, L, rfl, hS, g, fun b o e => ?_⟩
          have b0 : b < s.heap.objs.size := Heap.lt_size e
          refine mv.heap b o (fun z => ?_) (Heap.get?_push_of_some _ (Heap.get?_push_of_some _ (e)))
          rcases List.mem_cons.mp z with z | z
          · exact Nat.ne_of_lt b0 z
          · have z : b = (s.heap.push (setO0 w)).objs.size := by simpa using z
            rw [zp] at z
            exact absurd b0 (by rw [z]; exact Nat.not_lt.mpr (Nat.le_succ _))
      · cases r2 with
        | error e => exact hr2
        | ok fl2 =>
          cases fl2 with
          | ret r =>
            obtain ⟨e1, h2, tk2, L, e2, hS, g, kp⟩ := hr2
            subst e1 e2
            repeat (any_goals (first | wp_step | assumption))
            exact q _ _ _ hS g kp
          | _ => exact hr2.elim
    | _ => exact hr.elim
theorem perm_sub {α : Type} [DecidableEq α] : ∀ {L M : List α}, L.Nodup → (∀ x ∈ L, x ∈ M) → M.length = L.length → M.Perm L
  | [], M, _, _, h => by rw [List.eq_nil_of_length_eq_zero h]
  | x :: L, M, nd, s, h => by
    obtain ⟨h1, h2⟩ := List.nodup_cons.mp nd
    have hx := s x (by simp)
    have e := List.perm_cons_erase hx
    have l := List.length_erase_of_mem hx
    exact e.trans ((perm_sub (L := L) (M := M.erase x) h2 (fun y hy => (List.mem_erase_of_ne fun z : y = x => h1 (by rw [← z]; exact hy)).mpr (s y (by simp [hy]))) (by rw [l, h, List.length_cons]; omega)).cons x)
theorem strs_of : ∀ (l : List Value), (∀ v ∈ l, ∃ (k : Str) (tk : Tok), v = Value.str k tk) → StrsAre l (l.map strOf)
  | [], _ => .nil
  | v :: l, h => by
    obtain ⟨k, tk, rfl⟩ := h v List.mem_cons_self
    exact .cons k tk (strs_of l fun u hu => h u (List.mem_cons_of_mem _ hu))
theorem sorted_setS {a : Addr} {L : List Str} {Q : Value → Shared → Prop} (R : TxS P w s.heap a L) (hh : A.handled = none) (h64 : L.length < 64)
    (hQ : ∀ s' p (out : Array Value) (c : Nat) (ns : List Str), (∀ b o, s.heap.get? b = some o → s'.heap.get? b = some o) → s'.gens = s.gens → s'.os = s.os → s.heap.objs.size ≤ p →
      s'.heap.get? p = some (seqObj "list" out c) → StrsAre out.toList ns → ns.Perm L → sortedS ns = true → Q (.ref p) s') :
    wpAny (model P w) A (call (.builtin "sorted") [.ref a]) Q E s := by
  obtain ⟨⟨es, ep, t⟩, ho, F, nd, hr, hl⟩ := R
  have hsz : es.size = L.length := F.sz
  have hf : t.fits es.size = true := F.fit
  refine Calls.call_function_entry kind_sorted plain_sorted entry_sorted (args_sorted1 _) ?_
  unfold Builtin.«sorted»
  refine wpAny_bind (m := checkCount "sorted" 1 1 _) (wpAny_pure ?_)
  refine wpAny_bind (collect_set (A := A.in1) hh ⟨_, ho, rfl, rfl⟩ hf (by rw [hsz]; unfold scanBound; omega) hr hl fun s1 vs k1 hz g1 o1 pm => ?_)
  have hvl : vs.length = L.length := by rw [pm.length_eq, List.length_map, Array.length_toList]; exact hsz
  have el : ∀ e ∈ es.toList, ∃ (k : Str) (tk : Tok), e.2 = Value.str k tk := fun e he => by
    obtain ⟨⟨k, hk, _⟩, _⟩ := F.el e he
    have hk : Value.isStrOf k e.2 = true := hk
    cases h2 : e.2 with
    | str y tk => exact ⟨y, tk, rfl⟩
    | _ => rw [h2] at hk; cases hk
  have hI : StrsAre vs (vs.map strOf) := strs_of vs fun v hv => by
    obtain ⟨e, he, q⟩ := List.mem_map.mp (pm.mem_iff.mp hv)
    obtain ⟨k, tk, h1⟩ := el e he
    exact ⟨k, tk, by rw [← q]; exact h1⟩
  have pk : (vs.map strOf).Perm L := by
    have q := pm.map strOf
    rw [List.map_map] at q
    refine q.trans ?_
    have nd2 : (es.toList.map (strOf ∘ (·.2))).length = L.length := by rw [List.length_map, Array.length_toList]; exact hsz
    have mem : ∀ k ∈ L, k ∈ es.toList.map (strOf ∘ (·.2)) := fun k hk => by
      obtain ⟨e, he, z⟩ := (F.mem k).mp hk
      refine List.mem_map.mpr ⟨e, he, ?_⟩
      obtain ⟨y, tk, h1⟩ := el e he
      have z : Value.isStrOf k e.2 = true := z
      rw [h1] at z
      show strOf e.2 = k
      rw [h1]
      have z : (y == k) = true := z
      exact eq_of_beq z
    exact perm_sub nd mem nd2
  refine wpAny_bind (wpAny_newList ?_ (by rw [hvl, sizeLine_eq]; omega))
  have hoL : (s1.heap.push (seqObj "list" vs.toArray 0)).get? s1.heap.objs.size = some (seqObj "list" vs.toArray 0) := Heap.get?_push_size _ rfl
  refine wpAny_bind (wpAny_holding (wpAny_call_entry slot_list_sort ⟨_, hoL, rfl⟩ entry_list_sort (list_sort_treeK strKind_oneLt hoL hI.keysOf (fun v₁ v₂ rest e => keyKind_strs (by rw [← e]; exact hI)) (by rw [hvl]; exact h64) fun st' hp hs => ⟨_, rfl, ?_⟩) (args_list_sort _)))
  obtain ⟨ss', h1, h2, h3⟩ := sorted_out_str hI hp hs
  obtain ⟨c, hc⟩ := sortedHeap_at (vs := vs) (out := (arrOf st').map (·.2)) hoL
  refine wpAny_pure ⟨_, rfl, hQ _ s1.heap.objs.size _ c ss' (fun b u e => ?_) g1 o1 hz hc h1 (h2.trans pk) h3⟩
  have q := k1 b u e
  have hlt := Heap.lt_size q
  show (sortedHeap (s1.heap.push (seqObj "list" vs.toArray 0)) s1.heap.objs.size vs _).get? b = some u
  rw [sortedHeap_old (Nat.ne_of_lt hlt) (by rw [size_push']; exact Nat.lt_succ_of_lt hlt)]
  exact Heap.get?_push_of_some _ q
end
end Y

set_option Elab.async false
set_option linter.all false
set_option maxRecDepth 100000
namespace Y
open PySem PySem.Spec PyProof.Rows L2
def SetSO (P : Program) (w : World) (a : Addr) (l : List Str) : HO := .ext fun h => TxS P w h a l
theorem setSO_new {w : World} {P : Program} {H : Hp} {h : Heap} {a : Addr} {l : List Str} (R : TxS P w h a l) : ObjOk P w H h a (SetSO P w a l) := by
  have ⟨D, ho, _⟩ := R
  exact ⟨R, ⟨_, ho⟩, fun h1 h2 p k => TxS.at p k⟩
def rSetS (K : PySem.W.Frag) (P : Program) (w : World) : List V → Hp → VK → Prop := fun xs H Q => ∃ (l : Addr) (ks : List Str), xs = [V.ref l] ∧ SqL K H l (ks.map V.str) ∧ ks.length + 1 < scanBound ∧
  ∀ a L, H a = none → L.Nodup → (∀ q, q ∈ L ↔ q ∈ ks) → Q (.ref a) (upd H a (SetSO P w a L))
theorem cr_setS {X : Cx} (hc : X.calm = true) : CallR X (.type "set") (rSetS X.K X.prog X.w) := by
  intro pins s σ H xs us Q I r ⟨l, ks, e0, hl, hn, q⟩
  subst e0
  rw [Vals.ref1 r]
  obtain ⟨its, rv, pl, _⟩ := I.list hl
  refine setS_call (P := X.prog) (w := X.w) ks (I.ok.hd hc) pl.isList (by simpa using rv.strs) hn fun h2 tk2 L R g k => ?_
  have nd : L.Nodup := R.choose_spec.2.2.1
  exact ⟨.ref s.heap.objs.size, upd H s.heap.objs.size (SetSO X.prog X.w s.heap.objs.size L), I.laid (t' := tk2) k (Nat.le_refl _) (setSO_new R), rfl, q _ L (I.hok.fresh (Nat.le_refl _)) nd fun p => ⟨fun z => List.mem_of_mem_take (g.low p z), fun z => g.top p (by rw [List.take_length]; exact z)⟩⟩
def rSortedS (P : Program) (w : World) : List V → Hp → VK → Prop := fun vs H Q => ∃ (a : Addr) (L : List Str), vs = [V.ref a] ∧ H a = some (SetSO P w a L) ∧ L.length < 64 ∧
  ∀ (ns : List Str) (p : Addr), ns.Perm L → sortedS ns = true → H p = none → Q (.ref p) (upd H p (.lst (ns.map V.str)))
theorem cr_sortedS {X : Cx} (hc : X.calm = true) : CallR X (.builtin "sorted") (rSortedS X.prog X.w) := by
  intro pins s σ H vs us Q I r ⟨a, L, e0, ha, h64, q⟩
  subst e0
  have R : TxS X.prog X.w s.heap a L := (I.hok a _ ha).1
  rw [Vals.ref1 r]
  refine sorted_setS R (I.ok.hd hc) h64 fun s' p out c ns k g o hp hg hi pm hs => ?_
  have hlen : (ns.map V.str).length ≤ sizeLine := by rw [List.length_map, pm.length_eq, sizeLine_eq]; omega
  have hn : H p = none := I.hok.fresh hp
  have J : Inv X pins σ (upd H p (.lst (ns.map V.str))) { s with heap := s'.heap, gens := s'.gens, drawn := s'.drawn, toks := s'.toks } :=
    I.call (ch := []) (Un.laid k hp hn) (I.hok.laid k hp ⟨hlen, out.toList, c, vals_of_strs hi, hg⟩) (by rw [g]; exact I.bare) (fun _ z => nomatch z)
  have e : s' = { s with heap := s'.heap, gens := s'.gens, drawn := s'.drawn, toks := s'.toks } := by
    cases s'
    cases s
    cases o
    rfl
  rw [e]
  exact ⟨.ref p, _, J, rfl, q ns p pm hs hn⟩
def dedupS : List Str → List Str
  | [] => []
  | x :: xs => if x ∈ xs then dedupS xs else x :: dedupS xs
theorem mem_dedupS : ∀ {xs : List Str} {k : Str}, k ∈ dedupS xs ↔ k ∈ xs
  | [], k => by simp [dedupS]
  | x :: xs, k => by
    unfold dedupS
    split
    · rename_i h
      rw [mem_dedupS, List.mem_cons]
      exact ⟨.inr, fun z => z.elim (fun z => z ▸ h) id⟩
    · rw [List.mem_cons, mem_dedupS, List.mem_cons]
theorem nodup_dedupS : ∀ {xs : List Str}, (dedupS xs).Nodup
  | [] => by simp [dedupS]
  | x :: xs => by
    unfold dedupS
    split
    · exact nodup_dedupS
    · rename_i h
      exact List.nodup_cons.mpr ⟨fun z => h (mem_dedupS.mp z), nodup_dedupS⟩
def setS (xs : List Str) : List Str := sortS (dedupS xs)
theorem setS_of {xs ys : List Str} (nd : ys.Nodup) (m : ∀ k, k ∈ ys ↔ k ∈ xs) (h : ys.Pairwise fun a b => ltStr b a = false) : ys = setS xs :=
  sortS_of ((List.perm_ext_iff_of_nodup nd nodup_dedupS).mpr fun k => by rw [m, mem_dedupS]) h
theorem setS_mem {xs : List Str} {k : Str} : k ∈ setS xs ↔ k ∈ xs := by unfold setS; rw [(sortS_perm _).mem_iff, mem_dedupS]
theorem setS_nodup {xs : List Str} : (setS xs).Nodup := (sortS_perm _).nodup_iff.mpr nodup_dedupS
theorem setS_pw {xs : List Str} : (setS xs).Pairwise fun a b => ltStr b a = false := sortS_pw _
def cSetSortS (m : EM) : EM := fun ρ => do
  let (h, ρ1) ← m ρ
  let d ← (h.d ρ1).nox
  match d with
  | .lst ds => (match strsOf ds with
    | some xs => if xs.length < 63 then pure (.fr (.lst ((setS xs).map D.str)), ρ1) else .stk
    | none => .stk)
  | _ => .stk
section
variable {K : PySem.W.Frag} {X : Cx} {P0 : Pr} {O W : List Nat} {E : EK} {a e : Expr} {ma : EM} {pos : Pos}
theorem ce_setSortS {p p2 q : Pos} (hc : X.calm = true) (hm : X.mg "sorted" = none) (hm2 : X.mg "set" = none) (ha : CEx X P0 O W E a ma) (hg : Gl X "sorted" := by rfl) (hg2 : Gl X "set" := by rfl)
    (na : starEach [a] X.env = (false, eval a X.env) :: starEach [] X.env := by rfl) (n2 : starEach [.Call (.Name "set" p2) [a] [] q] X.env = (false, eval (.Call (.Name "set" p2) [a] [] q) X.env) :: starEach [] X.env := by rfl) :
    CEx X P0 O W E (.Call (.Name "sorted" p) [.Call (.Name "set" p2) [a] [] q] [] pos) (cSetSortS ma) :=
  PE.imp (pe_callB (cr_sortedS hc) hg hm bo_sorted (pa_cons (pe_callTy (cr_setS hc) hg2 hm2 bo_set (pa_cons ha pa_nil na) (by decide) (by decide) na rfl) pa_nil n2) (by decide) (by decide) n2 rfl) fun σ H Q ⟨ρ, S, h⟩ => by
    refine ⟨ρ, S, h.of_bind.mono fun ⟨h1, ρ1⟩ q v H1 S1 k1 r1 => ?_⟩
    obtain ⟨d, e1, q⟩ := q.of_nox
    have rw1 := r1.d S1 e1
    cases d <;> first | exact q.elim | skip
    rename_i ds
    have q : Res E W σ H (match strsOf ds with | some xs => if xs.length < 63 then R.ok (Hd.fr (.lst ((setS xs).map D.str)), ρ1) else .stk | none => .stk) _ := q
    cases es : strsOf ds with
    | none => rw [es] at q; exact q.elim
    | some xs =>
      rw [es] at q
      simp only at q
      by_cases c : xs.length < 63
      · rw [if_pos c] at q
        obtain ⟨l, vs, rfl, t1, t2⟩ := rw1.lst
        obtain rfl := strs_rep es t2
        refine ⟨l, xs, rfl, SqL.of t1, by unfold scanBound; omega, fun p L np nd mm => ?_⟩
        have lL : L.length ≤ xs.length := card_le nd fun x hx => (mm x).mp hx
        refine ⟨p, L, rfl, upd_same, by omega, fun ns p' pm hs hp' => ?_⟩
        obtain rfl : ns = setS xs := setS_of (pm.nodup_iff.mpr nd) (fun k => by rw [pm.mem_iff]; exact mm k) (rising_pw hs)
        have hpn : H1 p' = none := by
          by_cases z : p' = p
          · rw [z, upd_same] at hp'; cases hp'
          · rwa [upd_ne z] at hp'
        have sm : Same H1 (upd (upd H1 p (SetSO X.prog X.w p L)) p' (.lst ((setS xs).map V.str))) := fun b o e => by
          rw [upd_ne (ne_of_none e hpn), upd_ne (ne_of_none e np)]; exact e
        refine out_of (K := X.K) S1 k1 q _ _ sm ?_ fun _ a e => by cases e; exact hpn
        unfold Rep
        exact ⟨p', _, rfl, fun z => (S1.dom p' z).some hpn, upd_same, reps_strs _⟩
      · rw [if_neg c] at q
        exact q.elim
end
@[simp] theorem e_setSortS {m : EM} {ρ : Y.Env} : cSetSortS m ρ = (m ρ >>= fun p => (p.1.d p.2).nox >>= fun d => match d with | .lst ds => (match strsOf ds with | some xs => if xs.length < 63 then R.ok (.fr (.lst ((setS xs).map D.str)), p.2) else .stk | none => .stk) | _ => .stk) := id rfl
end Y

set_option Elab.async false
set_option linter.all false
set_option maxRecDepth 100000
namespace C
open PySem PySem.Spec PyProof.Rows L2 Y
/-- slots: 0:thing -/
noncomputable def m_is_whole : SM := sRet (cAnd (cIsi isInt (cVar 0)) (cNot (cIsi isBl (cVar 0))))
noncomputable def g_is_whole : List D → R Hd := fnP 1 1 m_is_whole
/-- slots: 0:thing 1:many -/
noncomputable def m_is_upto : SM := sRet (cAnd (cCallF g_is_whole (cCons (cVar 0) (cNil))) (cChain leD ltD (cC (.int 0)) (cVar 0) (cVar 1)))
noncomputable def g_is_upto : List D → R Hd := fnP 2 2 m_is_upto
/-- slots: 0:thing 1:many 2:one -/
noncomputable def e_are_bits_1 : EM := cCallF g_is_upto (cCons (cVar 2) (cCons (cC (.int 2)) (cNil)))
noncomputable def m_are_bits : SM := sRet (cAnd (cIsi isTup (cVar 0)) (cAnd (cOp eqD (cCall lenD (cCons (cVar 0) (cNil))) (cVar 1)) (cCall allD (cCons (cComp (cIter (cVar 0)) (tmName 2) (cYes) (e_are_bits_1) [2]) (cNil)))))
noncomputable def g_are_bits : List D → R Hd := fnP 2 3 m_are_bits
/-- slots: 0:script 1:k -/
noncomputable def m__law_cell : SM := sSeq (sIf (cBl (cOp ltD (cVar 1) (cCall lenD (cCons (cVar 0) (cNil))))) (sRet (cIx (cVar 0) (cVar 1))) (sSkip)) (sRet (cOp addD (cOp mulD (cC (.int 6151)) (cVar 1)) (cC (.int 29))))
noncomputable def g__law_cell : List D → R Hd := fnP 2 2 m__law_cell
/-- slots: 0:cell 1:k 2:number -/
noncomputable def m__law_mix : SM := sSeq (sAsg (cOp addD (cOp mulD (cOp addD (cVar 0) (cC (.int 1))) (cC (.int 40692))) (cOp mulD (cC (.int 104729)) (cVar 1))) (tmName 2)) (sSeq (sAsg (cOp addD (cOp modD (cOp mulD (cVar 2) (cVar 2)) (cC (.int 2147483399))) (cVar 1)) (tmName 2)) (sRet (cOp modD (cOp mulD (cVar 2) (cOp addD (cVar 2) (cC (.int 31)))) (cC (.int 2147483563)))))
noncomputable def g__law_mix : List D → R Hd := fnP 2 3 m__law_mix
/-- slots: 0:script 1:k 2:here 3:number 4:j -/
noncomputable def b__law_box_1 : SM := sAsg (cOp addD (cOp mulD (cVar 3) (cC (.int 2147483647))) (cCallF g__law_mix (cCons (cVar 2) (cCons (cVar 4) (cNil))))) (tmName 3)
noncomputable def m__law_box : SM := sSeq (sAsg (cCallF g__law_cell (cCons (cVar 0) (cCons (cVar 1) (cNil)))) (tmName 2)) (sSeq (sIf (cBl (cOp eqD (cOp modD (cVar 2) (cC (.int 2))) (cC (.int 0)))) (sRet (cLst (cCons (cOp fdivD (cVar 2) (cC (.int 2))) (cNil)))) (sSkip)) (sSeq (sAsg (cC (.int 0)) (tmName 3)) (sSeq (sFor [] (cRange rng1D (cCons (cC (.int 24)) (cNil))) (tmName 4) (b__law_box_1) [4]) (sRet (cLst (cCons (cVar 3) (cNil)))))))
noncomputable def g__law_box : List D → R Hd := fnP 2 5 m__law_box
/-- slots: 0:box 1:many 2:left 3:digit -/
noncomputable def m__law_take : SM := sSeq (sAsg (cCall divmodD (cCons (cIx (cOwn 0) (cC (.int 0))) (cCons (cVar 1) (cNil)))) (tmTup [2, 3])) (sSeq (sSetIx 0 (cC (.int 0)) (cVar 2)) (sRet (cVar 3)))
noncomputable def g__law_take : Fn := fnD 2 4 [0] m__law_take
/-- slots: 0:box 1:many 2:ears 3:size 4:number 5:mask 6:least 7:table 8:place 9:j -/
noncomputable def t__law_rule_1 : BM := cBl (cOp eqD (cCallIO [(0, 0)] g__law_take (cCons (cOwn 0) (cCons (cC (.int 3)) (cNil)))) (cC (.int 0)))
noncomputable def e__law_rule_1 : EM := cVar 9
noncomputable def e__law_rule_2 : EM := cOp andD (cOp shrD (cVar 4) (cVar 8)) (cC (.int 1))
noncomputable def e__law_rule_3 : EM := cOp andD (cOp shrD (cOp xorD (cVar 8) (cVar 5)) (cVar 9)) (cC (.int 1))
noncomputable def b__law_rule_1 : SM := sAppend 7 (cCall intOfD (cCons (cOp geD (cCall sumD (cCons (cComp (cRange rng1D (cCons (cCall lenD (cCons (cVar 2) (cNil))) (cNil))) (tmName 9) (cYes) (e__law_rule_3) [9]) (cNil))) (cVar 6)) (cNil)))
noncomputable def m__law_rule : SM := sSeq (sAsg (cCall tupleD (cCons (cSlice (cComp (cRange rng1D (cCons (cVar 1) (cNil))) (tmName 9) (t__law_rule_1) (e__law_rule_1) [9]) (cNoPart) (cPart (cC (.int 4)))) (cNil))) (tmName 2)) (sSeq (sAsg (cOp shlD (cC (.int 1)) (cCall lenD (cCons (cVar 2) (cNil)))) (tmName 3)) (sSeq (sIf (cBl (cOp gtD (cCallIO [(0, 0)] g__law_take (cCons (cOwn 0) (cCons (cC (.int 3)) (cNil)))) (cC (.int 0)))) (sSeq (sAsg (cCallIO [(0, 0)] g__law_take (cCons (cOwn 0) (cCons (cOp shlD (cC (.int 1)) (cVar 3)) (cNil)))) (tmName 4)) (sRet (cTup (cCons (cVar 2) (cCons (cCall tupleD (cCons (cComp (cRange rng1D (cCons (cVar 3) (cNil))) (tmName 8) (cYes) (e__law_rule_2) [8]) (cNil))) (cNil)))))) (sSkip)) (sSeq (sAsg (cCallIO [(0, 0)] g__law_take (cCons (cOwn 0) (cCons (cVar 3) (cNil)))) (tmName 5)) (sSeq (sAsg (cCallIO [(0, 0)] g__law_take (cCons (cOwn 0) (cCons (cOp addD (cCall lenD (cCons (cVar 2) (cNil))) (cC (.int 2))) (cNil)))) (tmName 6)) (sSeq (sOwn [0, 7] [0] (cLst (cNil)) 7) (sSeq (sFor [0] (cRange rng1D (cCons (cVar 3) (cNil))) (tmName 8) (b__law_rule_1) [8]) (sRet (cTup (cCons (cVar 2) (cCons (cCall tupleD (cCons (cOwn 7) (cNil))) (cNil)))))))))))
noncomputable def g__law_rule : Fn := fnD 2 10 [0] m__law_rule
/-- slots: 0:box 1:most 2:many 3:k -/
noncomputable def e__law_net_1 : EM := cCallIO [(0, 0)] g__law_rule (cCons (cOwn 0) (cCons (cVar 2) (cNil)))
noncomputable def m__law_net : SM := sSeq (sAsg (cOp addD (cC (.int 1)) (cCallIO [(0, 0)] g__law_take (cCons (cOwn 0) (cCons (cVar 1) (cNil))))) (tmName 2)) (sRet (cCall tupleD (cCons (cComp (cRange rng1D (cCons (cVar 2) (cNil))) (tmName 3) (cYes) (e__law_net_1) [3]) (cNil))))
noncomputable def g__law_net : Fn := fnD 2 4 [0] m__law_net
/-- slots: 0:thing 1:many 2:one 3:other -/
noncomputable def e_are_rising_1 : EM := cCallF g_is_upto (cCons (cVar 2) (cCons (cVar 1) (cNil)))
noncomputable def e_are_rising_2 : EM := cOp ltD (cVar 2) (cVar 3)
noncomputable def m_are_rising : SM := sSeq (sIf (cOrT (cNotT (cTru (cIsi isTup (cVar 0)))) (cNotT (cTru (cCall allD (cCons (cComp (cIter (cVar 0)) (tmName 2) (cYes) (e_are_rising_1) [2]) (cNil)))))) (sRet (cC (.bl false))) (sSkip)) (sRet (cCall allD (cCons (cComp (cZipG (cCons (cSlice (cVar 0) (cNoPart) (cPart (cNeg (cC (.int 1))))) (cCons (cSlice (cVar 0) (cPart (cC (.int 1))) (cNoPart)) (cNil)))) (tmTup [2, 3]) (cYes) (e_are_rising_2) [2, 3]) (cNil))))
noncomputable def g_are_rising : List D → R Hd := fnP 2 4 m_are_rising
/-- slots: 0:found -/
noncomputable def m__law_whole : SM := sRet (cAnd (cIsi isInt (cVar 0)) (cNot (cIsi isBl (cVar 0))))
/-- slots: 0:thing 1:many -/
noncomputable def m_is_rule : SM := sSeq (sIf (cOrT (cNotT (cTru (cIsi isTup (cVar 0)))) (cOrT (cBl (cOp neD (cCall lenD (cCons (cVar 0) (cNil))) (cC (.int 2)))) (cNotT (cTru (cCallF g_are_rising (cCons (cIx (cVar 0) (cC (.int 0))) (cCons (cVar 1) (cNil)))))))) (sRet (cC (.bl false))) (sSkip)) (sRet (cAnd (cOp leD (cCall lenD (cCons (cIx (cVar 0) (cC (.int 0))) (cNil))) (cC (.int 4))) (cCallF g_are_bits (cCons (cIx (cVar 0) (cC (.int 1))) (cCons (cOp shlD (cC (.int 1)) (cCall lenD (cCons (cIx (cVar 0) (cC (.int 0))) (cNil)))) (cNil))))))
noncomputable def g_is_rule : List D → R Hd := fnP 2 2 m_is_rule
/-- slots: 0:number 1:rule 2:ears 3:table 4:bit 5:ear -/
noncomputable def e_row_of_1 : EM := cOp addD (cCall strOfD (cCons (cVar 5) (cNil))) (cC (.str " "))
noncomputable def e_row_of_2 : EM := cCall strOfD (cCons (cVar 4) (cNil))
noncomputable def m_row_of : SM := sSeq (sAsg (cVar 1) (tmTup [2, 3])) (sRet (cOp addD (cOp addD (cOp addD (cOp addD (cCall strOfD (cCons (cVar 0) (cNil))) (cC (.str ": "))) (cJoin (cC (.str "")) (cComp (cIter (cVar 2)) (tmName 5) (cYes) (e_row_of_1) [5]))) (cC (.str "> "))) (cJoin (cC (.str "")) (cComp (cIter (cVar 3)) (tmName 4) (cYes) (e_row_of_2) [4]))))
noncomputable def g_row_of : List D → R Hd := fnP 2 6 m_row_of
/-- slots: 0:signs 1:known 2:found 3:sign -/
noncomputable def b_numbers_in_1 : SM := sSeq (sIf (cBl (cOp ninD (cVar 3) (cVar 1))) (sRet (cC .non)) (sSkip)) (sAppend 2 (cIndex (cVar 1) (cVar 3)))
noncomputable def m_numbers_in : SM := sSeq (sOwn [2] [] (cLst (cNil)) 2) (sSeq (sFor [] (cIter (cVar 0)) (tmName 3) (b_numbers_in_1) [3]) (sRet (cCall tupleD (cCons (cOwn 2) (cNil)))))
noncomputable def g_numbers_in : List D → R Hd := fnP 2 4 m_numbers_in
/-- slots: 0:row 1:head 2:gap 3:bits 4:words 5:ears 6:table -/
noncomputable def m_rule_in : SM := sSeq (sAsg (cParti (cVar 0) (cC (.str "> "))) (tmTup [1, 2, 3])) (sSeq (sAsg (cSlice (cSplit (cVar 1) (cC (.str " "))) (cPart (cC (.int 1))) (cPart (cNeg (cC (.int 1))))) (tmName 4)) (sSeq (sAsg (cCallF g_numbers_in (cCons (cJoin (cC (.str "")) (cVar 4)) (cCons (cC (.str "01234567")) (cNil)))) (tmName 5)) (sSeq (sAsg (cCallF g_numbers_in (cCons (cVar 3) (cCons (cC (.str "01")) (cNil)))) (tmName 6)) (sSeq (sIf (cOrT (cBl (cOp eqD (cVar 2) (cC (.str "")))) (cOrT (cBl (cOp isD (cVar 5) (cC .non))) (cBl (cOp isD (cVar 6) (cC .non))))) (sRet (cC .non)) (sSkip)) (sRet (cTup (cCons (cVar 5) (cCons (cVar 6) (cNil)))))))))
noncomputable def g_rule_in : List D → R Hd := fnP 1 7 m_rule_in
/-- slots: 0:number 1:rule 2:words 3:ear 4:bit -/
noncomputable def e__law_row_2_1 : EM := cCall strOfD (cCons (cVar 3) (cNil))
noncomputable def e__law_row_2_2 : EM := cIx (cC (.str "01")) (cVar 4)
noncomputable def m__law_row_2 : SM := sSeq (sAsg (cOp addD (cOp addD (cLst (cCons (cOp addD (cCall strOfD (cCons (cVar 0) (cNil))) (cC (.str ":"))) (cNil))) (cComp (cIter (cIx (cVar 1) (cC (.int 0)))) (tmName 3) (cYes) (e__law_row_2_1) [3])) (cLst (cCons (cC (.str ">")) (cNil)))) (tmName 2)) (sRet (cOp addD (cOp addD (cJoin (cC (.str " ")) (cVar 2)) (cC (.str " "))) (cJoin (cC (.str "")) (cComp (cIter (cIx (cVar 1) (cC (.int 1)))) (tmName 4) (cYes) (e__law_row_2_2) [4]))))
noncomputable def g__law_row_2 : List D → R Hd := fnP 2 5 m__law_row_2
/-- slots: 0:text 1:rows 2:many 3:net 4:number 5:row 6:rule -/
noncomputable def b_read_net_2_1 : SM := sSeq (sAsg (cCallF g_rule_in (cCons (cVar 5) (cNil))) (tmName 6)) (sSeq (sIf (cOrT (cBl (cOp eqD (cVar 4) (cC (.int 8)))) (cOrT (cBl (cOp isD (cVar 6) (cC .non))) (cOrT (cNotT (cTru (cCallF g_is_rule (cCons (cVar 6) (cCons (cVar 2) (cNil)))))) (cBl (cOp neD (cCallF g_row_of (cCons (cVar 4) (cCons (cVar 6) (cNil)))) (cVar 5)))))) (sRaiseN "NoText" (cVar 4)) (sSkip)) (sAsg (cOp addD (cVar 3) (cTup (cCons (cVar 6) (cNil)))) (tmName 3)))
noncomputable def m_read_net_2 : SM := sSeq (sIf (cNotT (cTru (cIsi isStr (cVar 0)))) (sRaiseN "NoText" (cC (.int 0))) (sSkip)) (sSeq (sAsg (cSplit (cVar 0) (cC (.str "\n"))) (tmName 1)) (sSeq (sAsg (cCall min2D (cCons (cCall lenD (cCons (cVar 1) (cNil))) (cCons (cC (.int 8)) (cNil)))) (tmName 2)) (sSeq (sAsg (cTup (cNil)) (tmName 3)) (sSeq (sFor [] (cEnumG (cCons (cVar 1) (cNil))) (tmTup [4, 5]) (b_read_net_2_1) [4, 5, 6]) (sRet (cVar 3))))))
noncomputable def g_read_net_2 : List D → R Hd := fnP 1 7 m_read_net_2
/-- slots: 0:row 1:number 2:many 3:words 4:ears 5:sign 6:word -/
noncomputable def t__law_rule_in_1 : BM := cOrT (cBl (cOp neD (cCall lenD (cCons (cVar 6) (cNil))) (cC (.int 1)))) (cBl (cOp ninD (cVar 6) (cC (.str "01234567"))))
noncomputable def e__law_rule_in_1 : EM := cVar 6
noncomputable def t__law_rule_in_2 : BM := cBl (cOp geD (cCall intOfD (cCons (cVar 6) (cNil))) (cVar 2))
noncomputable def e__law_rule_in_2 : EM := cVar 6
noncomputable def t__law_rule_in_3 : BM := cBl (cOp ninD (cVar 5) (cC (.str "01")))
noncomputable def e__law_rule_in_3 : EM := cVar 5
noncomputable def e__law_rule_in_4 : EM := cCall intOfD (cCons (cVar 5) (cNil))
noncomputable def e__law_rule_in_5 : EM := cCall intOfD (cCons (cVar 6) (cNil))
noncomputable def m__law_rule_in : SM := sSeq (sAsg (cSplit (cVar 0) (cC (.str " "))) (tmName 3)) (sSeq (sIf (cOrT (cBl (cOp ltD (cCall lenD (cCons (cVar 3) (cNil))) (cC (.int 3)))) (cOrT (cBl (cOp neD (cIx (cVar 3) (cC (.int 0))) (cOp addD (cCall strOfD (cCons (cVar 1) (cNil))) (cC (.str ":"))))) (cOrT (cBl (cOp neD (cIx (cVar 3) (cNeg (cC (.int 2)))) (cC (.str ">")))) (cBl (cOp gtD (cCall lenD (cCons (cVar 3) (cNil))) (cC (.int 7))))))) (sRet (cC .non)) (sSkip)) (sSeq (sAsg (cSlice (cVar 3) (cPart (cC (.int 1))) (cPart (cNeg (cC (.int 2))))) (tmName 4)) (sSeq (sIf (cOrT (cBl (cOp neD (cComp (cIter (cVar 4)) (tmName 6) (t__law_rule_in_1) (e__law_rule_in_1) [6]) (cLst (cNil)))) (cBl (cOp neD (cSetSortS (cVar 4)) (cVar 4)))) (sRet (cC .non)) (sSkip)) (sSeq (sIf (cOrT (cBl (cOp neD (cComp (cIter (cVar 4)) (tmName 6) (t__law_rule_in_2) (e__law_rule_in_2) [6]) (cLst (cNil)))) (cBl (cOp neD (cCall lenD (cCons (cIx (cVar 3) (cNeg (cC (.int 1)))) (cNil))) (cOp shlD (cC (.int 1)) (cCall lenD (cCons (cVar 4) (cNil))))))) (sRet (cC .non)) (sSkip)) (sSeq (sIf (cBl (cOp neD (cComp (cIter (cIx (cVar 3) (cNeg (cC (.int 1))))) (tmName 5) (t__law_rule_in_3) (e__law_rule_in_3) [5]) (cLst (cNil)))) (sRet (cC .non)) (sSkip)) (sRet (cTup (cCons (cCall tupleD (cCons (cComp (cIter (cVar 4)) (tmName 6) (cYes) (e__law_rule_in_5) [6]) (cNil))) (cCons (cCall tupleD (cCons (cComp (cIter (cIx (cVar 3) (cNeg (cC (.int 1))))) (tmName 5) (cYes) (e__law_rule_in_4) [5]) (cNil))) (cNil))))))))))
noncomputable def g__law_rule_in : List D → R Hd := fnP 3 7 m__law_rule_in
/-- slots: 0:text 1:rows 2:net 3:number 4:row 5:rule -/
noncomputable def b__law_due_14_1 : SM := sSeq (sAsg (cCallF g__law_rule_in (cCons (cVar 4) (cCons (cVar 3) (cCons (cCall min2D (cCons (cC (.int 8)) (cCons (cCall lenD (cCons (cVar 1) (cNil))) (cNil)))) (cNil))))) (tmName 5)) (sSeq (sIf (cOrT (cBl (cOp isD (cVar 5) (cC .non))) (cBl (cOp eqD (cVar 3) (cC (.int 8))))) (sRet (cTup (cCons (cC (.str "text")) (cCons (cVar 3) (cNil))))) (sSkip)) (sAppend 2 (cVar 5)))
noncomputable def m__law_due_14 : SM := sSeq (sIf (cNotT (cTru (cIsi isStr (cVar 0)))) (sRet (cTup (cCons (cC (.str "text")) (cCons (cC (.int 0)) (cNil))))) (sSkip)) (sSeq (sAsg (cSplit (cVar 0) (cC (.str "\n"))) (tmName 1)) (sSeq (sOwn [2] [] (cLst (cNil)) 2) (sSeq (sFor [] (cEnumG (cCons (cVar 1) (cNil))) (tmTup [3, 4]) (b__law_due_14_1) [3, 4, 5]) (sRet (cTup (cCons (cC (.str "net")) (cCons (cCall tupleD (cCons (cOwn 2) (cNil))) (cNil))))))))
noncomputable def g__law_due_14 : List D → R Hd := fnP 1 6 m__law_due_14
/-- slots: 0:text 1:e -/
noncomputable def m__law_said_10 : SM := sSaid 0 1 "net" "NoText" "text" g_read_net_2
noncomputable def g__law_said_10 : List D → R Hd := fnP 1 2 m__law_said_10
/-- slots: 0:box 1:rows 2:k 3:row 4:place 5:sign 6:some 7:head 8:way 9:j -/
noncomputable def e__law_bent_4_1 : EM := cOp addD (cCall strOfD (cCons (cVar 9) (cNil))) (cC (.str ": > 1"))
noncomputable def m__law_bent_4 : SM := sSeq (sAsg (cCallIO [(0, 0)] g__law_take (cCons (cOwn 0) (cCons (cCall lenD (cCons (cVar 1) (cNil))) (cNil)))) (tmName 2)) (sSeq (sAsg (cIx (cVar 1) (cVar 2)) (tmName 3)) (sSeq (sAsg (cCallIO [(0, 0)] g__law_take (cCons (cOwn 0) (cCons (cOp addD (cCall lenD (cCons (cVar 3) (cNil))) (cC (.int 1))) (cNil)))) (tmName 4)) (sSeq (sAsg (cIx (cC (.str "01 :>-7a\n,8")) (cCallIO [(0, 0)] g__law_take (cCons (cOwn 0) (cCons (cC (.int 11)) (cNil))))) (tmName 5)) (sSeq (sAsg (cLst (cCons (cOp addD (cOp addD (cSlice (cVar 3) (cNoPart) (cPart (cVar 4))) (cVar 5)) (cSlice (cVar 3) (cPart (cVar 4)) (cNoPart))) (cCons (cOp addD (cSlice (cVar 3) (cNoPart) (cPart (cVar 4))) (cSlice (cVar 3) (cPart (cOp addD (cVar 4) (cC (.int 1)))) (cNoPart))) (cCons (cOp addD (cOp addD (cSlice (cVar 3) (cNoPart) (cPart (cVar 4))) (cVar 5)) (cSlice (cVar 3) (cPart (cOp addD (cVar 4) (cC (.int 1)))) (cNoPart))) (cNil))))) (tmName 6)) (sSeq (sAsg (cOp addD (cCall strOfD (cCons (cVar 2) (cNil))) (cC (.str ": "))) (tmName 7)) (sSeq (sAsg (cOp addD (cVar 6) (cLst (cCons (cOp addD (cVar 7) (cC (.str "> 2"))) (cCons (cOp addD (cVar 7) (cC (.str "> "))) (cCons (cOp addD (cVar 7) (cC (.str "> 01"))) (cCons (cOp addD (cVar 7) (cC (.str "0 0 > 0110"))) (cCons (cOp addD (cVar 7) (cC (.str "8 > 01"))) (cCons (cOp addD (cVar 7) (cC (.str "7 > 01"))) (cNil))))))))) (tmName 6)) (sSeq (sAsg (cOp addD (cVar 6) (cLst (cCons (cOp addD (cOp addD (cVar 7) (cC (.str "0 1 2 3 4 > "))) (cOp mulD (cC (.str "01")) (cC (.int 16)))) (cCons (cOp addD (cVar 7) (cC (.str "1 0 > 0110"))) (cCons (cOp addD (cVar 7) (cC (.str "0 > 011"))) (cCons (cOp addD (cVar 7) (cC (.str "0  > 01"))) (cCons (cC (.str "")) (cNil)))))))) (tmName 6)) (sSeq (sAsg (cOp addD (cVar 6) (cLst (cCons (cOp addD (cVar 7) (cC (.str "> 1 "))) (cCons (cOp addD (cC (.str " ")) (cVar 3)) (cCons (cOp addD (cVar 3) (cC (.str "\n"))) (cCons (cOp addD (cC (.str "0")) (cVar 3)) (cCons (cOp addD (cVar 7) (cC (.str "00 > 01"))) (cCons (cOp addD (cVar 7) (cC (.str "0> 01"))) (cCons (cOp addD (cVar 3) (cC (.str "0"))) (cNil)))))))))) (tmName 6)) (sSeq (sAsg (cCallIO [(0, 0)] g__law_take (cCons (cOwn 0) (cCons (cC (.int 8)) (cNil)))) (tmName 8)) (sSeq (sIf (cBl (cOp eqD (cVar 8) (cC (.int 0)))) (sRet (cOp addD (cSlice (cVar 1) (cNoPart) (cPart (cVar 2))) (cSlice (cVar 1) (cPart (cOp addD (cVar 2) (cC (.int 1)))) (cNoPart)))) (sSkip)) (sSeq (sIf (cBl (cOp eqD (cVar 8) (cC (.int 1)))) (sRet (cOp addD (cSlice (cVar 1) (cNoPart) (cPart (cOp addD (cVar 2) (cC (.int 1))))) (cSlice (cVar 1) (cPart (cVar 2)) (cNoPart)))) (sSkip)) (sSeq (sIf (cBl (cOp eqD (cVar 8) (cC (.int 2)))) (sRet (cOp addD (cVar 1) (cComp (cRange rng2D (cCons (cCall lenD (cCons (cVar 1) (cNil))) (cCons (cOp addD (cC (.int 7)) (cCallIO [(0, 0)] g__law_take (cCons (cOwn 0) (cCons (cC (.int 4)) (cNil))))) (cNil)))) (tmName 9) (cYes) (e__law_bent_4_1) [9]))) (sSkip)) (sSeq (sIf (cBl (cOp eqD (cVar 8) (cC (.int 3)))) (sRet (cOp addD (cSlice (cVar 1) (cPart (cVar 2)) (cNoPart)) (cSlice (cVar 1) (cNoPart) (cPart (cVar 2))))) (sSkip)) (sRet (cOp addD (cOp addD (cSlice (cVar 1) (cNoPart) (cPart (cVar 2))) (cLst (cCons (cIx (cVar 6) (cCallIO [(0, 0)] g__law_take (cCons (cOwn 0) (cCons (cCall lenD (cCons (cVar 6) (cNil))) (cNil))))) (cNil)))) (cSlice (cVar 1) (cPart (cOp addD (cVar 2) (cC (.int 1)))) (cNoPart)))))))))))))))))
noncomputable def g__law_bent_4 : Fn := fnD 2 10 [0] m__law_bent_4
/-- slots: 0:script 1:k 2:box 3:net 4:rows 5:turn 6:text 7:odd 8:number 9:rule -/
noncomputable def e_law_k06_1 : EM := cCallF g__law_row_2 (cCons (cVar 8) (cCons (cVar 9) (cNil)))
noncomputable def b_law_k06_1 : SM := sSeq (sAsg (cJoin (cC (.str "\n")) (cCallIO [(0, 2)] g__law_bent_4 (cCons (cOwn 2) (cCons (cVar 4) (cNil))))) (tmName 6)) (sIf (cBl (cOp neD (cCallF g__law_said_10 (cCons (cVar 6) (cNil))) (cCallF g__law_due_14 (cCons (cVar 6) (cNil))))) (sRet (cC (.bl false))) (sSkip))
noncomputable def b_law_k06_2 : SM := sSeq (sOwn [2] [2] (cCallF g__law_box (cCons (cVar 0) (cCons (cVar 1) (cNil)))) 2) (sSeq (sAsg (cCallIO [(0, 2)] g__law_net (cCons (cOwn 2) (cCons (cC (.int 8)) (cNil)))) (tmName 3)) (sSeq (sAsg (cComp (cEnumG (cCons (cVar 3) (cNil))) (tmTup [8, 9]) (cYes) (e_law_k06_1) [8, 9]) (tmName 4)) (sSeq (sFor [] (cRange rng1D (cCons (cC (.int 3)) (cNil))) (tmName 5) (b_law_k06_1) [5, 6]) (sSeq (sAsg (cIx (cLst (cCons (cC .non) (cCons (cC (.int 0)) (cCons (cC (.bl true)) (cCons (cVar 4) (cCons (cVar 3) (cCons (cTup (cNil)) (cCons (cDicS "0" "> 1") (cNil))))))))) (cCallIO [(0, 2)] g__law_take (cCons (cOwn 2) (cCons (cC (.int 7)) (cNil))))) (tmName 7)) (sIf (cOrT (cBl (cOp neD (cCallF g__law_said_10 (cCons (cVar 7) (cNil))) (cTup (cCons (cC (.str "text")) (cCons (cC (.int 0)) (cNil)))))) (cBl (cOp neD (cCallF g__law_said_10 (cCons (cJoin (cC (.str "\n")) (cVar 4)) (cNil))) (cTup (cCons (cC (.str "net")) (cCons (cVar 3) (cNil))))))) (sRet (cC (.bl false))) (sSkip))))))
noncomputable def m_law_k06 : SM := sSeq (sFor [] (cRange rng1D (cCons (cCall max2D (cCons (cC (.int 1)) (cCons (cCall min2D (cCons (cCall lenD (cCons (cVar 0) (cNil))) (cCons (cC (.int 10)) (cNil)))) (cNil)))) (cNil))) (tmName 1) (b_law_k06_2) [1, 2, 3, 4, 5, 6, 7]) (sRet (cOp eqD (cCallF g__law_said_10 (cCons (cC (.str "")) (cNil))) (cTup (cCons (cC (.str "text")) (cCons (cC (.int 0)) (cNil))))))
noncomputable def g_law_k06 : List D → R Hd := fnP 1 10 m_law_k06
end C

set_option Elab.async false
set_option linter.all false
set_option maxRecDepth 100000
namespace H
open PySem PySem.Spec PyProof.Rows L2 Y
abbrev ti (xs : List Int) : D := .tup (xs.map D.int)
abbrev dRule (r : List Int × List Int) : D := .tup [ti r.1, ti r.2]
abbrev dNet (ns : List (List Int × List Int)) : D := .tup (ns.map dRule)
@[simp] theorem is_whole_int {i : Int} : C.g_is_whole [.int i] = .ok (.fr (.bl true)) := by
  simp [C.g_is_whole, C.m_is_whole, e_fnP, noDit, Y.isInt, Y.isBl]
@[simp] theorem is_upto_int {i m : Int} : C.g_is_upto [.int i, .int m] = .ok (.fr (.bl (decide (0 ≤ i ∧ i < m)))) := by
  simp [C.g_is_upto, C.m_is_upto, e_fnP, is_whole_int]
  by_cases h : 0 ≤ i <;> simp [h]
end H

set_option Elab.async false
set_option linter.all false
set_option maxRecDepth 100000
namespace H
open PySem PySem.Spec PyProof.Rows L2 Y
theorem atI_nat' {α : Type} {xs : List α} {k : Nat} (h : k < xs.length) : atI xs (k : Int) = some xs[k] := atI_of (j := k) rfl (List.getElem?_eq_getElem h)
theorem atI_int {xs : List Int} {i : Int} (h0 : 0 ≤ i) (h : i < xs.length) : atI xs i = some (xs.getD i.toNat 0) := by
  rw [atI_lt h0 h, List.getD_eq_getElem?_getD, List.getElem?_eq_getElem (by omega)]
  rfl
abbrev RuleT := List Int × List Int
structure GoodNet (ns : List RuleT) : Prop where
  sz : ns.length ≤ 100
  ear : ∀ r ∈ ns, r.1.length ≤ 100 ∧ (∀ e ∈ r.1, 0 ≤ e ∧ e < ns.length) ∧ r.2.length = 2 ^ r.1.length
structure IsSt (m : Nat) (st : List Int) : Prop where
  len : st.length = m
  bit : ∀ x ∈ st, 0 ≤ x ∧ x < 2
theorem getD_bit {st : List Int} (h : ∀ x ∈ st, 0 ≤ x ∧ x < 2) (k : Nat) : 0 ≤ st.getD k 0 ∧ st.getD k 0 < 2 := by
  rw [List.getD_eq_getElem?_getD]
  cases e : st[k]? with
  | none => simp
  | some x => exact h x (List.mem_of_getElem? e)
theorem IsSt.get {m : Nat} {st : List Int} (h : IsSt m st) (k : Nat) : 0 ≤ st.getD k 0 ∧ st.getD k 0 < 2 := getD_bit h.bit k
theorem GoodNet.at {ns : List RuleT} (g : GoodNet ns) {k : Nat} (h : k < ns.length) : (ns.getD k ([], [])).1.length ≤ 100 ∧ (∀ e ∈ (ns.getD k ([], [])).1, 0 ≤ e ∧ e < ns.length) ∧ (ns.getD k ([], [])).2.length = 2 ^ (ns.getD k ([], [])).1.length := by
  rw [List.getD_eq_getElem?_getD, List.getElem?_eq_getElem h]
  exact g.ear _ (List.getElem_mem h)
def stands : Nat → List (List Int)
  | 0 => [[]]
  | m + 1 => (stands m).map (0 :: ·) ++ (stands m).map (1 :: ·)
end H

set_option Elab.async false
set_option linter.all false
set_option maxRecDepth 100000
set_option exponentiation.threshold 300
namespace H
open PySem PySem.Spec PyProof.Rows L2 Y
def cellI (ns : List Int) (k : Nat) : Int := if k < ns.length then ns.getD k 0 else 6151 * k + 29
def isOk (r : R Hd) (d : D) : Prop := r = .ok (.fr d) ∨ r = .ok (.vl d)
theorem cell_ok {ns : List Int} {k : Nat} : isOk (C.g__law_cell [.arg ns, .int k]) (.int (cellI ns k)) := by
  unfold cellI
  by_cases h : k < ns.length
  · right
    have a := atI_int (xs := ns) (i := k) (by omega) (by omega)
    simp only [Int.toNat_natCast] at a
    simp [C.g__law_cell, C.m__law_cell, e_fnP, h, a, -List.getD_eq_getElem?_getD]
  · left
    simp [C.g__law_cell, C.m__law_cell, e_fnP, h, mulOk_l]
/-- numbers that the machine bears as factors -/
def Big (n : Nat) (z : Int) : Prop := z.natAbs < 2 ^ n
theorem Big.mul {a b : Int} {n m : Nat} (h : Big n a) (h2 : Big m b) (hn : n < 67108000) (hm : m < 67108000) : mulOk a b = true := by
  have l : ∀ {z : Int} {n : Nat}, Big n z → n < 67108000 → z.natAbs.log2 < 67108856 := fun {z n} h hn => by
    by_cases e : z.natAbs = 0
    · rw [e]; simp
    · exact Nat.lt_of_lt_of_le ((Nat.log2_lt e).mpr h) (by omega)
  have e : (2 : Nat) ^ 26 - 8 = 67108856 := by decide
  unfold mulOk
  rw [e, decide_eq_true (p := a.natAbs.log2 < 67108856 ∧ b.natAbs.log2 < 67108856) ⟨l h hn, l h2 hm⟩]
  simp
theorem Big.add {a b : Int} {n : Nat} (h : Big n a) (h2 : Big n b) : Big (n + 1) (a + b) := by
  unfold Big at *
  rw [Nat.pow_succ]
  have := Int.natAbs_add_le a b
  omega
theorem Big.times {a b : Int} {n m : Nat} (h : Big n a) (h2 : Big m b) : Big (n + m) (a * b) := by
  unfold Big at *
  rw [Int.natAbs_mul, Nat.pow_add]
  exact Nat.mul_lt_mul'' h h2
theorem Big.up {a : Int} {n m : Nat} (h : Big n a) (hm : n ≤ m) : Big m a := Nat.lt_of_lt_of_le h (Nat.pow_le_pow_right (by omega) hm)
theorem big64 {a : Int} (h : a.natAbs < 18446744073709551616) : Big 64 a := h
/-- a script's numbers are not too great -/
theorem bits_big {z : Int} (h : Builtin.Int.intBits z ≤ 1048576) : Big 1048576 z := by
  unfold Builtin.Int.intBits at h
  unfold Big
  split at h
  · rename_i e
    have : z.natAbs = 0 := by simpa using e
    rw [this]
    exact Nat.pow_pos (by omega)
  · have := Nat.lt_log2_self (n := z.natAbs)
    exact Nat.lt_of_lt_of_le this (Nat.pow_le_pow_right (by omega) h)
theorem cell_big {ns : List Int} {k : Nat} (hb : ∀ z ∈ ns, Builtin.Int.intBits z ≤ 1048576) (hk : k < 1000000) : Big 1048576 (cellI ns k) := by
  unfold cellI
  split
  · rename_i h
    rw [List.getD_eq_getElem?_getD, List.getElem?_eq_getElem h]
    exact bits_big (hb _ (List.getElem_mem h))
  · exact (big64 (by omega)).up (by omega)
def mixI (c k : Int) : Int :=
  let n := (c + 1) * 40692 + 104729 * k
  let m := n * n % 2147483399 + k
  m * (m + 31) % 2147483563
theorem mix_ok {c : Int} {k : Nat} (hc : Big 1048576 c) (hk : k < 1000000) : C.g__law_mix [.int c, .int k] = .ok (.fr (.int (mixI c k))) := by
  have b1 : Big 1048700 ((c + 1) * 40692 + 104729 * k) := by
    have h1 : Big 1048577 (c + 1) := Big.add hc ((big64 (a := 1) (by omega)).up (by omega))
    have h2 : Big (1048577 + 64) ((c + 1) * 40692) := h1.times (big64 (by omega))
    have h3 : Big 64 (104729 * (k : Int)) := big64 (by omega)
    exact (h2.add (h3.up (by omega))).up (by omega)
  have b2 := Big.mul b1 b1 (by omega) (by omega)
  have p : 0 ≤ ((c + 1) * 40692 + 104729 * (k : Int)) * ((c + 1) * 40692 + 104729 * k) % 2147483399 ∧ ((c + 1) * 40692 + 104729 * (k : Int)) * ((c + 1) * 40692 + 104729 * k) % 2147483399 < 2147483399 := ⟨Int.emod_nonneg _ (by omega), Int.emod_lt_of_pos _ (by omega)⟩
  have b3 : mulOk (((c + 1) * 40692 + 104729 * (k : Int)) * ((c + 1) * 40692 + 104729 * k) % 2147483399 + k) (((c + 1) * 40692 + 104729 * (k : Int)) * ((c + 1) * 40692 + 104729 * k) % 2147483399 + k + 31) = true := mulOk_l (by omega)
  have b4 : mulOk (c + 1) 40692 = true := mulOk_r (by decide)
  have b5 : mulOk 104729 k = true := mulOk_l (by decide)
  simp [C.g__law_mix, C.m__law_mix, e_fnP, b2, b3, b4, b5, mixI]
def boxN (c : Int) (j : Nat) : Int := (List.range j).foldl (fun p j => p * 2147483647 + mixI c (j : Nat)) 0
theorem boxN_succ {c : Int} {j : Nat} : boxN c (j + 1) = boxN c j * 2147483647 + mixI c j := by
  unfold boxN
  rw [List.range_succ, List.foldl_append]
  rfl
theorem box_ok {ns : List Int} {k : Nat} (hb : ∀ z ∈ ns, Builtin.Int.intBits z ≤ 1048576) (hk : k < 1000) : ∃ b : Int, C.g__law_box [.arg ns, .int k] = .ok (.fr (.lst [.int b])) := by
  have hc := cell_big (ns := ns) (k := k) hb (by omega)
  have h : forL (tmName 4) C.b__law_box_1 [4] [] ((List.range 24).map fun j : Nat => D.int (j : Nat)) [some (.arg ns), some (.int k), some (.int (cellI ns k)), some (.int 0), none] = .ok (.nx, [some (.arg ns), some (.int k), some (.int (cellI ns k)), some (.int (boxN (cellI ns k) 24)), none]) :=
    for_rng (fun j : Nat => D.int (j : Nat)) (fun j => [some (.arg ns), some (.int k), some (.int (cellI ns k)), some (.int (boxN (cellI ns k) j)), none]) (fun j hj => by
      refine ⟨by simp, ?_⟩
      have m := mix_ok (k := j) hc (by omega)
      have b : ∀ p : Int, mulOk p 2147483647 = true := fun p => mulOk_r (by decide)
      simp only [turnF, C.b__law_box_1]
      simp [m, b, boxN_succ])
  have hr : rngOk 24 = true := by decide
  have hz : szOk 24 = true := by decide
  have r24 : rng1D [.int 24] = .ok ((List.range 24).map fun j : Nat => D.int (j : Nat)) := by rw [d_rng1, if_pos hr]; rfl
  have z24 : szOk ((List.range 24).map fun j : Nat => D.int (j : Nat)).length = true := by simp [hz]
  by_cases e : cellI ns k % 2 = 0
  · refine ⟨cellI ns k / 2, ?_⟩
    rcases cell_ok (ns := ns) (k := k) with c | c <;> simp [C.g__law_box, C.m__law_box, e_fnP, c, e, smallPos_of]
  · refine ⟨boxN (cellI ns k) 24, ?_⟩
    rcases cell_ok (ns := ns) (k := k) with c | c <;> simp only [C.g__law_box, C.m__law_box] <;> generalize C.b__law_box_1 = B at h ⊢ <;> generalize (List.range 24).map (fun j : Nat => D.int (j : Nat)) = L24 at h r24 z24 <;> simp [e_fnP, c, e, r24, z24, h, -d_rng1]
theorem take_ok {n m : Int} (h0 : 0 < m) (h1 : m < 1073741824) : C.g__law_take [.lst [.int n], .int m] = .ok (.vl (.int (n % m)), [some (.lst [.int (n / m)]), none]) := by
  have a : atI [D.int n] 0 = some (.int n) := rfl
  have b : ixN 1 0 = some 0 := rfl
  simp [C.g__law_take, C.m__law_take, e_fnD, smallPos_of h0 h1, a, b]
theorem shl1 {k : Nat} (h : k ≤ 1000000) : shlD (.int 1) (.int (k : Nat)) = .ok (.int ((2 ^ k : Nat) : Int)) := by
  rw [d_shl, if_pos (shOk_of (by omega) (by omega) (by decide))]
  simp
theorem cut_hi {ds : List D} {k : Nat} : Y.cutD ds none (some (k : Int)) = ds.take k := by
  unfold Y.cutD
  rw [HT.sIx_none, HT.sIx_nat]
  simp
/-- a rule for m switches -/
structure RuleOk (m : Nat) (r : RuleT) : Prop where
  len : r.1.length ≤ 4
  sub : ∃ es : List Nat, r.1 = es.map (fun j : Nat => (j : Int)) ∧ es.Sublist (List.range m)
  tab : r.2.length = 2 ^ r.1.length
  bit : ∀ x ∈ r.2, 0 ≤ x ∧ x < 2
theorem bit1 {x : Int} : 0 ≤ Builtin.bitAnd x 1 ∧ Builtin.bitAnd x 1 < 2 := by
  have := Bits.bit_at (x := x) 0
  simp at this
  rw [this]
  omega
theorem rule_ok {n : Int} {m : Nat} (hm : m ≤ 100) : ∃ (r : RuleT) (n' : Int), C.g__law_rule [.lst [.int n], .int m] = .ok (.fr (dRule r), [some (.lst [.int n']), none]) ∧ RuleOk m r := by
  obtain ⟨es, n1, h1, sub⟩ := comp_exF (tm := tmName 9) (t := C.t__law_rule_1) (e := C.e__law_rule_1) (vs := [9]) (ws := []) (fun j : Nat => D.int (j : Nat)) (fun j : Nat => D.int (j : Nat)) (fun b : Int => [some (.lst [.int b]), some (.int m), none, none, none, none, none, none, none, none]) (List.range m) n (fun b j hj => by
    refine ⟨decide (b % 3 = 0), b / 3, ?_, by simp⟩
    simp only [turnC, C.t__law_rule_1, C.e__law_rule_1]
    simp [take_ok]
    split <;> rfl)
  generalize hE : (es.take 4).map (fun j : Nat => (j : Int)) = E
  have hE2 : (es.take 4).map (fun j : Nat => D.int (j : Nat)) = E.map D.int := by rw [← hE, List.map_map]; rfl
  have hL : E.length ≤ 4 := by rw [← hE]; simp; omega
  have hS : 1 ≤ 2 ^ E.length ∧ 2 ^ E.length ≤ 16 := ⟨Nat.pow_pos (by omega), Nat.pow_le_pow_right (n := 2) (by omega) hL⟩
  have hT : 1 ≤ 2 ^ 2 ^ E.length ∧ 2 ^ 2 ^ E.length ≤ 65536 := ⟨Nat.pow_pos (by omega), Nat.pow_le_pow_right (n := 2) (by omega) hS.2⟩
  have s1 := shl1 (k := E.length) (by omega)
  have s2 := shl1 (k := 2 ^ E.length) (by omega)
  have c4 : Y.cutD (es.map (fun j : Nat => D.int (j : Nat))) none (some 4) = E.map D.int := by
    rw [← hE2, List.map_take]
    exact cut_hi (k := 4)
  have rok : ∀ t : List Int, t.length = 2 ^ E.length → (∀ x ∈ t, 0 ≤ x ∧ x < 2) → RuleOk m (E, t) := fun t h1 h2 => ⟨hL, ⟨es.take 4, hE.symm, (List.take_sublist 4 es).trans sub⟩, h1, h2⟩
  have rm : rngOk m = true := rngOk_of (by omega) (by omega)
  have zm : szOk m = true := szOk_of (by omega)
  generalize 2 ^ 2 ^ E.length = T at *
  generalize hSe : 2 ^ E.length = S at *
  have rS : rngOk S = true := rngOk_of (by omega) (by omega)
  have zS : szOk S = true := szOk_of (by omega)
  have tk : ∀ (b : Int) (k : Nat), 1 ≤ k → k ≤ 65536 → C.g__law_take [.lst [.int b], .int k] = .ok (.vl (.int (b % k)), [some (.lst [.int (b / k)]), none]) := fun b k h1 h2 => take_ok (by omega) (by omega)
  have tS := fun b : Int => tk b S hS.1 (by omega)
  have tT := fun b : Int => tk b T hT.1 hT.2
  by_cases way : 0 < n1 % 3
  · -- bits drawn
    let f : Nat → Int := fun p => Builtin.bitAnd (n1 / 3 % T / 2 ^ p) 1
    have h2 : ∀ (a b c d e g : Option D), cCompL (tmName 8) cYes C.e__law_rule_2 [8] [] ((List.range S).map fun j : Nat => D.int (j : Nat)) [a, b, c, d, some (.int (n1 / 3 % T)), e, g, none, none, none] = .ok (((List.range S).map f).map D.int, [a, b, c, d, some (.int (n1 / 3 % T)), e, g, none, none, none]) := fun a b c d e g => by
      rw [List.map_map]
      exact comp_map (fun j : Nat => D.int (j : Nat)) (fun p => D.int (f p)) (List.range S) fun p hp => by
        simp only [turnC, C.e__law_rule_2]
        simp [f]
    refine ⟨(E, (List.range S).map f), n1 / 3 / T, ?_, rok _ (by simp) fun x hx => ?_⟩
    · simp only [C.g__law_rule, C.m__law_rule]
      simp [e_fnD, rm, zm, h1, c4, s1, s2, tS, tT, take_ok, way, rS, zS, h2, hS, hT, -d_shl]
    · obtain ⟨p, _, rfl⟩ := List.mem_map.mp hx
      exact bit1
  · -- by how many
    have t2 : ∀ b : Int, C.g__law_take [.lst [.int b], .int ((E.length : Nat) + 2)] = .ok (.vl (.int (b % ((E.length : Nat) + 2))), [some (.lst [.int (b / ((E.length : Nat) + 2))]), none]) := fun b => take_ok (by omega) (by omega)
    have rL : rngOk E.length = true := rngOk_of (by omega) (by omega)
    have zL : szOk E.length = true := szOk_of (by omega)
    let ms : Int := n1 / 3 % S
    let le : Int := n1 / 3 / S % ((E.length : Nat) + 2)
    let n4 : Int := n1 / 3 / S / ((E.length : Nat) + 2)
    let bt : Nat → Nat → Int := fun p j => Builtin.bitAnd (Builtin.bitXor p ms / 2 ^ j) 1
    let f : Nat → Int := fun p => if le ≤ ((List.range E.length).map (bt p)).sum then 1 else 0
    have h2 : ∀ p : Nat, ∀ (a b c d e g h : Option D), cCompL (tmName 9) cYes C.e__law_rule_3 [9] [] ((List.range E.length).map fun j : Nat => D.int (j : Nat)) [a, b, c, d, e, some (.int ms), g, h, some (.int p), none] = .ok (((List.range E.length).map (bt p)).map D.int, [a, b, c, d, e, some (.int ms), g, h, some (.int p), none]) := fun p a b c d e g h => by
      rw [List.map_map]
      exact comp_map (fun j : Nat => D.int (j : Nat)) (fun j => D.int (bt p j)) (List.range E.length) fun j hj => by
        simp only [turnC, C.e__law_rule_3]
        simp [bt]
    have h3 : forL (tmName 8) C.b__law_rule_1 [8] [] ((List.range S).map fun j : Nat => D.int (j : Nat)) [some (.lst [.int n4]), some (.int m), some (ti E), some (.int S), none, some (.int ms), some (.int le), some (.lst []), none, none] = .ok (.nx, [some (.lst [.int n4]), some (.int m), some (ti E), some (.int S), none, some (.int ms), some (.int le), some (.lst (((List.range S).map f).map D.int)), none, none]) :=
      for_rng (fun j : Nat => D.int (j : Nat)) (fun j => [some (.lst [.int n4]), some (.int m), some (ti E), some (.int S), none, some (.int ms), some (.int le), some (.lst (((List.range j).map f).map D.int)), none, none]) fun j hj => by
        refine ⟨by simp, ?_⟩
        have z1 : szOk (j + 1) = true := szOk_of (by omega)
        simp only [turnF, C.b__law_rule_1]
        simp [rL, zL, h2, z1, List.range_succ, f, -List.map_map]
    refine ⟨(E, (List.range S).map f), n4, ?_, rok _ (by simp) fun x hx => ?_⟩
    · simp only [C.g__law_rule, C.m__law_rule]
      have h3 : forL (tmName 8) C.b__law_rule_1 [8] [] ((List.range S).map fun j : Nat => D.int (j : Nat)) [some (.lst [.int (n1 / 3 / S / ((E.length : Nat) + 2))]), some (.int m), some (ti E), some (.int S), none, some (.int (n1 / 3 % S)), some (.int (n1 / 3 / S % ((E.length : Nat) + 2))), some (.lst []), none, none] = _ := h3
      simp [e_fnD, rm, zm, h1, c4, s1, s2, tS, t2, take_ok, way, rS, zS, h3, hS, hT, -d_shl, shAt]
    · obtain ⟨p, _, rfl⟩ := List.mem_map.mp hx
      simp only [f]
      split <;> omega
end H

set_option Elab.async false
set_option linter.all false
set_option maxRecDepth 100000
namespace H
open PySem PySem.Spec PyProof.Rows L2 Y
structure NetOk (ns : List RuleT) (most : Nat) : Prop where
  pos : 1 ≤ ns.length
  le : ns.length ≤ most
  rule : ∀ r ∈ ns, RuleOk ns.length r
theorem net_ok {n : Int} {most : Nat} (h0 : 1 ≤ most) (h1 : most ≤ 20) : ∃ (ns : List RuleT) (n' : Int), C.g__law_net [.lst [.int n], .int most] = .ok (.fr (dNet ns), [some (.lst [.int n']), none]) ∧ NetOk ns most := by
  have p : 0 ≤ n % (most : Int) ∧ n % (most : Int) < most := ⟨Int.emod_nonneg _ (by omega), Int.emod_lt_of_pos _ (by omega)⟩
  have tk := take_ok (n := n) (m := most) (by omega) (by omega)
  obtain ⟨M, hM⟩ : ∃ M : Nat, 1 + n % (most : Int) = M := ⟨(1 + n % (most : Int)).toNat, by omega⟩
  have hM1 : 1 ≤ M ∧ M ≤ most := by omega
  obtain ⟨ns, n2, e, hl, hr⟩ := comp_ex (tm := tmName 3) (t := cYes) (e := C.e__law_net_1) (vs := [3]) (ws := []) (fun j : Nat => D.int (j : Nat)) dRule (fun b : Int => [some (.lst [.int b]), some (.int most), some (.int M), none]) (RuleOk M) (List.range M) (n / most) (fun b j hj => by
    obtain ⟨r, b2, e, hr⟩ := rule_ok (n := b) (m := M) (by omega)
    refine ⟨r, b2, ?_, hr, by simp⟩
    simp only [turnC, C.e__law_net_1]
    simp [e])
  rw [List.length_range] at hl
  have rM : rngOk M = true := rngOk_of (by omega) (by omega)
  have zM : szOk M = true := szOk_of (by omega)
  refine ⟨ns, n2, ?_, ⟨by omega, by omega, by rw [hl]; exact hr⟩⟩
  simp only [C.g__law_net, C.m__law_net]
  simp [e_fnD, tk, hM, rM, zM, e]
end H

set_option Elab.async false
set_option linter.all false
set_option maxRecDepth 100000
namespace H
open PySem PySem.Spec PyProof.Rows L2 Y
theorem cut_from {ds : List D} {k : Nat} : Y.cutD ds (some (k : Int)) none = ds.drop k := by
  unfold Y.cutD
  rw [HT.sIx_none, HT.sIx_nat]
  by_cases h : k ≤ ds.length
  · rw [Nat.min_eq_left h, List.take_of_length_le (by simp)]
  · rw [Nat.min_eq_right (by omega), List.drop_of_length_le (Nat.le_refl _), List.drop_of_length_le (by omega)]
    simp
end H

set_option Elab.async false
set_option linter.all false
set_option maxRecDepth 100000
namespace H
open PySem PySem.Spec PyProof.Rows L2 Y
def TabBits (ns : List RuleT) : Prop := ∀ r ∈ ns, ∀ x ∈ r.2, 0 ≤ x ∧ x < 2
theorem NetOk.tab {ns : List RuleT} {most : Nat} (h : NetOk ns most) : TabBits ns := fun r hr => (h.rule r hr).bit
end H

set_option Elab.async false
set_option linter.all false
set_option maxRecDepth 100000
namespace H
open PySem PySem.Spec PyProof.Rows L2 Y
end H

set_option Elab.async false
set_option linter.all false
set_option maxRecDepth 100000
namespace H
open PySem PySem.Spec PyProof.Rows L2 Y
def riseB : List Int → Bool
  | x :: y :: r => decide (x < y) && riseB (y :: r)
  | _ => true
theorem pairsD_map {α β : Type} {f : α → D} {g : β → D} : ∀ {xs : List α} {ys : List β}, pairsD (xs.map f) (ys.map g) = (xs.zip ys).map fun p => .tup [f p.1, g p.2]
  | [], _ => by simp [pairsD]
  | _ :: _, [] => by simp [pairsD]
  | x :: xs, y :: ys => by simp [pairsD, pairsD_map (xs := xs) (ys := ys)]
theorem cut_last {ds : List D} : Y.cutD ds none (some (-1)) = ds.dropLast := by
  unfold Y.cutD
  rw [HT.sIx_none]
  have e : HT.sIx ds.length ds.length (some (-1)) = ds.length - 1 := by
    unfold HT.sIx
    simp
    omega
  rw [e, List.drop_zero, Nat.sub_zero, List.dropLast_eq_take]
theorem cut_one {ds : List D} : Y.cutD ds (some 1) none = ds.tail := by
  have := cut_from (ds := ds) (k := 1)
  rw [show ((1 : Nat) : Int) = 1 by rfl] at this
  rw [this, List.drop_one]
theorem zip_last {α : Type} : ∀ {xs : List α}, xs.dropLast.zip xs.tail = xs.zip xs.tail
  | [] => rfl
  | [x] => rfl
  | x :: y :: r => by
    have := zip_last (xs := y :: r)
    simp only [List.dropLast, List.tail_cons, List.zip_cons_cons] at this ⊢
    cases r with
    | nil => rfl
    | cons z r => simpa using this
theorem rise_zip : ∀ {xs : List Int}, ((xs.zip xs.tail).map fun p => decide (p.1 < p.2)).all id = riseB xs
  | [] => rfl
  | [x] => rfl
  | x :: y :: r => by
    have := rise_zip (xs := y :: r)
    simp only [List.tail_cons] at this ⊢
    rw [List.zip_cons_cons, List.map_cons, List.all_cons, this]
    rfl
theorem are_rising_ok {xs : List Int} {m : Int} (hx : xs.length ≤ 1000000) : C.g_are_rising [ti xs, .int m] = .ok (.fr (.bl (xs.all (fun x => decide (0 ≤ x ∧ x < m)) && riseB xs))) := by
  have h : cCompL (tmName 2) cYes C.e_are_rising_1 [2] [] (xs.map D.int) [some (ti xs), some (.int m), none, none] = .ok ((xs.map fun x => decide (0 ≤ x ∧ x < m)).map D.bl, [some (ti xs), some (.int m), none, none]) := by
    rw [List.map_map]
    exact comp_map D.int (fun x => D.bl (decide (0 ≤ x ∧ x < m))) xs (fun x _ => by
      simp only [turnC, C.e_are_rising_1]
      simp)
  have h2 : cCompL (tmTup [2, 3]) cYes C.e_are_rising_2 [2, 3] [] ((xs.zip xs.tail).map fun p => D.tup [.int p.1, .int p.2]) [some (ti xs), some (.int m), none, none] = .ok (((xs.zip xs.tail).map fun p => decide (p.1 < p.2)).map D.bl, [some (ti xs), some (.int m), none, none]) := by
    rw [List.map_map]
    exact comp_map (fun p : Int × Int => D.tup [.int p.1, .int p.2]) (fun p => D.bl (decide (p.1 < p.2))) (xs.zip xs.tail) (fun x _ => by
      simp only [turnC, C.e_are_rising_2]
      simp)
  have z1 : szOk xs.length = true := szOk_of (by omega)
  have z2 : szOk (xs.length - 1) = true := szOk_of (by omega)
  have p1 : pairsD (Y.cutD (xs.map D.int) none (some (-1))) (Y.cutD (xs.map D.int) (some 1) none) = (xs.zip xs.tail).map fun p => D.tup [.int p.1, .int p.2] := by
    rw [cut_last, cut_one, ← List.map_dropLast, ← List.map_tail, pairsD_map, zip_last]
  generalize hb1 : xs.all (fun x => decide (0 ≤ x ∧ x < m)) = b1
  have a1 : allD [.lst ((xs.map fun x => decide (0 ≤ x ∧ x < m)).map D.bl)] = .ok (.bl b1) := by rw [d_all, List.all_map, ← hb1]; rfl
  have a2 : allD [.lst (((xs.zip xs.tail).map fun p => decide (p.1 < p.2)).map D.bl)] = .ok (.bl (riseB xs)) := by rw [d_all, rise_zip]
  generalize ((xs.map fun x => decide (0 ≤ x ∧ x < m)).map D.bl) = L1 at h a1
  generalize (((xs.zip xs.tail).map fun p => decide (p.1 < p.2)).map D.bl) = L2 at h2 a2
  simp only [C.g_are_rising, C.m_are_rising]
  cases b1 <;> simp [e_fnP, noDit, Y.isTup, z1, z2, h, itD, p1, h2, a1, a2, sliceD, -d_all]
theorem rise_of : ∀ {xs : List Int}, xs.Pairwise (· < ·) → riseB xs = true
  | [], _ => rfl
  | [x], _ => rfl
  | x :: y :: r, h => by
    have h1 := (List.pairwise_cons.mp h).1 y (by simp)
    have h2 := rise_of (List.pairwise_cons.mp h).2
    unfold riseB
    simp [h1, h2]
theorem rise_sub {b : List Nat} {m : Nat} (h : b.Sublist (List.range m)) : (b.map fun k : Nat => (k : Int)).Pairwise (· < ·) := by
  rw [List.pairwise_map]
  have := (List.pairwise_lt_range (n := m)).sublist h
  exact this.imp fun h => by omega
structure OrdOk (m : Nat) (o : List (List Nat)) : Prop where
  ne : ∀ b ∈ o, b ≠ []
  sub : ∀ b ∈ o, b.Sublist (List.range m)
  perm : o.flatten.Perm (List.range m)
theorem OrdOk.len {m : Nat} {o : List (List Nat)} (h : OrdOk m o) : o.length ≤ m := by
  have : ∀ o : List (List Nat), (∀ b ∈ o, b ≠ []) → o.length ≤ o.flatten.length := fun o => by
    induction o with
    | nil => simp
    | cons b o ih =>
      intro h
      have h1 := h b (by simp)
      have h2 := ih fun c hc => h c (by simp [hc])
      have : 0 < b.length := List.length_pos_iff.mpr h1
      rw [List.flatten_cons, List.length_append, List.length_cons]
      omega
  have h2 := this o h.ne
  rw [h.perm.length_eq, List.length_range] at h2
  exact h2
theorem OrdOk.apart {m : Nat} {o : List (List Nat)} (h : OrdOk m o) : o.Pairwise (fun b c => ∀ k ∈ b, k ∉ c) := by
  have : o.flatten.Nodup := h.perm.nodup_iff.mpr List.nodup_range
  have := (List.pairwise_flatten.mp this).2
  exact this.imp fun h k hk z => h k hk k z rfl
end H

set_option Elab.async false
set_option linter.all false
set_option maxRecDepth 100000
namespace H
open PySem PySem.Spec PyProof.Rows L2 Y
@[simp] theorem neD_bl {a b : Bool} : neD (.bl a) (.bl b) = .ok (.bl (a != b)) := by
  rw [neD_of (n := 0) fit_bl fit_bl, eqP_bl]
  cases a <;> cases b <;> rfl
theorem OrdOk.turn {m : Nat} {o : List (List Nat)} (h : OrdOk m o) (w : Nat) : OrdOk m (o.drop w ++ o.take w) := by
  have p : (o.drop w ++ o.take w).Perm o := by
    have := List.perm_append_comm (l₁ := o.drop w) (l₂ := o.take w)
    rwa [List.take_append_drop] at this
  exact ⟨fun b hb => h.ne b (p.mem_iff.mp hb), fun b hb => h.sub b (p.mem_iff.mp hb), p.flatten.trans h.perm⟩
end H

set_option Elab.async false
set_option linter.all false
set_option maxRecDepth 100000
namespace H
open PySem PySem.Spec PyProof.Rows L2 Y
def blk (ks : List Int) (m j : Nat) : List Nat := (List.range m).filter fun k => decide (ks.getD k 0 = (j : Nat))
end H

set_option Elab.async false
set_option linter.all false
set_option maxRecDepth 100000
set_option exponentiation.threshold 300
namespace H
open PySem PySem.Spec PyProof.Rows L2 Y
abbrev tx (l : List Nat) : Str := ⟨l.toArray⟩
abbrev dt (l : List Nat) : D := .str (tx l)
theorem tx_inj {a b : List Nat} : tx a = tx b ↔ a = b := by
  constructor
  · intro h
    have := congrArg (fun s : Str => s.cps.toList) h
    simpa using this
  · rintro rfl; rfl
theorem tx_len {a : List Nat} : (tx a).length = a.length := by
  show (a.toArray).size = _
  simp
theorem tx_add {a b : List Nat} : tx a ++ tx b = tx (a ++ b) := by
  show Str.append (tx a) (tx b) = _
  unfold Str.append
  simp
theorem add_dt {a b : List Nat} (h : a.length + b.length ≤ 16777216) : addD (dt a) (dt b) = .ok (dt (a ++ b)) := by
  rw [d_addS, tx_len, tx_len, if_pos (szOk_of h), tx_add]
theorem it_dt {a : List Nat} : itD (dt a) = .ok (a.map fun c => dt [c]) := by
  show R.ok ((tx a).cps.toList.map fun c => D.str ⟨#[c]⟩) = _
  rfl
theorem cut_lo {l : List Nat} {k : Nat} : cutS (tx l) none (some (k : Int)) = tx (l.take k) := by
  unfold cutS
  rw [HT.sIx_none, HT.sIx_nat, tx_len]
  simp
theorem cut_up {l : List Nat} {k : Nat} : cutS (tx l) (some (k : Int)) none = tx (l.drop k) := by
  unfold cutS
  rw [HT.sIx_none, HT.sIx_nat, tx_len]
  show tx _ = _
  rw [tx_inj]
  by_cases h : k ≤ l.length
  · rw [Nat.min_eq_left h, List.take_of_length_le (by simp)]
  · rw [Nat.min_eq_right (by omega), List.drop_of_length_le (by simp), List.drop_of_length_le (by omega)]
    simp
theorem slice_lo {l : List Nat} {k : Nat} (h : l.length ≤ 16777216) : sliceD (dt l) none (some (k : Int)) = .ok (dt (l.take k)) := by
  show (if szOk (tx l).length = true then R.ok (D.str (cutS (tx l) none (some (k : Int)))) else .stk) = _
  rw [tx_len, if_pos (szOk_of h), cut_lo]
theorem slice_up {l : List Nat} {k : Nat} (h : l.length ≤ 16777216) : sliceD (dt l) (some (k : Int)) none = .ok (dt (l.drop k)) := by
  show (if szOk (tx l).length = true then R.ok (D.str (cutS (tx l) (some (k : Int)) none)) else .stk) = _
  rw [tx_len, if_pos (szOk_of h), cut_up]
theorem ix_dt {l : List Nat} {k : Nat} (hk : k < l.length) (h : l.length ≤ 16777216) : ixD (dt l) (.int k) = .ok (dt [l.getD k 0]) := by
  have e : atI l (k : Int) = some (l.getD k 0) := by rw [atI_nat' hk, List.getD_eq_getElem?_getD, List.getElem?_eq_getElem hk]; rfl
  show (match atI (tx l).cps.toList (k : Int) with | some c => if szOk (tx l).length = true then R.ok (D.str ⟨#[c]⟩) else .stk | none => .stk) = _
  show (match atI l (k : Int) with | some c => if szOk (tx l).length = true then R.ok (D.str ⟨#[c]⟩) else .stk | none => .stk) = _
  rw [e, tx_len]
  simp [szOk_of h]
/-- signs that the machine bears -/
def SgOk (l : List Nat) : Prop := ∀ c ∈ l, c < 1114112
theorem fit_dt {n : Nat} {l : List Nat} (h : SgOk l) : Fit n (dt l) := by
  have : PyData.strOk (tx l) = true := by
    unfold PyData.strOk
    rw [← Array.all_toList, List.all_eq_true]
    intro c hc
    simpa using h c (by simpa using hc)
  cases n <;> exact this
theorem eqP_dt {a b : List Nat} : eqP (dt a) (dt b) = decide (a = b) := by
  rw [eqP_str, Bool.eq_iff_iff, beq_iff_eq, decide_eq_true_eq, tx_inj]
theorem eq_dt {a b : List Nat} (ha : SgOk a) (hb : SgOk b) : eqD (dt a) (dt b) = .ok (.bl (decide (a = b))) := by
  rw [eqD_of (n := 0) (fit_dt ha) (fit_dt hb), eqP_dt]
theorem ne_dt {a b : List Nat} (ha : SgOk a) (hb : SgOk b) : neD (dt a) (dt b) = .ok (.bl (!decide (a = b))) := by
  rw [neD_of (n := 0) (fit_dt ha) (fit_dt hb), eqP_dt]
abbrev ldt (xs : List (List Nat)) : D := .lst (xs.map dt)
theorem fit_ldt {n : Nat} {xs : List (List Nat)} (h : ∀ x ∈ xs, SgOk x) : Fit (n + 1) (ldt xs) := fun d hd => by
  obtain ⟨x, hx, rfl⟩ := List.mem_map.mp hd
  exact fit_dt (h x hx)
theorem s_none : Str.ofString "" = tx [] := by decide +kernel
end H

set_option Elab.async false
set_option linter.all false
set_option maxRecDepth 100000
set_option exponentiation.threshold 300
namespace H
open PySem PySem.Spec PyProof.Rows L2 Y
end H

set_option Elab.async false
set_option linter.all false
set_option maxRecDepth 100000
set_option exponentiation.threshold 300
namespace H
open PySem PySem.Spec PyProof.Rows L2 Y
end H

set_option Elab.async false
set_option linter.all false
set_option maxRecDepth 100000
namespace H
open PySem PySem.Spec PyProof.Rows L2 Y
structure RuleLk (r : RuleT) : Prop where
  len : r.1.length ≤ 8
  tab : r.2.length = 2 ^ r.1.length
  bit : ∀ x ∈ r.2, 0 ≤ x ∧ x < 2
theorem RuleOk.lk {m : Nat} {r : RuleT} (h : RuleOk m r) : RuleLk r := ⟨Nat.le_trans h.len (by omega), h.tab, h.bit⟩
theorem numD_map {α : Type} {f : α → D} {xs : List α} : numD (xs.map f) = ((List.range xs.length).zip xs).map fun p => D.tup [.int (p.1 : Nat), f p.2] := by
  unfold numD
  rw [List.length_map, pairsD_map]
end H

set_option Elab.async false
set_option linter.all false
set_option maxRecDepth 100000
namespace H
open PySem PySem.Spec PyProof.Rows L2 Y
end H

set_option Elab.async false
set_option linter.all false
set_option maxRecDepth 100000
namespace H
open PySem PySem.Spec PyProof.Rows L2 Y
def Nd : Nat → D → Prop
  | 0, d => noDit d = true
  | n + 1, d => noDit d = true ∧ ∀ xs, d = .tup xs → xs.length ≤ 1000000 ∧ ∀ x ∈ xs, Nd n x
theorem Nd.no : ∀ {n : Nat} {d : D}, Nd n d → noDit d = true
  | 0, _, h => h
  | _ + 1, _, h => h.1
theorem Nd.down : ∀ {n : Nat} {d : D}, Nd (n + 1) d → Nd n d
  | 0, _, h => h.1
  | n + 1, _, h => ⟨h.1, fun xs e => ⟨(h.2 xs e).1, fun x hx => Nd.down ((h.2 xs e).2 x hx)⟩⟩
theorem nd_flat {n : Nat} {d : D} (h : noDit d = true) (h2 : ∀ xs, d ≠ .tup xs) : Nd n d := by
  cases n with
  | zero => exact h
  | succ n => exact ⟨h, fun xs e => absurd e (h2 xs)⟩
@[simp] theorem nd_int {n : Nat} {i : Int} : Nd n (.int i) := nd_flat rfl (by simp)
@[simp] theorem nd_bl {n : Nat} {b : Bool} : Nd n (.bl b) := nd_flat rfl (by simp)
@[simp] theorem nd_non {n : Nat} : Nd n .non := nd_flat rfl (by simp)
@[simp] theorem nd_str {n : Nat} {x : Str} : Nd n (.str x) := nd_flat rfl (by simp)
@[simp] theorem nd_lst {n : Nat} {x : List D} : Nd n (.lst x) := nd_flat rfl (by simp)
@[simp] theorem nd_dik {n : Nat} {k : List Key} {x : List D} : Nd n (.dik k x) := nd_flat rfl (by simp)
theorem nd_tup {n : Nat} {xs : List D} (hl : xs.length ≤ 1000000) (h : ∀ x ∈ xs, Nd n x) : Nd (n + 1) (.tup xs) := ⟨rfl, fun ys e => by cases e; exact ⟨hl, h⟩⟩
theorem Nd.tup {n : Nat} {xs : List D} (h : Nd (n + 1) (.tup xs)) : xs.length ≤ 1000000 ∧ ∀ x ∈ xs, Nd n x := h.2 xs rfl
theorem nd_ti {n : Nat} {xs : List Int} (hl : xs.length ≤ 1000000) : Nd n (ti xs) := by
  cases n with
  | zero => rfl
  | succ n =>
    refine nd_tup (by simpa using hl) fun x hx => ?_
    obtain ⟨y, _, rfl⟩ := List.mem_map.mp hx
    exact nd_int
theorem atI_any {L : List D} {i : Int} {p : D → Prop} (h0 : 0 ≤ i) (h : i < L.length) (hp : ∀ x ∈ L, p x) : ∃ d, atI L i = some d ∧ p d := by
  have e : atI L i = some L[i.toNat] := atI_of (j := i.toNat) (by omega) (List.getElem?_eq_getElem (by omega))
  exact ⟨_, e, hp _ (List.getElem_mem _)⟩
def whB : D → Bool
  | .int _ => true | _ => false
def upB (m : Int) : D → Bool
  | .int i => decide (0 ≤ i ∧ i < m) | _ => false
def bitsB (m : Int) : D → Bool
  | .tup xs => decide ((xs.length : Int) = m) && xs.all (upB 2) | _ => false
theorem whole_any {d : D} (h : noDit d = true) : C.g_is_whole [d] = .ok (.fr (.bl (whB d))) := by
  cases d <;> simp [noDit] at h <;> simp [C.g_is_whole, C.m_is_whole, e_fnP, noDit, Y.isInt, Y.isBl, whB]
theorem upto_any {d : D} {m : Int} (h : noDit d = true) : C.g_is_upto [d, .int m] = .ok (.fr (.bl (upB m d))) := by
  have := whole_any h
  cases d with
  | int i => exact is_upto_int
  | _ => simp [C.g_is_upto, C.m_is_upto, e_fnP, this, whB, upB]
theorem are_bits_any {d : D} {m : Int} (h : Nd 1 d) : C.g_are_bits [d, .int m] = .ok (.fr (.bl (bitsB m d))) := by
  cases d with
  | tup xs =>
    obtain ⟨hl, hx⟩ := h.tup
    have c := comp_map (tm := tmName 2) (t := cYes) (e := C.e_are_bits_1) (vs := [2]) (ws := []) (ρ := [some (.tup xs), some (.int m), none]) (fun x : D => x) (fun x => D.bl (upB 2 x)) xs (fun x hx' => by
      have := upto_any (m := 2) (hx x hx').no
      simp [turnC, C.e_are_bits_1, this])
    rw [List.map_id'] at c
    have z : szOk xs.length = true := szOk_of (by omega)
    have e2 : (xs.map fun x => D.bl (upB 2 x)) = (xs.map (upB 2)).map D.bl := by rw [List.map_map]; rfl
    have e3 : allD [.lst (xs.map fun x => D.bl (upB 2 x))] = .ok (.bl (xs.all (upB 2))) := by rw [e2, d_all, List.all_map]; rfl
    simp only [C.g_are_bits, C.m_are_bits]
    generalize C.e_are_bits_1 = e1 at c ⊢
    by_cases hm : (xs.length : Int) = m <;> simp [e_fnP, noDit, Y.isTup, z, c, e3, hm, bitsB, -d_all]
  | dit _ _ => cases h.1
  | ftu _ => cases h.1
  | tab _ _ => cases h.1
  | _ => simp [C.g_are_bits, C.m_are_bits, e_fnP, noDit, Y.isTup, bitsB]
theorem cutD_len {xs : List D} {a b : Option Int} : (Y.cutD xs a b).length ≤ xs.length := by
  unfold Y.cutD
  rw [List.length_take, List.length_drop]
  omega
theorem cutD_mem {xs : List D} {a b : Option Int} {x : D} (h : x ∈ Y.cutD xs a b) : x ∈ xs := by
  unfold Y.cutD at h
  exact List.mem_of_mem_drop (List.mem_of_mem_take h)
theorem strs_of {α : Type} {f : α → Str} : ∀ {xs : List α}, strsOf (xs.map fun x => D.str (f x)) = some (xs.map f)
  | [] => rfl
  | x :: xs => by simp [strsOf, strs_of (xs := xs)]
theorem joinD_lst {a : Str} {ds : List D} : joinD (.str a) (.lst ds) = (match strsOf ds with | some ys => if (ys.map (·.length)).sum + ys.length * a.length ≤ 16777216 then R.ok (.str (Txt.join a ys)) else .stk | none => .stk) := by
  cases e : strsOf ds <;> simp [joinD, e]
end H

set_option Elab.async false
set_option linter.all false
set_option maxRecDepth 100000
namespace H
open PySem PySem.Spec PyProof.Rows L2 Y
def toI : D → Option Int
  | .int i => some i | _ => none
def riseD (m : Int) : D → Bool
  | .tup xs => xs.all (upB m) && riseB (xs.filterMap toI) | _ => false
theorem all_up {m : Int} : ∀ {xs : List D}, xs.all (upB m) = true → xs = (xs.filterMap toI).map D.int ∧ ∀ x ∈ xs.filterMap toI, 0 ≤ x ∧ x < m
  | [], _ => by simp
  | x :: xs, h => by
    rw [List.all_cons, Bool.and_eq_true] at h
    obtain ⟨h1, h2⟩ := all_up (xs := xs) h.2
    cases x with
    | int i =>
      have hi : decide (0 ≤ i ∧ i < m) = true := h.1
      rw [decide_eq_true_eq] at hi
      have e : (D.int i :: xs).filterMap toI = i :: xs.filterMap toI := rfl
      rw [e]
      refine ⟨by rw [List.map_cons, ← h1], fun x hx => ?_⟩
      rcases List.mem_cons.mp hx with rfl | hx
      · exact hi
      · exact h2 x hx
    | _ => simp [upB] at h
theorem rising_any {d : D} {m : Int} (h : Nd 1 d) : C.g_are_rising [d, .int m] = .ok (.fr (.bl (riseD m d))) := by
  cases d with
  | tup xs =>
    obtain ⟨hl, hx⟩ := h.tup
    cases ha : xs.all (upB m) with
    | true =>
      obtain ⟨h1, h2⟩ := all_up ha
      have hl2 : (xs.filterMap toI).length ≤ 1000000 := Nat.le_trans (List.length_filterMap_le _ _) hl
      have r := are_rising_ok (m := m) hl2
      have e : ti (xs.filterMap toI) = .tup xs := congrArg D.tup h1.symm
      have e2 : (xs.filterMap toI).all (fun x => decide (0 ≤ x ∧ x < m)) = true := by
        rw [List.all_eq_true]
        intro x hx
        exact decide_eq_true (h2 x hx)
      rw [e, e2] at r
      rw [r, riseD, ha]
    | false =>
      have c := comp_map (tm := tmName 2) (t := cYes) (e := C.e_are_rising_1) (vs := [2]) (ws := []) (ρ := [some (.tup xs), some (.int m), none, none]) (fun x : D => x) (fun x => D.bl (upB m x)) xs (fun x hx' => by
        have := upto_any (m := m) (hx x hx').no
        simp [turnC, C.e_are_rising_1, this])
      rw [List.map_id'] at c
      have z : szOk xs.length = true := szOk_of (by omega)
      have e2 : (xs.map fun x => D.bl (upB m x)) = (xs.map (upB m)).map D.bl := by rw [List.map_map]; rfl
      have e3 : allD [.lst (xs.map fun x => D.bl (upB m x))] = .ok (.bl false) := by rw [e2, d_all, List.all_map, ← ha]; rfl
      rw [riseD, ha]
      simp only [C.g_are_rising, C.m_are_rising]
      generalize C.e_are_rising_1 = e1 at c ⊢
      simp [e_fnP, noDit, Y.isTup, z, c, e3, -d_all]
  | dit _ _ => cases h.1
  | ftu _ => cases h.1
  | tab _ _ => cases h.1
  | _ => simp [C.g_are_rising, C.m_are_rising, e_fnP, noDit, Y.isTup, riseD]
def lenT : D → Nat
  | .tup xs => xs.length | _ => 0
def ruleB (m : Int) : D → Bool
  | .tup [a, b] => riseD m a && (decide (lenT a ≤ 4) && bitsB ((2 ^ lenT a : Nat) : Int) b) | _ => false
theorem ix2 {a b : D} : atI [a, b] 0 = some a ∧ atI [a, b] 1 = some b := ⟨atI_of (j := 0) rfl rfl, atI_of (j := 1) rfl rfl⟩
theorem rule_any {d : D} {m : Int} (h : Nd 2 d) : C.g_is_rule [d, .int m] = .ok (.fr (.bl (ruleB m d))) := by
  cases d with
  | tup xs =>
    obtain ⟨hl, hx⟩ := h.tup
    have z : szOk xs.length = true := szOk_of (by omega)
    by_cases h2 : xs.length = 2
    · obtain ⟨a, b, rfl⟩ : ∃ a b, xs = [a, b] := by
        match xs, h2 with
        | [a, b], _ => exact ⟨a, b, rfl⟩
      have ha := hx a (by simp)
      have hb := hx b (by simp)
      have r := rising_any (m := m) ha
      have z2 : szOk 2 = true := szOk_of (by omega)
      cases e : riseD m a with
      | false =>
        rw [e] at r
        simp only [C.g_is_rule, C.m_is_rule, ruleB, e]
        simp [e_fnP, noDit, Y.isTup, ixD, ix2.1, ix2.2, r, z2]
      | true =>
        rw [e] at r
        cases a with
        | tup es =>
          obtain ⟨he, _⟩ := ha.tup
          have z3 : szOk es.length = true := szOk_of (by omega)
          simp only [C.g_is_rule, C.m_is_rule, ruleB, e, lenT]
          by_cases h4 : es.length ≤ 4
          · have s1 := shl1 (k := es.length) (by omega)
            have bb := are_bits_any (m := ((2 ^ es.length : Nat) : Int)) hb
            have h4' : (es.length : Int) ≤ 4 := by omega
            generalize ((2 ^ es.length : Nat) : Int) = q at s1 bb ⊢
            simp [e_fnP, noDit, Y.isTup, ixD, ix2.1, ix2.2, r, z2, z3, h4, h4', s1, bb, -d_shl]
          · have h4' : ¬ (es.length : Int) ≤ 4 := by omega
            simp [e_fnP, noDit, Y.isTup, ixD, ix2.1, ix2.2, r, z2, z3, h4, h4']
        | _ => simp [riseD] at e
    · have e : ruleB m (.tup xs) = false := by
        match xs, h2 with
        | [], _ => rfl
        | [_], _ => rfl
        | _ :: _ :: _ :: _, _ => rfl
      have h2' : ¬ (xs.length : Int) = 2 := by omega
      rw [e]
      simp only [C.g_is_rule, C.m_is_rule]
      simp [e_fnP, noDit, Y.isTup, z, h2']
  | dit _ _ => cases h.1
  | ftu _ => cases h.1
  | tab _ _ => cases h.1
  | _ => simp [C.g_is_rule, C.m_is_rule, e_fnP, noDit, Y.isTup, ruleB]
end H

set_option Elab.async false
set_option linter.all false
set_option maxRecDepth 100000
namespace H
open PySem PySem.Spec PyProof.Rows L2 Y
theorem nd_rule {r : RuleT} (h1 : r.1.length ≤ 1000) (h2 : r.2.length ≤ 1000) : Nd 2 (dRule r) := nd_tup (by simp) fun x hx => by
  simp only [List.mem_cons, List.not_mem_nil, or_false] at hx
  rcases hx with rfl | rfl
  · exact nd_ti (by omega)
  · exact nd_ti (by omega)
theorem RuleOk.nd {m : Nat} {r : RuleT} (h : RuleOk m r) : Nd 2 (dRule r) := by
  have h1 := h.len
  have h2 := h.tab
  have p2 : 2 ^ r.1.length ≤ 2 ^ 4 := Nat.pow_le_pow_right (by omega) h1
  exact nd_rule (by omega) (by omega)
theorem NetOk.rk {ns : List RuleT} {most k : Nat} (h : NetOk ns most) (hk : k < ns.length) : RuleOk ns.length (ns.getD k ([], [])) := by
  rw [List.getD_eq_getElem?_getD, List.getElem?_eq_getElem hk]
  exact h.rule _ (List.getElem_mem hk)
theorem ruleB_ok {m : Nat} {r : RuleT} (h : RuleOk m r) (hm : m ≤ 20) : ruleB m (dRule r) = true := by
  obtain ⟨es, e1, sub⟩ := h.sub
  have l4 := h.len
  have lt := h.tab
  have pw := rise_sub sub
  have rI : r.1.filterMap (fun x => some x) = r.1 := by simp
  have r1 : riseD m (ti r.1) = true := by
    have a1 : (r.1.map D.int).all (upB m) = true := by
      rw [List.all_map, List.all_eq_true]
      intro x hx
      rw [e1] at hx
      obtain ⟨j, hj, rfl⟩ := List.mem_map.mp hx
      have := List.mem_range.mp (sub.subset hj)
      exact decide_eq_true (by omega)
    have a2 : (r.1.map D.int).filterMap toI = r.1 := by
      rw [List.filterMap_map]
      exact rI
    have a3 : riseB r.1 = true := rise_of (by
      rw [e1]
      exact pw)
    show ((r.1.map D.int).all (upB m) && riseB ((r.1.map D.int).filterMap toI)) = true
    rw [a1, a2, a3]
    rfl
  have r2 : bitsB ((2 ^ r.1.length : Nat) : Int) (ti r.2) = true := by
    show (decide ((((r.2.map D.int).length : Nat) : Int) = ((2 ^ r.1.length : Nat) : Int)) && (r.2.map D.int).all (upB 2)) = true
    rw [List.length_map, lt, decide_eq_true rfl, Bool.true_and, List.all_map, List.all_eq_true]
    intro x hx
    exact decide_eq_true (h.bit x hx)
  have e2 : lenT (ti r.1) = r.1.length := by show (r.1.map D.int).length = _; rw [List.length_map]
  show (riseD m (ti r.1) && (decide (lenT (ti r.1) ≤ 4) && bitsB ((2 ^ lenT (ti r.1) : Nat) : Int) (ti r.2))) = true
  rw [e2, r1, r2, decide_eq_true l4]
  rfl
end H

set_option Elab.async false
set_option linter.all false
set_option maxRecDepth 100000
namespace H
open PySem PySem.Spec PyProof.Rows L2 Y
structure EarsOk (m : Nat) (r : RuleT) : Prop where
  sub : ∃ es : List Nat, r.1 = es.map (fun j : Nat => (j : Int)) ∧ es.Nodup ∧ ∀ j ∈ es, j < m
theorem RuleOk.ears {m : Nat} {r : RuleT} (h : RuleOk m r) : EarsOk m r := by
  obtain ⟨es, e1, s⟩ := h.sub
  exact ⟨es, e1, s.nodup List.nodup_range, fun j hj => List.mem_range.mp (s.subset hj)⟩
end H

set_option Elab.async false
set_option linter.all false
set_option maxRecDepth 100000
namespace H
open PySem PySem.Spec PyProof.Rows L2 Y
theorem in_text {c : Nat} {l : List Nat} : inD (dt [c]) (dt l) = .ok (.bl (decide (c ∈ l))) := by
  have e : (tx [c]).length = 1 := rfl
  have e2 : (tx [c]).cps.getD 0 0 = c := rfl
  have e3 : (tx l).cps.toList = l := by simp [tx]
  show (match (if (tx [c]).length = 1 then some (decide ((tx [c]).cps.getD 0 0 ∈ (tx l).cps.toList)) else none) with | some b => R.ok (D.bl b) | none => .stk) = _
  rw [if_pos e, e2, e3]
abbrev li (xs : List Int) : D := .lst (xs.map D.int)
theorem NetOk.lk {ns : List RuleT} {most k : Nat} (h : NetOk ns most) (hk : k < ns.length) : RuleOk ns.length (ns.getD k ([], [])) := by
  rw [List.getD_eq_getElem?_getD, List.getElem?_eq_getElem hk]
  exact h.rule _ (List.getElem_mem hk)
end H

set_option Elab.async false
set_option linter.all false
set_option maxRecDepth 100000
set_option maxHeartbeats 2000000
namespace H
open PySem PySem.Spec PyProof.Rows L2 Y
theorem s_colon : Str.ofString ": " = tx [58, 32] := by decide +kernel
theorem s_colon1 : Str.ofString ":" = tx [58] := by decide +kernel
theorem s_gap : Str.ofString "> " = tx [62, 32] := by decide +kernel
theorem s_gap1 : Str.ofString ">" = tx [62] := by decide +kernel
theorem s_sp : Str.ofString " " = tx [32] := by decide +kernel
theorem s_nl : Str.ofString "\n" = tx [10] := by decide +kernel
theorem s_figs : Str.ofString "01234567" = tx [48, 49, 50, 51, 52, 53, 54, 55] := by decide +kernel
theorem s_bits : Str.ofString "01" = tx [48, 49] := by decide +kernel
theorem str_dig : ((List.range 10).all fun k => decide (Str.ofString (toString (k : Int)) = tx [48 + k])) = true := by decide +kernel
theorem str_int {k : Nat} (h : k < 10) : strOfD [.int (k : Nat)] = .ok (dt [48 + k]) := by
  have e := str_dig
  rw [List.all_eq_true] at e
  have e := of_decide_eq_true (e k (List.mem_range.mpr h))
  show (if (k : Int).natAbs.log2 < 1920 then R.ok (D.str (Str.ofString (toString (k : Int)))) else .stk) = _
  rw [if_pos (by
    have : (k : Int).natAbs = k := rfl
    rw [this]
    have : k.log2 ≤ k := Nat.log2_le_self k
    omega), e]
/-- a join of texts -/
theorem join_dts {sep : List Nat} {xs : List (List Nat)} (h : (xs.map List.length).sum + xs.length * sep.length ≤ 16777216) : joinD (dt sep) (.lst (xs.map dt)) = .ok (dt (TL.joinL sep xs)) := by
  have e1 : xs.map dt = (xs.map tx).map D.str := by rw [List.map_map]; rfl
  rw [e1, joinD_lst, strs_of (f := fun x : Str => x), List.map_id']
  have e2 : ((xs.map tx).map (·.length)).sum = (xs.map List.length).sum := by
    rw [List.map_map]
    exact congrArg List.sum (List.map_congr_left fun x _ => tx_len)
  show (if ((xs.map tx).map (·.length)).sum + (xs.map tx).length * (tx sep).length ≤ 16777216 then R.ok (D.str (Txt.join (tx sep) (xs.map tx))) else .stk) = _
  rw [if_pos (by rw [e2, List.length_map, tx_len]; exact h)]
  exact congrArg (fun s => R.ok (D.str s)) (SX.join_S sep xs)
theorem joinL_nil : ∀ {xs : List (List Nat)}, TL.joinL [] xs = xs.flatten
  | [] => rfl
  | [p] => by simp [TL.joinL]
  | p :: q :: r => by
    show p ++ ([] ++ TL.joinL [] (q :: r)) = _
    rw [joinL_nil, List.nil_append]
    simp
theorem split_dt {sep x : List Nat} (hs : sep ≠ []) (hk : sep.all (· < 256) = true) (hx : x.length ≤ 1000000) : splitD (dt x) (dt sep) = .ok (.lst ((TL.spl sep 0 [] x).map dt)) := by
  have e0 : ((tx sep).length == 0) = false := by
    rw [tx_len]
    cases sep with
    | nil => exact absurd rfl hs
    | cons => rfl
  show (if ((tx sep).length == 0) = false ∧ (tx x).length ≤ 1000000 then R.ok (D.lst ((Txt.split (tx x) (tx sep)).map D.str)) else .stk) = _
  rw [if_pos ⟨e0, by rw [tx_len]; exact hx⟩]
  have := SX.split_S (a := x) (b := sep) hs hk
  rw [this, List.map_map]
  rfl
theorem parti_dt {sep x p q : List Nat} (hs : sep ≠ []) (h : TL.par sep [] x = some (p, q)) (hx : x.length ≤ 1000000) : partiD (dt x) (dt sep) = .ok (.tup [dt p, dt sep, dt q]) := by
  have e0 : ((tx sep).length == 0) = false := by
    rw [tx_len]
    cases sep with
    | nil => exact absurd rfl hs
    | cons => rfl
  show (if ((tx sep).length == 0) = false ∧ (tx x).length ≤ 1000000 then R.ok (D.tup [.str (Txt.partition (tx x) (tx sep)).1, .str (Txt.partition (tx x) (tx sep)).2.1, .str (Txt.partition (tx x) (tx sep)).2.2]) else .stk) = _
  rw [if_pos ⟨e0, by rw [tx_len]; exact hx⟩]
  have := SX.partition_some (a := x) (b := sep) hs h
  have this : Txt.partition (tx x) (tx sep) = (tx p, tx sep, tx q) := this
  rw [this]
def dg (e : Int) : Nat := 48 + e.toNat
def rowT (k : Nat) (r : RuleT) : List Nat := [48 + k, 58, 32] ++ (r.1.map fun e => [dg e, 32]).flatten ++ [62, 32] ++ (r.2.map fun e => [dg e]).flatten
end H

set_option Elab.async false
set_option linter.all false
set_option maxRecDepth 100000
set_option maxHeartbeats 2000000
namespace H
open PySem PySem.Spec PyProof.Rows L2 Y
structure RowOk (r : RuleT) : Prop where
  e8 : ∀ e ∈ r.1, 0 ≤ e ∧ e < 8
  b2 : ∀ b ∈ r.2, 0 ≤ b ∧ b < 2
  le : r.1.length ≤ 8
  lb : r.2.length ≤ 1000
theorem RowOk.of {m : Nat} {r : RuleT} (h : RuleOk m r) (hm : m ≤ 8) : RowOk r := by
  obtain ⟨es, e1, sub⟩ := h.sub
  have l4 := h.len
  have p2 : 2 ^ r.1.length ≤ 2 ^ 4 := Nat.pow_le_pow_right (by omega) l4
  refine ⟨fun e he => ?_, h.bit, by omega, by rw [h.tab]; omega⟩
  rw [e1] at he
  obtain ⟨j, hj, rfl⟩ := List.mem_map.mp he
  have := List.mem_range.mp (sub.subset hj)
  omega
theorem str_dg {e : Int} (h : 0 ≤ e ∧ e < 8) : strOfD [.int e] = .ok (dt [dg e]) := by
  have := str_int (k := e.toNat) (by omega)
  rw [show ((e.toNat : Nat) : Int) = e by omega] at this
  exact this
theorem flat_len {α : Type} {f : α → List Nat} {n : Nat} (h : ∀ x, (f x).length = n) : ∀ {xs : List α}, ((xs.map f).flatten).length = xs.length * n
  | [] => by simp
  | x :: xs => by
    rw [List.map_cons, List.flatten_cons, List.length_append, h, flat_len h, List.length_cons, Nat.succ_mul, Nat.add_comm]
theorem sum_len {α : Type} {f : α → List Nat} {n : Nat} (h : ∀ x, (f x).length = n) : ∀ {xs : List α}, (((xs.map f).map List.length).sum) = xs.length * n
  | [] => by simp
  | x :: xs => by
    rw [List.map_cons, List.map_cons, List.sum_cons, h, sum_len h, List.length_cons, Nat.succ_mul, Nat.add_comm]
theorem join_flat {α : Type} {f : α → List Nat} {n : Nat} (h : ∀ x, (f x).length = n) {xs : List α} (hz : xs.length * n ≤ 10000000) : joinD (dt []) (.lst (xs.map fun x => dt (f x))) = .ok (dt (xs.map f).flatten) := by
  have := join_dts (sep := []) (xs := xs.map f) (by rw [sum_len h]; simp; omega)
  rw [List.map_map, joinL_nil] at this
  exact this
theorem row_len {k : Nat} {r : RuleT} : (rowT k r).length = 5 + r.1.length * 2 + r.2.length := by
  unfold rowT
  simp only [List.length_append, flat_len (f := fun e : Int => [dg e, 32]) (n := 2) fun _ => rfl, flat_len (f := fun e : Int => [dg e]) (n := 1) fun _ => rfl, List.length_cons, List.length_nil]
  omega
theorem row_of_ok {k : Nat} {r : RuleT} (hk : k < 10) (ro : RowOk r) : C.g_row_of [.int (k : Nat), dRule r] = .ok (.fr (dt (rowT k r))) := by
  have l1 := ro.le
  have l2 := ro.lb
  have sk := str_int hk
  have c1 := comp_map (tm := tmName 5) (t := cYes) (e := C.e_row_of_1) (vs := [5]) (ws := []) (ρ := [some (.int (k : Nat)), some (.tup [ti r.1, ti r.2]), some (ti r.1), some (ti r.2), none, none]) D.int (fun e => dt [dg e, 32]) r.1 fun e he => by
    have s := str_dg (ro.e8 e he)
    have ad := add_dt (a := [dg e]) (b := [32]) (by simp)
    simp only [turnC, C.e_row_of_1, s_sp]
    generalize ti r.1 = T1 at *
    generalize ti r.2 = T2 at *
    simp [s, ad]
  have c2 := comp_map (tm := tmName 4) (t := cYes) (e := C.e_row_of_2) (vs := [4]) (ws := []) (ρ := [some (.int (k : Nat)), some (.tup [ti r.1, ti r.2]), some (ti r.1), some (ti r.2), none, none]) D.int (fun e => dt [dg e]) r.2 fun e he => by
    have h2 := ro.b2 e he
    have s := str_dg (e := e) (by omega)
    simp only [turnC, C.e_row_of_2]
    generalize ti r.1 = T1 at *
    generalize ti r.2 = T2 at *
    simp [s]
  have j1 := join_flat (f := fun e : Int => [dg e, 32]) (n := 2) (fun _ => rfl) (xs := r.1) (by omega)
  have j2 := join_flat (f := fun e : Int => [dg e]) (n := 1) (fun _ => rfl) (xs := r.2) (by omega)
  have n1 := flat_len (f := fun e : Int => [dg e, 32]) (n := 2) (fun _ => rfl) (xs := r.1)
  have n2 := flat_len (f := fun e : Int => [dg e]) (n := 1) (fun _ => rfl) (xs := r.2)
  have z1 : szOk (r.1.map D.int).length = true := szOk_of (by rw [List.length_map]; omega)
  have z2 : szOk (r.2.map D.int).length = true := szOk_of (by rw [List.length_map]; omega)
  have z3 : szOk (r.1.map fun e => dt [dg e, 32]).length = true := szOk_of (by rw [List.length_map]; omega)
  have z4 : szOk (r.2.map fun e => dt [dg e]).length = true := szOk_of (by rw [List.length_map]; omega)
  have it1 : itD (ti r.1) = .ok (r.1.map D.int) := rfl
  have it2 : itD (ti r.2) = .ok (r.2.map D.int) := rfl
  have a1 := add_dt (a := [48 + k]) (b := [58, 32]) (by simp)
  have a2 := add_dt (a := [48 + k] ++ [58, 32]) (b := (r.1.map fun e => [dg e, 32]).flatten) (by simp only [List.length_append, n1, List.length_cons, List.length_nil]; omega)
  have a3 := add_dt (a := [48 + k] ++ [58, 32] ++ (r.1.map fun e => [dg e, 32]).flatten) (b := [62, 32]) (by simp only [List.length_append, n1, List.length_cons, List.length_nil]; omega)
  have a4 := add_dt (a := [48 + k] ++ [58, 32] ++ (r.1.map fun e => [dg e, 32]).flatten ++ [62, 32]) (b := (r.2.map fun e => [dg e]).flatten) (by simp only [List.length_append, n1, n2, List.length_cons, List.length_nil]; omega)
  show C.g_row_of [.int (k : Nat), .tup [ti r.1, ti r.2]] = .ok (.fr (dt ([48 + k] ++ [58, 32] ++ (r.1.map fun e => [dg e, 32]).flatten ++ [62, 32] ++ (r.2.map fun e => [dg e]).flatten)))
  simp only [C.g_row_of, C.m_row_of, s_colon, s_gap, s_none]
  generalize dt ([48 + k] ++ [58, 32] ++ (r.1.map fun e => [dg e, 32]).flatten ++ [62, 32] ++ (r.2.map fun e => [dg e]).flatten) = R4 at *
  generalize dt ([48 + k] ++ [58, 32] ++ (r.1.map fun e => [dg e, 32]).flatten ++ [62, 32]) = R3 at *
  generalize dt ([48 + k] ++ [58, 32] ++ (r.1.map fun e => [dg e, 32]).flatten) = R2 at *
  generalize dt ([48 + k] ++ [58, 32]) = R1 at *
  generalize dt (r.1.map fun e => [dg e, 32]).flatten = J1 at *
  generalize dt (r.2.map fun e => [dg e]).flatten = J2 at *
  generalize (r.1.map fun e => dt [dg e, 32]) = L1 at *
  generalize (r.2.map fun e => dt [dg e]) = L2' at *
  generalize r.1.map D.int = I1 at *
  generalize r.2.map D.int = I2 at *
  generalize ti r.1 = T1 at *
  generalize ti r.2 = T2 at *
  generalize C.e_row_of_1 = E1 at *
  generalize C.e_row_of_2 = E2 at *
  simp [e_fnP, sk, it1, it2, z1, z2, z3, z4, c1, c2, j1, j2, a1, a2, a3, a4]
end H

set_option Elab.async false
set_option linter.all false
set_option maxRecDepth 100000
set_option maxHeartbeats 2000000
namespace H
open PySem PySem.Spec PyProof.Rows L2 Y
theorem joinL_ends {s l : List Nat} : ∀ {ws : List (List Nat)} {p : List Nat}, TL.joinL s (p :: (ws ++ [l])) = p ++ s ++ (ws.map (· ++ s)).flatten ++ l
  | [], p => by simp [TL.joinL]
  | w :: ws, p => by
    show p ++ (s ++ TL.joinL s (w :: (ws ++ [l]))) = _
    rw [joinL_ends (ws := ws) (p := w)]
    simp
def wordsL (k : Nat) (r : RuleT) (l : List Nat) : List (List Nat) := [48 + k, 58] :: ((r.1.map fun e => [dg e]) ++ [l])
theorem words_join {k : Nat} {r : RuleT} {l : List Nat} : TL.joinL [32] (wordsL k r l) = [48 + k, 58, 32] ++ (r.1.map fun e => [dg e, 32]).flatten ++ l := by
  unfold wordsL
  rw [joinL_ends, List.map_map]
  rfl
theorem law_row_ok {k : Nat} {r : RuleT} (hk : k < 10) (ro : RowOk r) : C.g__law_row_2 [.int (k : Nat), dRule r] = .ok (.fr (dt (rowT k r))) := by
  have l1 := ro.le
  have l2 := ro.lb
  have sk := str_int hk
  have c1 := comp_map (tm := tmName 3) (t := cYes) (e := C.e__law_row_2_1) (vs := [3]) (ws := []) (ρ := [some (.int (k : Nat)), some (.tup [ti r.1, ti r.2]), none, none, none]) D.int (fun e => dt [dg e]) r.1 fun e he => by
    have s := str_dg (ro.e8 e he)
    simp only [turnC, C.e__law_row_2_1]
    generalize ti r.1 = T1 at *
    generalize ti r.2 = T2 at *
    simp [s]
  have ew : ldt (wordsL k r [62]) = .lst (dt [48 + k, 58] :: ((r.1.map fun e => dt [dg e]) ++ [dt [62]])) := by
    unfold wordsL
    show D.lst _ = _
    rw [List.map_cons, List.map_append, List.map_map]
    rfl
  have c2 := comp_map (tm := tmName 4) (t := cYes) (e := C.e__law_row_2_2) (vs := [4]) (ws := []) (ρ := [some (.int (k : Nat)), some (.tup [ti r.1, ti r.2]), some (ldt (wordsL k r [62])), none, none]) D.int (fun e => dt [dg e]) r.2 fun e he => by
    have h2 := ro.b2 e he
    have ix : ixD (dt [48, 49]) (.int e) = .ok (dt [dg e]) := by
      have : e = 0 ∨ e = 1 := by omega
      rcases this with rfl | rfl
      · exact ix_dt (l := [48, 49]) (k := 0) (by simp) (by simp)
      · exact ix_dt (l := [48, 49]) (k := 1) (by simp) (by simp)
    simp only [turnC, C.e__law_row_2_2, s_bits]
    generalize ti r.1 = T1 at *
    generalize ti r.2 = T2 at *
    generalize ldt (wordsL k r [62]) = WD at *
    have ix : ixD (D.str (tx [48, 49])) (.int e) = .ok (dt [dg e]) := ix
    generalize D.str (tx [48, 49]) = K1 at *
    simp [ix]
  have j1 := join_dts (sep := [32]) (xs := wordsL k r [62]) (by
    have := sum_len (f := fun e : Int => [dg e]) (n := 1) (fun _ => rfl) (xs := r.1)
    unfold wordsL
    simp only [List.map_cons, List.map_append, List.sum_cons, List.sum_append, this, List.length_cons, List.length_append, List.length_map, List.length_nil, List.map_nil, List.sum_nil]
    omega)
  rw [words_join] at j1
  have j1 : joinD (dt [32]) (ldt (wordsL k r [62])) = _ := j1
  have j2 := join_flat (f := fun e : Int => [dg e]) (n := 1) (fun _ => rfl) (xs := r.2) (by omega)
  have n1 := flat_len (f := fun e : Int => [dg e, 32]) (n := 2) (fun _ => rfl) (xs := r.1)
  have n2 := flat_len (f := fun e : Int => [dg e]) (n := 1) (fun _ => rfl) (xs := r.2)
  have z1 : szOk (r.1.map D.int).length = true := szOk_of (by rw [List.length_map]; omega)
  have z2 : szOk (r.2.map D.int).length = true := szOk_of (by rw [List.length_map]; omega)
  have z3 : szOk (r.1.map fun e => dt [dg e]).length = true := szOk_of (by rw [List.length_map]; omega)
  have z4 : szOk (r.2.map fun e => dt [dg e]).length = true := szOk_of (by rw [List.length_map]; omega)
  have it1 : itD (ti r.1) = .ok (r.1.map D.int) := rfl
  have it2 : itD (ti r.2) = .ok (r.2.map D.int) := rfl
  have a0 := add_dt (a := [48 + k]) (b := [58]) (by simp)
  have b1 : addD (.lst [dt ([48 + k] ++ [58])]) (.lst (r.1.map fun e => dt [dg e])) = .ok (.lst (dt [48 + k, 58] :: (r.1.map fun e => dt [dg e]))) := by
    show (if szOk (1 + (r.1.map fun e => dt [dg e]).length) = true then R.ok (D.lst _) else .stk) = _
    rw [if_pos (szOk_of (by rw [List.length_map]; omega))]
    rfl
  have b2 : addD (.lst (dt [48 + k, 58] :: (r.1.map fun e => dt [dg e]))) (.lst [dt [62]]) = .ok (ldt (wordsL k r [62])) := by
    rw [ew]
    show (if szOk ((dt [48 + k, 58] :: (r.1.map fun e => dt [dg e])).length + 1) = true then R.ok (D.lst _) else .stk) = _
    rw [if_pos (szOk_of (by rw [List.length_cons, List.length_map]; omega))]
    rfl
  have a1 := add_dt (a := [48 + k, 58, 32] ++ (r.1.map fun e => [dg e, 32]).flatten ++ [62]) (b := [32]) (by simp only [List.length_append, n1, List.length_cons, List.length_nil]; omega)
  have a2 := add_dt (a := [48 + k, 58, 32] ++ (r.1.map fun e => [dg e, 32]).flatten ++ [62] ++ [32]) (b := (r.2.map fun e => [dg e]).flatten) (by simp only [List.length_append, n1, n2, List.length_cons, List.length_nil]; omega)
  have eR : [48 + k, 58, 32] ++ (r.1.map fun e => [dg e, 32]).flatten ++ [62] ++ [32] ++ (r.2.map fun e => [dg e]).flatten = rowT k r := by
    unfold rowT
    simp
  rw [eR] at a2
  have i0 : ∀ a b : D, atI [a, b] 0 = some a := fun _ _ => rfl
  have i1 : ∀ a b : D, atI [a, b] 1 = some b := fun _ _ => rfl
  show C.g__law_row_2 [.int (k : Nat), .tup [ti r.1, ti r.2]] = .ok (.fr (dt (rowT k r)))
  simp only [C.g__law_row_2, C.m__law_row_2, s_colon1, s_gap1, s_sp, s_none]
  generalize dt (rowT k r) = R3 at *
  generalize dt ([48 + k, 58, 32] ++ (r.1.map fun e => [dg e, 32]).flatten ++ [62] ++ [32]) = R2 at *
  generalize dt ([48 + k, 58, 32] ++ (r.1.map fun e => [dg e, 32]).flatten ++ [62]) = R1 at *
  generalize dt (r.2.map fun e => [dg e]).flatten = J2 at *
  clear ew
  generalize ldt (wordsL k r [62]) = WD at *
  generalize (dt [48 + k, 58] :: (r.1.map fun e => dt [dg e])) = W1 at *
  generalize (r.1.map fun e => dt [dg e]) = L1 at *
  generalize (r.2.map fun e => dt [dg e]) = L2' at *
  generalize r.1.map D.int = I1 at *
  generalize r.2.map D.int = I2 at *
  generalize ti r.1 = T1 at *
  generalize ti r.2 = T2 at *
  generalize C.e__law_row_2_1 = E1 at *
  generalize C.e__law_row_2_2 = E2 at *
  generalize dt ([48 + k] ++ [58]) = K0 at *
  simp [e_fnP, sk, it1, it2, z1, z2, z3, z4, c1, c2, j1, j2, a0, a1, a2, b1, b2, i0, i1, szOk_of]
def rowsT (ns : List RuleT) : List (List Nat) := ((List.range ns.length).zip ns).map fun p => rowT p.1 p.2
def netT (ns : List RuleT) : List Nat := TL.joinL [10] (rowsT ns)
theorem zip_mem {ns : List RuleT} {p : Nat × RuleT} (h : p ∈ (List.range ns.length).zip ns) : p.1 < ns.length ∧ p.2 ∈ ns := ⟨List.mem_range.mp (List.of_mem_zip (a := p.1) (b := p.2) h).1, (List.of_mem_zip (a := p.1) (b := p.2) h).2⟩
end H

set_option Elab.async false
set_option linter.all false
set_option maxRecDepth 100000
set_option maxHeartbeats 2000000
namespace H
open PySem PySem.Spec PyProof.Rows L2 Y
theorem nin_of05 {x y : D} {b : Bool} (h : inD x y = .ok (.bl b)) : ninD x y = .ok (.bl (!b)) := by
  unfold inD at h
  unfold ninD
  cases e : inB x y with
  | none => rw [e] at h; cases h
  | some c => rw [e] at h; cases h; rfl
def figs (m : Nat) : List Nat := (List.range m).map (48 + ·)
theorem occ_figs : ([2, 8].all fun m => (List.range m).all fun i => decide (Builtin.Str.occurrences (tx (figs m)) (tx [48 + i]) 0 (tx (figs m)).length 1 = [i])) = true := by decide +kernel
theorem index_fig {m i : Nat} (hm : m = 2 ∨ m = 8) (hi : i < m) : indexD (dt (figs m)) (dt [48 + i]) = .ok (.int (i : Nat)) := by
  have h := occ_figs
  rw [List.all_eq_true] at h
  have h := h m (by simpa using hm)
  rw [List.all_eq_true] at h
  have h := of_decide_eq_true (h i (List.mem_range.mpr hi))
  show (match Builtin.Str.occurrences (tx (figs m)) (tx [48 + i]) 0 (tx (figs m)).length 1 with | i :: _ => R.ok (D.int (i : Nat)) | [] => .stk) = _
  rw [h]
theorem numbers_ok {xs : List Int} {m : Nat} (hm : m = 2 ∨ m = 8) (h : ∀ e ∈ xs, 0 ≤ e ∧ e < m) (hl : xs.length ≤ 100000) : C.g_numbers_in [dt (xs.map dg), dt (figs m)] = .ok (.fr (ti xs)) := by
  have lp := for_idx (tm := tmName 3) (body := C.b_numbers_in_1) (vs := [3]) (ws := []) (fun e : Int => dt [dg e]) xs (fun i => [some (dt (xs.map dg)), some (dt (figs m)), some (.lst ((xs.take i).map D.int)), none]) fun i hi => by
    refine ⟨by simp, ?_⟩
    have he := h _ (List.getElem_mem hi)
    rw [List.take_succ_eq_append_getElem hi, List.map_append, List.map_singleton]
    generalize hx : xs[i] = e at *
    have nn := nin_of05 (in_text (c := dg e) (l := figs m))
    have hmem : dg e ∈ figs m := List.mem_map.mpr ⟨e.toNat, List.mem_range.mpr (by omega), rfl⟩
    rw [decide_eq_true hmem] at nn
    have nn : ninD (dt [dg e]) (dt (figs m)) = .ok (.bl false) := nn
    have ix := index_fig (m := m) (i := e.toNat) hm (by omega)
    rw [show ((e.toNat : Nat) : Int) = e by omega] at ix
    have ix : indexD (.str (tx (figs m))) (dt [dg e]) = .ok (.int e) := ix
    have nn : ninD (dt [dg e]) (.str (tx (figs m))) = .ok (.bl false) := nn
    have z : szOk (((xs.take i).map D.int).length + 1) = true := szOk_of (by rw [List.length_map, List.length_take]; omega)
    show turnF _ _ _ _ [some (dt (xs.map dg)), some (.str (tx (figs m))), _, none] = R.ok (_, [some (dt (xs.map dg)), some (.str (tx (figs m))), _, none])
    simp only [turnF, C.b_numbers_in_1]
    generalize (xs.take i).map D.int = A at *
    generalize tx (figs m) = FG at *
    generalize dt [dg e] = S1 at *
    generalize dt (xs.map dg) = SG at *
    simp [nn, ix, z, cIndex]
  rw [List.take_length] at lp
  have it : itD (dt (xs.map dg)) = .ok (xs.map fun e => dt [dg e]) := by rw [it_dt, List.map_map]; rfl
  have zx : szOk (xs.map fun e => dt [dg e]).length = true := szOk_of (by rw [List.length_map]; omega)
  have lp : forL (tmName 3) C.b_numbers_in_1 [3] [] (xs.map fun e => dt [dg e]) [some (dt (xs.map dg)), some (dt (figs m)), some (.lst []), none] = _ := lp
  have tX : tupleD [.lst (xs.map D.int)] = .ok (ti xs) := rfl
  simp only [C.g_numbers_in, C.m_numbers_in]
  generalize ti xs = TX at *
  generalize xs.map D.int = XI at *
  generalize (xs.map fun e => dt [dg e]) = XD at *
  generalize C.b_numbers_in_1 = B1 at *
  generalize dt (figs m) = FG at *
  generalize dt (xs.map dg) = SG at *
  simp [e_fnP, it, zx, lp, tX, shAt, chkO_ws, szOk_of]
theorem cut_mid {h l : D} {m : List D} : Y.cutD (h :: (m ++ [l])) (some 1) (some (-1)) = m := by
  unfold Y.cutD
  have e1 : HT.sIx (h :: (m ++ [l])).length 0 (some 1) = 1 := by
    have := HT.sIx_nat (h :: (m ++ [l])).length 0 1
    rw [show (some (1 : Int)) = some ((1 : Nat) : Int) from rfl, this]
    simp
  have e2 : HT.sIx (h :: (m ++ [l])).length (h :: (m ++ [l])).length (some (-1)) = m.length + 1 := by
    show (if (-1 : Int) < 0 then ((-1 : Int) + ((h :: (m ++ [l])).length : Int)).toNat else min (-1 : Int).toNat (h :: (m ++ [l])).length) = _
    rw [if_pos (by decide)]
    simp
    omega
  rw [e1, e2]
  simp
theorem row_head {k : Nat} {r : RuleT} (hk : k < 10) (ro : RowOk r) : 62 ∉ [48 + k, 58, 32] ++ (r.1.map fun e => [dg e, 32]).flatten := by
  intro h
  rcases List.mem_append.mp h with h | h
  · simp only [List.mem_cons, List.not_mem_nil, or_false] at h
    omega
  · obtain ⟨l, hl, hx⟩ := List.mem_flatten.mp h
    obtain ⟨e, he, rfl⟩ := List.mem_map.mp hl
    have := ro.e8 e he
    simp only [List.mem_cons, List.not_mem_nil, or_false] at hx
    unfold dg at hx
    omega
theorem words_sp {k : Nat} {r : RuleT} (hk : k < 10) (ro : RowOk r) : ∀ p ∈ wordsL k r [], 32 ∉ p := fun p hp h => by
  unfold wordsL at hp
  rcases List.mem_cons.mp hp with rfl | hp
  · simp only [List.mem_cons, List.not_mem_nil, or_false] at h
    omega
  · rcases List.mem_append.mp hp with hp | hp
    · obtain ⟨e, he, rfl⟩ := List.mem_map.mp hp
      have := ro.e8 e he
      rw [List.mem_singleton] at h
      unfold dg at h
      omega
    · rw [List.mem_singleton.mp hp] at h
      cases h
theorem rule_in_ok {k : Nat} {r : RuleT} (hk : k < 10) (ro : RowOk r) : C.g_rule_in [dt (rowT k r)] = .ok (.fr (dRule r)) := by
  have l1 := ro.le
  have l2 := ro.lb
  have rl := row_len (k := k) (r := r)
  have n1 := flat_len (f := fun e : Int => [dg e, 32]) (n := 2) (fun _ => rfl) (xs := r.1)
  have pr := SX.par_head (c := 62) (sep := [32]) (p := [48 + k, 58, 32] ++ (r.1.map fun e => [dg e, 32]).flatten) ((r.2.map fun e => [dg e]).flatten) (row_head hk ro)
  have eR : [48 + k, 58, 32] ++ (r.1.map fun e => [dg e, 32]).flatten ++ (62 :: [32] ++ (r.2.map fun e => [dg e]).flatten) = rowT k r := by unfold rowT; simp
  rw [eR] at pr
  have pd := parti_dt (sep := [62, 32]) (by simp) pr (by omega)
  have wj := words_join (k := k) (r := r) (l := [])
  rw [List.append_nil] at wj
  have sp := split_dt (sep := [32]) (x := [48 + k, 58, 32] ++ (r.1.map fun e => [dg e, 32]).flatten) (by simp) (by decide) (by rw [List.length_append, n1]; simp; omega)
  rw [← wj, SX.spl_join (by unfold wordsL; simp) (words_sp hk ro), wj] at sp
  have ew : (wordsL k r []).map dt = dt [48 + k, 58] :: ((r.1.map fun e => dt [dg e]) ++ [dt []]) := by
    unfold wordsL
    rw [List.map_cons, List.map_append, List.map_map]
    rfl
  rw [ew] at sp
  have cm := cut_mid (h := dt [48 + k, 58]) (m := r.1.map fun e => dt [dg e]) (l := dt [])
  have j1 := join_flat (f := fun e : Int => [dg e]) (n := 1) (fun _ => rfl) (xs := r.1) (by omega)
  have fs : ∀ xs : List Int, (xs.map fun e => [dg e]).flatten = xs.map dg := fun xs => by
    induction xs with
    | nil => rfl
    | cons x xs ih => rw [List.map_cons, List.flatten_cons, ih]; rfl
  rw [fs] at j1
  rw [fs] at pd
  have na := numbers_ok (xs := r.1) (m := 8) (.inr rfl) ro.e8 (by omega)
  have nb := numbers_ok (xs := r.2) (m := 2) (.inl rfl) ro.b2 (by omega)
  have f8 : figs 8 = [48, 49, 50, 51, 52, 53, 54, 55] := rfl
  have f2 : figs 2 = [48, 49] := rfl
  rw [f8] at na
  rw [f2] at nb
  have eg : eqD (dt [62, 32]) (dt []) = .ok (.bl false) := by
    rw [eq_dt (by unfold SgOk; decide) (by unfold SgOk; decide)]
    rfl
  have zh : szOk (r.1.map fun e => dt [dg e]).length = true := szOk_of (by rw [List.length_map]; omega)
  show C.g_rule_in [.str (tx (rowT k r))] = R.ok (Hd.fr (.tup [ti r.1, ti r.2]))
  replace pd : partiD (.str (tx (rowT k r))) (.str (tx [62, 32])) = .ok (.tup [.str (tx ([48 + k, 58, 32] ++ (r.1.map fun e => [dg e, 32]).flatten)), .str (tx [62, 32]), dt (r.2.map dg)]) := pd
  replace sp : splitD (.str (tx ([48 + k, 58, 32] ++ (r.1.map fun e => [dg e, 32]).flatten))) (.str (tx [32])) = .ok (.lst (dt [48 + k, 58] :: ((r.1.map fun e => dt [dg e]) ++ [dt []]))) := sp
  have is1 : ∀ xs : List Int, Y.isNon (ti xs) = false := fun _ => rfl
  simp only [C.g_rule_in, C.m_rule_in, s_gap, s_sp, s_none, s_figs, s_bits]
  have i1 := is1 r.1
  have i2 := is1 r.2
  generalize tx (rowT k r) = ROW at *
  generalize tx ([48 + k, 58, 32] ++ (r.1.map fun e => [dg e, 32]).flatten) = HEAD at *
  obtain ⟨HL, eHL⟩ : ∃ HL, dt [48 + k, 58] :: ((r.1.map fun e => dt [dg e]) ++ [dt []]) = HL := ⟨_, rfl⟩
  rw [eHL] at sp cm
  generalize (r.1.map fun e => dt [dg e]) = WL at *
  generalize dt (r.1.map dg) = J1 at *
  generalize dt (r.2.map dg) = J2 at *
  generalize ti r.1 = T1 at *
  generalize ti r.2 = T2 at *
  simp [e_fnP, pd, sp, cm, j1, na, nb, eg, i1, i2]
end H

set_option Elab.async false
set_option linter.all false
set_option maxRecDepth 100000
set_option maxHeartbeats 2000000
namespace H
open PySem PySem.Spec PyProof.Rows L2 Y
section
variable {ns : List RuleT} {most : Nat}
theorem row_small {k : Nat} {r : RuleT} (hk : k < 10) (ro : RowOk r) : ∀ c ∈ rowT k r, c < 64 ∧ c ≠ 10 := fun c hc => by
  unfold rowT at hc
  rw [List.mem_append, List.mem_append, List.mem_append] at hc
  rcases hc with ((hc | hc) | hc) | hc
  · simp only [List.mem_cons, List.not_mem_nil, or_false] at hc
    omega
  · obtain ⟨l, hl, hx⟩ := List.mem_flatten.mp hc
    obtain ⟨e, he, rfl⟩ := List.mem_map.mp hl
    have := ro.e8 e he
    simp only [List.mem_cons, List.not_mem_nil, or_false] at hx
    unfold dg at hx
    omega
  · simp only [List.mem_cons, List.not_mem_nil, or_false] at hc
    omega
  · obtain ⟨l, hl, hx⟩ := List.mem_flatten.mp hc
    obtain ⟨e, he, rfl⟩ := List.mem_map.mp hl
    have := ro.b2 e he
    rw [List.mem_singleton] at hx
    unfold dg at hx
    omega
theorem rows_at {i : Nat} (hi : i < ns.length) : (rowsT ns)[i]? = some (rowT i (ns.getD i ([], []))) := by
  unfold rowsT
  have e : ((List.range ns.length).zip ns)[i]? = some (i, ns[i]) := List.getElem?_zip_eq_some.mpr ⟨by simp [hi], List.getElem?_eq_getElem hi⟩
  rw [List.getElem?_map, e]
  rw [List.getD_eq_getElem?_getD, List.getElem?_eq_getElem hi]
  rfl
theorem rows_len : (rowsT ns).length = ns.length := by unfold rowsT; rw [List.length_map, List.length_zip, List.length_range, Nat.min_self]
theorem rows_mem (ok : NetOk ns most) (hm : most ≤ 8) {p : List Nat} (h : p ∈ rowsT ns) : ∃ i, i < ns.length ∧ p = rowT i (ns.getD i ([], [])) := by
  obtain ⟨i, hi, e⟩ := List.mem_iff_getElem.mp h
  have hi2 : i < ns.length := by rw [rows_len] at hi; exact hi
  have := rows_at hi2
  rw [List.getElem?_eq_getElem hi] at this
  exact ⟨i, hi2, by rw [← e]; exact Option.some.inj this⟩
end
end H

set_option Elab.async false
set_option linter.all false
set_option maxRecDepth 100000
set_option maxHeartbeats 2000000
namespace H
open PySem PySem.Spec PyProof.Rows L2 Y
theorem fit_net05 {n : Nat} {ns : List RuleT} : Fit (n + 3) (dNet ns) := fun d h => by
  obtain ⟨r, _, rfl⟩ := List.mem_map.mp h
  intro e he
  simp only [List.mem_cons, List.not_mem_nil, or_false] at he
  rcases he with rfl | rfl <;> exact fit_tupI
end H

set_option Elab.async false
set_option linter.all false
set_option maxRecDepth 100000
set_option maxHeartbeats 2000000
namespace H
open PySem PySem.Spec PyProof.Rows L2 Y
theorem fig_mem {m c : Nat} : c ∈ figs m ↔ 48 ≤ c ∧ c < 48 + m := by
  unfold figs
  rw [List.mem_map]
  constructor
  · rintro ⟨i, hi, rfl⟩
    have := List.mem_range.mp hi
    omega
  · rintro ⟨h1, h2⟩
    exact ⟨c - 48, List.mem_range.mpr (by omega), by omega⟩
def isF (m : Nat) (c : Nat) : Bool := decide (48 ≤ c ∧ c < 48 + m)
def vals (xs : List Nat) : List Int := xs.map fun c => ((c - 48 : Nat) : Int)
theorem vals_dg {m : Nat} {xs : List Nat} (h : xs.all (isF m) = true) : (vals xs).map dg = xs := by
  unfold vals
  rw [List.map_map]
  have : ∀ c ∈ xs, (dg ∘ fun c => ((c - 48 : Nat) : Int)) c = c := fun c hc => by
    have := of_decide_eq_true (List.all_eq_true.mp h c hc)
    show 48 + ((c - 48 : Nat) : Int).toNat = c
    rw [Int.toNat_natCast]
    omega
  rw [List.map_congr_left this, List.map_id']
theorem vals_bd {m : Nat} {xs : List Nat} (h : xs.all (isF m) = true) : ∀ e ∈ vals xs, 0 ≤ e ∧ e < m := fun e he => by
  obtain ⟨c, hc, rfl⟩ := List.mem_map.mp he
  have := of_decide_eq_true (List.all_eq_true.mp h c hc)
  omega
/-- the first sign that is none of those known ends it -/
theorem num_bad {m : Nat} (hm : m = 2 ∨ m = 8) : ∀ {xs : List Nat} {a d : Option D} {ys : List D}, ys.length + xs.length ≤ 200000 → xs.all (isF m) = false →
    ∃ ρ', forL (tmName 3) C.b_numbers_in_1 [3] [] (xs.map fun c => dt [c]) [a, some (dt (figs m)), some (.lst ys), d] = .ok (.rt (.fr .non), ρ') := by
  intro xs
  induction xs with
  | nil => intro a d ys _ h; cases h
  | cons c xs ih =>
    intro a d ys hy h
    have nn := nin_of05 (in_text (c := c) (l := figs m))
    have nn : ninD (dt [c]) (.str (tx (figs m))) = .ok (.bl (!decide (c ∈ figs m))) := nn
    rw [List.length_cons] at hy
    by_cases hc : isF m c = true
    · have hmem : c ∈ figs m := fig_mem.mpr (of_decide_eq_true hc)
      have hcd := of_decide_eq_true hc
      rw [decide_eq_true hmem] at nn
      have ix := index_fig (m := m) (i := c - 48) hm (by omega)
      rw [show 48 + (c - 48) = c by omega] at ix
      have ix : indexD (.str (tx (figs m))) (dt [c]) = .ok (.int ((c - 48 : Nat) : Int)) := ix
      have z : szOk (ys.length + 1) = true := szOk_of (by omega)
      have hr : xs.all (isF m) = false := by rw [List.all_cons, hc, Bool.true_and] at h; exact h
      obtain ⟨ρ', e⟩ := ih (a := a) (d := none) (ys := ys ++ [.int ((c - 48 : Nat) : Int)]) (by rw [List.length_append, List.length_singleton]; omega) hr
      refine ⟨ρ', ?_⟩
      rw [List.map_cons]
      refine for_cons ?_ (fun w hw => by cases hw) e
      show turnF _ _ _ _ [a, some (.str (tx (figs m))), some (.lst ys), d] = R.ok (_, [a, some (.str (tx (figs m))), _, none])
      simp only [turnF, C.b_numbers_in_1]
      generalize tx (figs m) = FG at *
      generalize dt [c] = S1 at *
      simp [nn, ix, z, cIndex]
    · have hmem : c ∉ figs m := fun z => hc (decide_eq_true (fig_mem.mp z))
      rw [decide_eq_false hmem] at nn
      rw [List.map_cons]
      refine ⟨[a, some (dt (figs m)), some (.lst ys), some (dt [c])], for_rt ?_⟩
      show turnF _ _ _ _ [a, some (.str (tx (figs m))), some (.lst ys), d] = R.ok (.rt (.fr .non), [a, some (.str (tx (figs m))), some (.lst ys), some (dt [c])])
      simp only [turnF, C.b_numbers_in_1]
      generalize tx (figs m) = FG at *
      generalize dt [c] = S1 at *
      simp [nn]
end H

set_option Elab.async false
set_option linter.all false
set_option maxRecDepth 100000
set_option maxHeartbeats 2000000
namespace H
open PySem PySem.Spec PyProof.Rows L2 Y
theorem sp_hit {s : Nat} {acc r : List Nat} : TL.spl [s] 0 acc (s :: r) = acc :: TL.spl [s] 0 [] r := TL.spl_hit (by simp [TL.pre])
theorem sp_miss {s c : Nat} {acc r : List Nat} (h : c ≠ s) : TL.spl [s] 0 acc (c :: r) = TL.spl [s] 0 (acc ++ [c]) r := TL.spl_miss (TL.pre_of_head [] r h)
theorem sp_nil {s : Nat} {acc : List Nat} : TL.spl [s] 0 acc [] = [acc] := TL.spl_nil _ _ _
theorem sp_ne {s : Nat} : ∀ {x acc : List Nat}, TL.spl [s] 0 acc x ≠ []
  | [], acc => by rw [sp_nil]; simp
  | c :: r, acc => by
    by_cases h : c = s
    · subst h; rw [sp_hit]; simp
    · rw [sp_miss h]; exact sp_ne
theorem sp_join {s : Nat} : ∀ {x acc : List Nat}, TL.joinL [s] (TL.spl [s] 0 acc x) = acc ++ x
  | [], acc => by rw [sp_nil]; simp [TL.joinL]
  | c :: r, acc => by
    by_cases h : c = s
    · subst h
      rw [sp_hit]
      have ih := sp_join (s := c) (x := r) (acc := [])
      cases e : TL.spl [c] 0 [] r with
      | nil => exact absurd e sp_ne
      | cons q L =>
        rw [e] at ih
        show acc ++ ([c] ++ TL.joinL [c] (q :: L)) = _
        rw [ih]
        simp
    · rw [sp_miss h, sp_join]
      simp
theorem sp_sum {s : Nat} : ∀ {x acc : List Nat}, ((TL.spl [s] 0 acc x).map List.length).sum ≤ acc.length + x.length ∧ (TL.spl [s] 0 acc x).length ≤ x.length + 1
  | [], acc => by rw [sp_nil]; simp
  | c :: r, acc => by
    by_cases h : c = s
    · subst h
      rw [sp_hit]
      have ih := sp_sum (s := c) (x := r) (acc := [])
      simp only [List.map_cons, List.sum_cons, List.length_cons, List.length_nil] at ih ⊢
      omega
    · rw [sp_miss h]
      have ih := sp_sum (s := s) (x := r) (acc := acc ++ [c])
      simp only [List.length_append, List.length_cons, List.length_nil] at ih ⊢
      omega
theorem sp_mem {s : Nat} : ∀ {x acc : List Nat} {p : List Nat}, p ∈ TL.spl [s] 0 acc x → ∀ c ∈ p, c ∈ acc ∨ c ∈ x
  | [], acc, p, h => by
    rw [sp_nil, List.mem_singleton] at h
    rw [h]
    exact fun c hc => .inl hc
  | a :: r, acc, p, h => by
    intro c hc
    by_cases e : a = s
    · subst e
      rw [sp_hit] at h
      rcases List.mem_cons.mp h with rfl | h
      · exact .inl hc
      · rcases sp_mem h c hc with z | z
        · cases z
        · exact .inr (List.mem_cons_of_mem _ z)
    · rw [sp_miss e] at h
      rcases sp_mem h c hc with z | z
      · rcases List.mem_append.mp z with z | z
        · exact .inl z
        · exact .inr (by rw [List.mem_singleton.mp z]; exact List.mem_cons_self)
      · exact .inr (List.mem_cons_of_mem _ z)
theorem sum_cut {L : List (List Nat)} {i j : Nat} : (((L.drop i).take j).map List.length).sum ≤ (L.map List.length).sum := by
  have h1 : ∀ (L : List (List Nat)) (j : Nat), ((L.take j).map List.length).sum ≤ (L.map List.length).sum := fun L => by
    induction L with
    | nil => intro j; simp
    | cons a L ih =>
      intro j
      cases j with
      | zero => simp
      | succ j =>
        rw [List.take_succ_cons, List.map_cons, List.map_cons, List.sum_cons, List.sum_cons]
        have := ih j
        omega
  have h2 : ∀ (L : List (List Nat)) (j : Nat), ((L.drop j).map List.length).sum ≤ (L.map List.length).sum := fun L => by
    induction L with
    | nil => intro j; simp
    | cons a L ih =>
      intro j
      cases j with
      | zero => simp
      | succ j =>
        rw [List.drop_succ_cons, List.map_cons, List.sum_cons]
        have := ih j
        omega
  exact Nat.le_trans (h1 _ _) (h2 _ _)
theorem numbers_any {xs : List Nat} {m : Nat} (hm : m = 2 ∨ m = 8) (hl : xs.length ≤ 100000) : C.g_numbers_in [dt xs, dt (figs m)] = .ok (if xs.all (isF m) = true then .fr (ti (vals xs)) else .fr .non) := by
  by_cases h : xs.all (isF m) = true
  · rw [if_pos h]
    have := numbers_ok (xs := vals xs) hm (vals_bd h) (by unfold vals; rw [List.length_map]; exact hl)
    rw [vals_dg h] at this
    exact this
  · have h := eq_false_of_ne_true h
    rw [if_neg (by rw [h]; decide)]
    obtain ⟨ρ', e⟩ := num_bad hm (xs := xs) (a := some (dt xs)) (d := none) (ys := []) (by simp; omega) h
    have it : itD (dt xs) = .ok (xs.map fun c => dt [c]) := it_dt
    have zx : szOk (xs.map fun e => dt [e]).length = true := szOk_of (by rw [List.length_map]; omega)
    simp only [C.g_numbers_in, C.m_numbers_in]
    generalize (xs.map fun e => dt [e]) = XD at *
    generalize C.b_numbers_in_1 = B1 at *
    generalize dt (figs m) = FG at *
    generalize dt xs = SG at *
    simp [e_fnP, it, zx, e, shAt, chkO_ws, szOk_of]
theorem parti_none {sep x : List Nat} (hs : sep ≠ []) (h : TL.par sep [] x = none) (hx : x.length ≤ 1000000) : partiD (dt x) (dt sep) = .ok (.tup [dt x, dt [], dt []]) := by
  have e0 : ((tx sep).length == 0) = false := by
    rw [tx_len]
    cases sep with
    | nil => exact absurd rfl hs
    | cons => rfl
  show (if ((tx sep).length == 0) = false ∧ (tx x).length ≤ 1000000 then R.ok (D.tup [.str (Txt.partition (tx x) (tx sep)).1, .str (Txt.partition (tx x) (tx sep)).2.1, .str (Txt.partition (tx x) (tx sep)).2.2]) else .stk) = _
  rw [if_pos ⟨e0, by rw [tx_len]; exact hx⟩]
  have := SX.partition_none (a := x) (b := sep) hs h
  have this : Txt.partition (tx x) (tx sep) = (tx x, tx [], tx []) := this
  rw [this]
theorem par_len {S : List Nat} : ∀ {x acc p q : List Nat}, TL.par S acc x = some (p, q) → p.length ≤ acc.length + x.length ∧ q.length ≤ x.length
  | [], acc, p, q, h => by unfold TL.par at h; cases h
  | c :: r, acc, p, q, h => by
    cases e : TL.pre S (c :: r) with
    | true =>
      rw [TL.par_hit e] at h
      cases h
      exact ⟨by omega, by rw [List.length_drop]; omega⟩
    | false =>
      rw [TL.par_miss e] at h
      have := par_len h
      simp only [List.length_append, List.length_cons, List.length_nil] at this ⊢
      omega
/-- what the program makes of any row -/
theorem rule_in_any {p : List Nat} (hl : p.length ≤ 1000) : ∃ o : Option RuleT, C.g_rule_in [dt p] = .ok (match o with | none => .fr .non | some r => .fr (dRule r)) ∧ ∀ r, o = some r → r.1.length ≤ 1000 ∧ r.2.length ≤ 1000 := by
  have f8 : figs 8 = [48, 49, 50, 51, 52, 53, 54, 55] := rfl
  have f2 : figs 2 = [48, 49] := rfl
  have is1 : ∀ xs : List Int, Y.isNon (ti xs) = false := fun _ => rfl
  obtain ⟨H1, G1, Q1, pd, l1, l3, eg⟩ : ∃ h g q, partiD (dt p) (dt [62, 32]) = .ok (.tup [dt h, dt g, dt q]) ∧ h.length ≤ 1000 ∧ q.length ≤ 1000 ∧ ∃ b, eqD (dt g) (dt []) = .ok (.bl b) := by
    cases e : TL.par [62, 32] [] p with
    | none => exact ⟨p, [], [], parti_none (by simp) e (by omega), hl, by simp, true, by rw [eq_dt (by intro c h; cases h) (by intro c h; cases h)]; rfl⟩
    | some x =>
      obtain ⟨h, q⟩ := x
      have := par_len e
      exact ⟨h, [62, 32], q, parti_dt (by simp) e (by omega), by simp at this; omega, by omega, false, by rw [eq_dt (by unfold SgOk; decide) (by intro c h; cases h)]; rfl⟩
  obtain ⟨b, eg⟩ := eg
  have sp := split_dt (sep := [32]) (x := H1) (by simp) (by decide) (by omega)
  obtain ⟨L, hL⟩ : ∃ L, TL.spl [32] 0 [] H1 = L := ⟨_, rfl⟩
  have sL := sp_sum (s := 32) (x := H1) (acc := [])
  rw [hL] at sp sL
  obtain ⟨M, cm, sM, lM⟩ : ∃ M : List (List Nat), Y.cutD (L.map dt) (some 1) (some (-1)) = M.map dt ∧ (M.map List.length).sum ≤ 1000 ∧ M.length ≤ 2000 := by
    unfold Y.cutD
    rw [← List.map_drop, ← List.map_take]
    refine ⟨_, rfl, Nat.le_trans sum_cut (by simp at sL; omega), ?_⟩
    rw [List.length_take, List.length_drop]
    omega
  have j1 := join_dts (sep := []) (xs := M) (by simp; omega)
  rw [joinL_nil] at j1
  have lf : M.flatten.length = (M.map List.length).sum := List.length_flatten
  have na := numbers_any (xs := M.flatten) (m := 8) (.inr rfl) (by omega)
  have nb := numbers_any (xs := Q1) (m := 2) (.inl rfl) (by omega)
  rw [f8] at na
  rw [f2] at nb
  have zL : szOk (L.map dt).length = true := szOk_of (by rw [List.length_map]; simp at sL; omega)
  have zM : szOk (M.map dt).length = true := szOk_of (by rw [List.length_map]; omega)
  refine ⟨if b = false ∧ M.flatten.all (isF 8) = true ∧ Q1.all (isF 2) = true then some (vals M.flatten, vals Q1) else none, ?_, fun r hr => ?_⟩
  · replace pd : partiD (.str (tx p)) (.str (tx [62, 32])) = .ok (.tup [.str (tx H1), dt G1, dt Q1]) := pd
    replace sp : splitD (.str (tx H1)) (.str (tx [32])) = .ok (.lst (L.map dt)) := sp
    show C.g_rule_in [.str (tx p)] = _
    simp only [C.g_rule_in, C.m_rule_in, s_gap, s_sp, s_none, s_figs, s_bits]
    have in0 : Y.isNon D.non = true := rfl
    have i1 := is1 (vals M.flatten)
    have i2 := is1 (vals Q1)
    generalize hA : M.flatten.all (isF 8) = A8 at *
    generalize hB : Q1.all (isF 2) = A2 at *
    generalize hT1 : vals M.flatten = T1 at *
    generalize hT2 : vals Q1 = T2 at *
    generalize tx p = ROW at *
    generalize tx H1 = HEAD at *
    generalize L.map dt = LD at *
    generalize M.map dt = MD at *
    generalize dt M.flatten = J1 at *
    generalize dt Q1 = J2 at *
    generalize dt G1 = GG at *
    have hdR : dRule (T1, T2) = .tup [ti T1, ti T2] := rfl
    generalize ti T1 = D1 at *
    generalize ti T2 = D2 at *
    cases b <;> cases A8 <;> cases A2 <;> simp [e_fnP, pd, sp, cm, j1, na, nb, eg, i1, i2, hdR, in0]
  · split at hr
    · cases hr
      unfold vals
      rw [List.length_map, List.length_map]
      exact ⟨by omega, by omega⟩
    · cases hr
end H

set_option Elab.async false
set_option linter.all false
set_option maxRecDepth 100000
set_option maxHeartbeats 4000000
namespace H
open PySem PySem.Spec PyProof.Rows L2 Y
theorem atI_back {α : Type} {xs : List α} {i : Int} {k j : Nat} {x : α} (hi : i = -(k : Int)) (h1 : 1 ≤ k) (h2 : k ≤ xs.length) (hj : j = xs.length - k) (h : xs[j]? = some x) : atI xs i = some x := by
  subst hi hj
  unfold atI ixN
  rw [if_neg (by omega), if_pos (by omega)]
  have e : (-(k : Int) + xs.length).toNat = xs.length - k := by omega
  show xs[_]? = _
  rw [e]
  exact h
theorem cut_mid2 {h g l : D} {m : List D} : Y.cutD (h :: (m ++ [g, l])) (some 1) (some (-2)) = m := by
  unfold Y.cutD
  have e1 : HT.sIx (h :: (m ++ [g, l])).length 0 (some 1) = 1 := by
    have := HT.sIx_nat (h :: (m ++ [g, l])).length 0 1
    rw [show (some (1 : Int)) = some ((1 : Nat) : Int) from rfl, this]
    simp
  have e2 : HT.sIx (h :: (m ++ [g, l])).length (h :: (m ++ [g, l])).length (some (-2)) = m.length + 1 := by
    show (if (-2 : Int) < 0 then ((-2 : Int) + ((h :: (m ++ [g, l])).length : Int)).toNat else min (-2 : Int).toNat (h :: (m ++ [g, l])).length) = _
    rw [if_pos (by decide)]
    simp
    omega
  rw [e1, e2]
  simp
theorem fit_nil06 : Fit 1 (D.lst []) := fun d h => by cases h
theorem ne_nil06 {xs : List (List Nat)} (h : ∀ x ∈ xs, SgOk x) : neD (ldt xs) (.lst []) = .ok (.bl (!xs.isEmpty)) := by
  rw [neD_of (n := 1) (fit_ldt h) fit_nil06]
  cases xs with
  | nil => simp [eqP_lst, eqPs]
  | cons x xs => simp [eqP_lst, eqPs]
theorem eqPs_dt : ∀ {xs ys : List (List Nat)}, eqPs (xs.map dt) (ys.map dt) = decide (xs = ys)
  | [], [] => by simp [eqPs]
  | [], _ :: _ => by simp [eqPs]
  | _ :: _, [] => by simp [eqPs]
  | x :: xs, y :: ys => by
    rw [List.map_cons, List.map_cons, eqPs, eqPs_dt, eqP_dt, Bool.eq_iff_iff]
    simp
theorem ne_ldt06 {xs ys : List (List Nat)} (h : ∀ x ∈ xs, SgOk x) (h2 : ∀ x ∈ ys, SgOk x) : neD (ldt xs) (ldt ys) = .ok (.bl (!decide (xs = ys))) := by
  rw [neD_of (n := 1) (fit_ldt h) (fit_ldt h2), eqP_lst, eqPs_dt]
theorem strs_ldt06 (xs : List (List Nat)) : strsOf (xs.map dt) = some (xs.map tx) := by
  have := Y.strs_map (xs.map tx)
  rw [List.map_map] at this
  exact this
/-- the words' order -/
def srt (es : List (List Nat)) : List (List Nat) := (setS (es.map tx)).map fun s => s.cps.toList
theorem srt_dt {es : List (List Nat)} : (setS (es.map tx)).map D.str = (srt es).map dt := by
  unfold srt
  rw [List.map_map]
  exact List.map_congr_left fun s _ => rfl
theorem srt_sg {es : List (List Nat)} (h : ∀ x ∈ es, SgOk x) : ∀ x ∈ srt es, SgOk x := fun x hx => by
  obtain ⟨s, hs, rfl⟩ := List.mem_map.mp hx
  obtain ⟨e, he, rfl⟩ := List.mem_map.mp (setS_mem.mp hs)
  exact h e he
/-- a word that is one figure -/
def isW (w : List Nat) : Bool := w.length == 1 && isF 8 (w.getD 0 0)
theorem isW_of {w : List Nat} (h : isW w = true) : ∃ j : Nat, j < 8 ∧ w = [48 + j] := by
  unfold isW at h
  rw [Bool.and_eq_true] at h
  obtain ⟨h1, h2⟩ := h
  match w, h1 with
  | [c], _ =>
    have := of_decide_eq_true h2
    have : 48 ≤ c ∧ c < 48 + 8 := this
    exact ⟨c - 48, by omega, by rw [show 48 + (c - 48) = c by omega]⟩
theorem vals_flat : ∀ {es : List (List Nat)}, es.all isW = true → (vals es.flatten).map D.int = es.map fun w => D.int ((w.getD 0 0 - 48 : Nat) : Int)
  | [], _ => rfl
  | w :: es, h => by
    rw [List.all_cons, Bool.and_eq_true] at h
    obtain ⟨j, hj, rfl⟩ := isW_of h.1
    have := vals_flat h.2
    rw [List.map_cons, ← this]
    rfl
theorem le_sum06 : ∀ {L : List Nat} {x : Nat}, x ∈ L → x ≤ L.sum
  | a :: L, x, h => by
    rw [List.sum_cons]
    rcases List.mem_cons.mp h with rfl | h
    · omega
    · have := le_sum06 h
      omega
theorem int_fig : ((List.range 8).all fun j => match intOfD [dt [48 + j]] with | .ok (.int i) => i == (j : Int) | _ => false) = true := by decide +kernel
theorem int_w {j : Nat} (h : j < 8) : intOfD [dt [48 + j]] = .ok (.int (j : Nat)) := by
  have := List.all_eq_true.mp int_fig j (List.mem_range.mpr h)
  split at this
  · rename_i i e
    rw [e, eq_of_beq this]
  · cases this
section
variable {n m : Nat} {p w0 g b : List Nat} {es : List (List Nat)}
theorem fil1 {ρ : Y.Env} (h : ∀ x ∈ es, x.length ≤ 100000) (h6 : ρ.length = 7) : cCompL (tmName 6) C.t__law_rule_in_1 C.e__law_rule_in_1 [6] [] (es.map dt) (ρ.set 6 none) = .ok ((es.filter fun w => !isW w).map dt, ρ.set 6 none) := by
  obtain ⟨a0, a1, a2, a3, a4, a5, a6, rfl⟩ : ∃ a0 a1 a2 a3 a4 a5 a6, ρ = [a0, a1, a2, a3, a4, a5, a6] := by
    match ρ, h6 with
    | [a0, a1, a2, a3, a4, a5, a6], _ => exact ⟨a0, a1, a2, a3, a4, a5, a6, rfl⟩
  exact comp_filter (tm := tmName 6) (t := C.t__law_rule_in_1) (e := C.e__law_rule_in_1) (vs := [6]) (ws := []) (ρ := [a0, a1, a2, a3, a4, a5, none]) dt (fun w => !isW w) dt es fun w hw => by
    have f8 : figs 8 = [48, 49, 50, 51, 52, 53, 54, 55] := rfl
    have lw := h w hw
    have l1 : lenD [dt w] = .ok (.int w.length) := by rw [d_lenS, tx_len, if_pos (szOk_of (by omega))]
    by_cases h1 : w.length = 1
    · obtain ⟨c, rfl⟩ : ∃ c, w = [c] := by
        match w, h1 with
        | [c], _ => exact ⟨c, rfl⟩
      have nn := nin_of05 (in_text (c := c) (l := figs 8))
      have e : decide (c ∈ figs 8) = isW [c] := by
        rw [Bool.eq_iff_iff, decide_eq_true_eq, fig_mem]
        show _ ↔ (true && decide (48 ≤ c ∧ c < 48 + 8)) = true
        simp
      rw [e, f8] at nn
      simp only [turnC, C.t__law_rule_in_1, C.e__law_rule_in_1, s_figs]
      have nn : ninD (dt [c]) (.str (tx [48, 49, 50, 51, 52, 53, 54, 55])) = .ok (.bl (!isW [c])) := nn
      generalize isW [c] = B at *
      generalize tx [48, 49, 50, 51, 52, 53, 54, 55] = FG at *
      generalize dt [c] = S1 at *
      cases B <;> simp [l1, nn]
    · have e : isW w = false := by
        unfold isW
        rw [show (w.length == 1) = false by simpa using h1]
        rfl
      have h1' : ¬ ((w.length : Int) = 1) := by omega
      rw [e]
      simp only [turnC, C.t__law_rule_in_1, C.e__law_rule_in_1, s_figs]
      generalize tx [48, 49, 50, 51, 52, 53, 54, 55] = FG at *
      generalize dt w = S1 at *
      simp [l1, h1']
theorem fil2 {a0 a1 a3 a4 : Option D} (h : es.all isW = true) : cCompL (tmName 6) C.t__law_rule_in_2 C.e__law_rule_in_2 [6] [] (es.map dt) [a0, a1, some (.int m), a3, a4, none, none] = .ok ((es.filter fun w => decide (m ≤ w.getD 0 0 - 48)).map dt, [a0, a1, some (.int m), a3, a4, none, none]) :=
  comp_filter (tm := tmName 6) (t := C.t__law_rule_in_2) (e := C.e__law_rule_in_2) (vs := [6]) (ws := []) (ρ := [a0, a1, some (.int m), a3, a4, none, none]) dt (fun w => decide (m ≤ w.getD 0 0 - 48)) dt es fun w hw => by
    obtain ⟨j, hj, rfl⟩ := isW_of (List.all_eq_true.mp h w hw)
    have ij := int_w hj
    have e : decide (m ≤ ([48 + j] : List Nat).getD 0 0 - 48) = decide (m ≤ j) := by
      show decide (m ≤ 48 + j - 48) = _
      rw [show 48 + j - 48 = j by omega]
    rw [e]
    simp only [turnC, C.t__law_rule_in_2, C.e__law_rule_in_2]
    generalize dt [48 + j] = S1 at *
    by_cases c : m ≤ j
    · have c2 : (m : Int) ≤ j := by omega
      simp [ij, c, c2]
    · have c2 : ¬ (m : Int) ≤ j := by omega
      simp [ij, c, c2]
theorem fil3 {a0 a1 a2 a3 a4 : Option D} : cCompL (tmName 5) C.t__law_rule_in_3 C.e__law_rule_in_3 [5] [] (b.map fun c => dt [c]) [a0, a1, a2, a3, a4, none, none] = .ok (((b.filter fun c => !isF 2 c)).map fun c => dt [c], [a0, a1, a2, a3, a4, none, none]) :=
  comp_filter (tm := tmName 5) (t := C.t__law_rule_in_3) (e := C.e__law_rule_in_3) (vs := [5]) (ws := []) (ρ := [a0, a1, a2, a3, a4, none, none]) (fun c => dt [c]) (fun c => !isF 2 c) (fun c => dt [c]) b fun c hc => by
    have nn := nin_of05 (in_text (c := c) (l := figs 2))
    have e : decide (c ∈ figs 2) = isF 2 c := by
      rw [Bool.eq_iff_iff, decide_eq_true_eq, fig_mem]
      show _ ↔ decide (48 ≤ c ∧ c < 48 + 2) = true
      simp
    have f2 : figs 2 = [48, 49] := rfl
    rw [e, f2] at nn
    simp only [turnC, C.t__law_rule_in_3, C.e__law_rule_in_3, s_bits]
    have nn : ninD (dt [c]) (.str (tx [48, 49])) = .ok (.bl (!isF 2 c)) := nn
    generalize isF 2 c = B at *
    generalize tx [48, 49] = FG at *
    generalize dt [c] = S1 at *
    cases B <;> simp [nn]
theorem map4 {a0 a1 a2 a3 a4 : Option D} (h : b.all (isF 2) = true) : cCompL (tmName 5) cYes C.e__law_rule_in_4 [5] [] (b.map fun c => dt [c]) [a0, a1, a2, a3, a4, none, none] = .ok ((vals b).map D.int, [a0, a1, a2, a3, a4, none, none]) := by
  unfold vals
  rw [List.map_map]
  exact comp_map (tm := tmName 5) (t := cYes) (e := C.e__law_rule_in_4) (vs := [5]) (ws := []) (ρ := [a0, a1, a2, a3, a4, none, none]) (fun c => dt [c]) (fun c => D.int ((c - 48 : Nat) : Int)) b fun c hc => by
    have hb := of_decide_eq_true (List.all_eq_true.mp h c hc)
    have ij := int_w (j := c - 48) (by omega)
    rw [show 48 + (c - 48) = c by omega] at ij
    simp only [turnC, C.e__law_rule_in_4]
    generalize dt [c] = S1 at *
    simp [ij]
theorem map5 {a0 a1 a2 a3 a4 : Option D} (h : es.all isW = true) : cCompL (tmName 6) cYes C.e__law_rule_in_5 [6] [] (es.map dt) [a0, a1, a2, a3, a4, none, none] = .ok ((vals es.flatten).map D.int, [a0, a1, a2, a3, a4, none, none]) := by
  rw [vals_flat h]
  exact comp_map (tm := tmName 6) (t := cYes) (e := C.e__law_rule_in_5) (vs := [6]) (ws := []) (ρ := [a0, a1, a2, a3, a4, none, none]) dt (fun w => D.int ((w.getD 0 0 - 48 : Nat) : Int)) es fun w hw => by
    obtain ⟨j, hj, rfl⟩ := isW_of (List.all_eq_true.mp h w hw)
    have ij := int_w hj
    have e : (([48 + j] : List Nat).getD 0 0 - 48 : Nat) = j := by
      show 48 + j - 48 = j
      omega
    rw [e]
    simp only [turnC, C.e__law_rule_in_5]
    generalize dt [48 + j] = S1 at *
    simp [ij]
/-- what the law asks of a row's words -/
def okW (n m : Nat) (w0 g b : List Nat) (es : List (List Nat)) : Bool :=
  decide (w0 = [48 + n, 58]) && (decide (g = [62]) && (decide (es.length ≤ 4) && (es.all isW && (decide (srt es = es) && (es.all (fun w => decide (w.getD 0 0 - 48 < m)) && (decide (b.length = 2 ^ es.length) && b.all (isF 2)))))))
theorem fil_e {α : Type} {q : α → Bool} {xs : List α} : (xs.filter fun x => !q x).isEmpty = xs.all q := by
  rw [Bool.eq_iff_iff, List.isEmpty_iff, List.filter_eq_nil_iff, List.all_eq_true]
  exact ⟨fun h x hx => by simpa using h x hx, fun h x hx => by simpa using h x hx⟩
theorem law_rule_in_short (hn : n < 10) (hp : p.length ≤ 1000) (h : (TL.spl [32] 0 [] p).length < 3) : C.g__law_rule_in [dt p, .int n, .int m] = .ok (.fr .non) := by
  have sp := split_dt (sep := [32]) (x := p) (by simp) (by decide) (by omega)
  have sp : splitD (.str (tx p)) (.str (tx [32])) = .ok (.lst ((TL.spl [32] 0 [] p).map dt)) := sp
  have zW : szOk ((TL.spl [32] 0 [] p).map dt).length = true := szOk_of (by rw [List.length_map]; omega)
  have h3 : (((TL.spl [32] 0 [] p).map dt).length : Int) < 3 := by rw [List.length_map]; omega
  show C.g__law_rule_in [.str (tx p), _, _] = _
  simp only [C.g__law_rule_in, C.m__law_rule_in, s_sp]
  generalize (TL.spl [32] 0 [] p).map dt = WD at *
  generalize tx p = ROW at *
  simp [e_fnP, sp, h3, zW]
theorem law_rule_in_eval (hn : n < 10) (hp : p.length ≤ 1000) (sg : SgOk p) (e : TL.spl [32] 0 [] p = w0 :: (es ++ [g, b])) :
    C.g__law_rule_in [dt p, .int n, .int m] = .ok (.fr (if okW n m w0 g b es = true then dRule (vals es.flatten, vals b) else .non)) := by
  have sL := sp_sum (s := 32) (x := p) (acc := [])
  have sm : ∀ q ∈ w0 :: (es ++ [g, b]), SgOk q ∧ q.length ≤ 1000 := fun q hq => by
    rw [← e] at hq
    refine ⟨fun c hc => ?_, ?_⟩
    · rcases sp_mem hq c hc with z | z
      · cases z
      · exact sg c z
    · have : q.length ≤ ((TL.spl [32] 0 [] p).map List.length).sum := le_sum06 (List.mem_map.mpr ⟨q, hq, rfl⟩)
      simp at sL
      omega
  rw [e] at sL
  simp only [List.length_cons, List.length_append, List.length_nil] at sL
  have sp := split_dt (sep := [32]) (x := p) (by simp) (by decide) (by omega)
  rw [e] at sp
  have sp : splitD (.str (tx p)) (.str (tx [32])) = .ok (.lst ((w0 :: (es ++ [g, b])).map dt)) := sp
  obtain ⟨WD, hWD⟩ : ∃ WD, (w0 :: (es ++ [g, b])).map dt = WD := ⟨_, rfl⟩
  have lW : WD.length = es.length + 3 := by rw [← hWD]; simp
  have zW : szOk WD.length = true := szOk_of (by omega)
  have a0 : atI WD 0 = some (dt w0) := by rw [← hWD]; exact atI_of (j := 0) rfl rfl
  have a2 : atI WD (-2) = some (dt g) := by
    refine atI_back (k := 2) (j := es.length + 1) rfl (by omega) (by omega) (by omega) ?_
    rw [← hWD, List.map_cons, List.map_append, List.getElem?_cons_succ, List.getElem?_append_right (by simp)]
    simp
  have a1 : atI WD (-1) = some (dt b) := by
    refine atI_back (k := 1) (j := es.length + 2) rfl (by omega) (by omega) (by omega) ?_
    rw [← hWD, List.map_cons, List.map_append, List.getElem?_cons_succ, List.getElem?_append_right (by simp)]
    simp
  have cm : Y.cutD WD (some 1) (some (-2)) = es.map dt := by
    rw [← hWD, List.map_cons, List.map_append]
    exact cut_mid2
  rw [hWD] at sp
  have mw0 := sm w0 (by simp)
  have mg := sm g (by simp)
  have mb := sm b (by simp)
  have mes : ∀ w ∈ es, SgOk w ∧ w.length ≤ 1000 := fun w hw => sm w (by simp [hw])
  have sk := str_int hn
  have ad := add_dt (a := [48 + n]) (b := [58]) (by simp)
  have q0 := ne_dt mw0.1 (b := [48 + n] ++ [58]) (by intro c hc; simp only [List.cons_append, List.nil_append, List.mem_cons, List.not_mem_nil, or_false] at hc; omega)
  have q0 : neD (dt w0) (dt ([48 + n] ++ [58])) = .ok (.bl (!decide (w0 = [48 + n, 58]))) := q0
  have q2 := ne_dt mg.1 (b := [62]) (by unfold SgOk; decide)
  have h3 : ¬ ((WD.length : Int) < 3) := by omega
  have z4 : szOk (es.map dt).length = true := szOk_of (by rw [List.length_map]; omega)
  have c1 := fil1 (es := es) (ρ := [some (dt p), some (.int n), some (.int m), some (.lst WD), some (.lst (es.map dt)), none, none]) (fun x hx => by have := (mes x hx).2; omega) rfl
  have c1 : cCompL (tmName 6) C.t__law_rule_in_1 C.e__law_rule_in_1 [6] [] (es.map dt) [some (.str (tx p)), some (.int n), some (.int m), some (.lst WD), some (.lst (es.map dt)), none, none] = .ok ((es.filter fun w => !isW w).map dt, [some (.str (tx p)), some (.int n), some (.int m), some (.lst WD), some (.lst (es.map dt)), none, none]) := c1
  have n1 := ne_nil06 (xs := es.filter fun w => !isW w) fun x hx => (mes x (List.mem_filter.mp hx).1).1
  rw [fil_e] at n1
  have n1 : neD (.lst ((es.filter fun w => !isW w).map dt)) (.lst []) = _ := n1
  have q7 : ((7 : Int) < (WD.length : Int)) ↔ ¬ es.length ≤ 4 := by omega
  unfold okW
  show C.g__law_rule_in [.str (tx p), _, _] = _
  simp only [C.g__law_rule_in, C.m__law_rule_in, s_sp, s_colon1, s_gap1]
  obtain ⟨PR, hPR⟩ : ∃ PR, tx p = PR := ⟨_, rfl⟩
  rw [hPR] at sp c1 ⊢
  by_cases k0 : w0 = [48 + n, 58]
  case neg =>
    rw [decide_eq_false k0] at q0 ⊢
    generalize dt w0 = W0 at *
    generalize dt ([48 + n] ++ [58]) = K0 at *
    generalize dt [48 + n] = K1 at *
    generalize es.map dt = ES at *
    simp [e_fnP, sp, h3, zW, a0, sk, ad, q0]
  rw [decide_eq_true k0] at q0 ⊢
  by_cases k2 : g = [62]
  case neg =>
    rw [decide_eq_false k2] at q2 ⊢
    generalize dt w0 = W0 at *
    generalize dt ([48 + n] ++ [58]) = K0 at *
    generalize dt [48 + n] = K1 at *
    generalize es.map dt = ES at *
    have q2 : neD (dt g) (.str (tx [62])) = _ := q2
    generalize dt g = GD at *
    generalize tx [62] = GT at *
    simp [e_fnP, sp, h3, zW, a0, a2, sk, ad, q0, q2]
  rw [decide_eq_true k2] at q2 ⊢
  by_cases k4 : es.length ≤ 4
  case neg =>
    rw [decide_eq_false k4]
    have k7 := q7.mpr k4
    generalize dt w0 = W0 at *
    generalize dt ([48 + n] ++ [58]) = K0 at *
    generalize dt [48 + n] = K1 at *
    generalize es.map dt = ES at *
    have q2 : neD (dt g) (.str (tx [62])) = _ := q2
    generalize dt g = GD at *
    generalize tx [62] = GT at *
    simp [e_fnP, sp, h3, zW, a0, a2, sk, ad, q0, q2, k7]
  rw [decide_eq_true k4]
  have k7 : ¬ ((7 : Int) < (WD.length : Int)) := fun z => q7.mp z k4
  have q2 : neD (dt g) (.str (tx [62])) = _ := q2
  obtain ⟨ES, hES⟩ : ∃ ES, es.map dt = ES := ⟨_, rfl⟩
  have st : strsOf ES = some (es.map tx) := by rw [← hES]; exact strs_ldt06 es
  have l63 : (es.map tx).length < 63 := by rw [List.length_map]; omega
  have n5 := ne_ldt06 (xs := srt es) (ys := es) (srt_sg fun x hx => (mes x hx).1) fun x hx => (mes x hx).1
  have n5 : neD (.lst ((srt es).map dt)) (.lst (es.map dt)) = _ := n5
  rw [← srt_dt] at n5
  have lE : ES.length = es.length := by rw [← hES, List.length_map]
  have s1 := shl1 (k := es.length) (by omega)
  rw [← lE] at s1
  have lb : lenD [dt b] = .ok (.int b.length) := by rw [d_lenS, tx_len, if_pos (szOk_of (by omega))]
  have itb : itD (dt b) = .ok (b.map fun c => dt [c]) := it_dt
  have zb : szOk (b.map fun c => dt [c]).length = true := szOk_of (by rw [List.length_map]; omega)
  have z1 : szOk ((es.filter fun w => !isW w).map dt).length = true := szOk_of (by
    rw [List.length_map]
    exact Nat.le_trans (List.length_filter_le _ _) (by omega))
  have c2 := fun h => fil2 (m := m) (es := es) (a0 := some (.str PR)) (a1 := some (.int n)) (a3 := some (.lst WD)) (a4 := some (.lst ES)) h
  have c3 := fil3 (b := b) (a0 := some (.str PR)) (a1 := some (.int n)) (a2 := some (.int m)) (a3 := some (.lst WD)) (a4 := some (.lst ES))
  have c4 := fun h => map4 (b := b) (a0 := some (.str PR)) (a1 := some (.int n)) (a2 := some (.int m)) (a3 := some (.lst WD)) (a4 := some (.lst ES)) h
  have c5 := fun h => map5 (es := es) (a0 := some (.str PR)) (a1 := some (.int n)) (a2 := some (.int m)) (a3 := some (.lst WD)) (a4 := some (.lst ES)) h
  have n2 := ne_nil06 (xs := es.filter fun w => decide (m ≤ w.getD 0 0 - 48)) fun x hx => (mes x (List.mem_filter.mp hx).1).1
  have ef : (es.filter fun w => decide (m ≤ w.getD 0 0 - 48)) = es.filter fun w => !decide (w.getD 0 0 - 48 < m) := List.filter_congr fun w _ => by
    rw [Bool.eq_iff_iff]
    simp
  rw [ef, fil_e] at n2
  have n3 := ne_nil06 (xs := (b.filter fun c => !isF 2 c).map fun c => [c]) fun x hx => by
    obtain ⟨c, hc, rfl⟩ := List.mem_map.mp hx
    intro d hd
    rw [List.mem_singleton.mp hd]
    exact mb.1 c (List.mem_filter.mp hc).1
  have n3 : neD (.lst (((b.filter fun c => !isF 2 c).map fun c => [c]).map dt)) (.lst []) = _ := n3
  rw [List.map_map, show ((b.filter fun c => !isF 2 c).map fun c => [c]).isEmpty = (b.filter fun c => !isF 2 c).isEmpty by cases (b.filter fun c => !isF 2 c) <;> rfl, fil_e] at n3
  have n3 : neD (.lst ((b.filter fun c => !isF 2 c).map fun c => dt [c])) (.lst []) = _ := n3
  have n2 : neD (.lst ((es.filter fun w => !decide (w.getD 0 0 - 48 < m)).map dt)) (.lst []) = _ := n2
  rw [ef] at c2
  have z2 : szOk ((es.filter fun w => !decide (w.getD 0 0 - 48 < m)).map dt).length = true := szOk_of (by
    rw [List.length_map]
    exact Nat.le_trans (List.length_filter_le _ _) (by omega))
  have z3 : szOk ((b.filter fun c => !isF 2 c).map fun c => dt [c]).length = true := szOk_of (by
    rw [List.length_map]
    exact Nat.le_trans (List.length_filter_le _ _) (by omega))
  have zv1 : es.all isW = true → szOk ((vals es.flatten).map D.int).length = true := fun h => szOk_of (by
    rw [vals_flat h, List.length_map]
    omega)
  have zv2 : szOk ((vals b).map D.int).length = true := szOk_of (by unfold vals; rw [List.length_map, List.length_map]; omega)
  have hdR : dRule (vals es.flatten, vals b) = .tup [.tup ((vals es.flatten).map D.int), .tup ((vals b).map D.int)] := rfl
  rw [hES] at c1 cm z4 n5 c2 c5
  rw [hdR]
  generalize dt w0 = W0 at *
  generalize dt ([48 + n] ++ [58]) = K0 at *
  generalize dt [48 + n] = K1 at *
  generalize dt g = GD at *
  generalize tx [62] = GT at *
  obtain ⟨XS, hXS⟩ : ∃ XS, es.map tx = XS := ⟨_, rfl⟩
  rw [hXS] at n5 st l63
  obtain ⟨SS, hSS⟩ : ∃ SS, (setS XS).map D.str = SS := ⟨_, rfl⟩
  rw [hSS] at n5
  generalize (es.filter fun w => !isW w).map dt = F1 at *
  generalize (es.filter fun w => !decide (w.getD 0 0 - 48 < m)).map dt = F2 at *
  generalize ((b.filter fun c => !isF 2 c).map fun c => dt [c]) = F3 at *
  generalize (b.map fun c => dt [c]) = BS at *
  generalize dt b = BD at *
  generalize (vals es.flatten).map D.int = V1 at *
  generalize (vals b).map D.int = V2 at *
  by_cases k5 : es.all isW = true
  case neg =>
    have k5 := eq_false_of_ne_true k5
    rw [k5] at n1 ⊢
    simp [e_fnP, sp, h3, zW, a0, a2, sk, ad, q0, q2, k7, cm, z4, c1, n1, z1]
  have c2 := c2 k5
  have c5 := c5 k5
  have zv1 := zv1 k5
  rw [k5] at n1 ⊢
  by_cases k6 : srt es = es
  case neg =>
    rw [decide_eq_false k6] at n5 ⊢
    simp [e_fnP, sp, h3, zW, a0, a2, sk, ad, q0, q2, k7, cm, z4, c1, n1, z1, st, l63, hSS, n5]
  rw [decide_eq_true k6] at n5 ⊢
  generalize hA2 : (es.all fun w => decide (w.getD 0 0 - 48 < m)) = A2 at *
  generalize hA3 : b.all (isF 2) = A3 at *
  cases A2 with
  | false => simp [e_fnP, sp, h3, zW, a0, a2, sk, ad, q0, q2, k7, cm, z4, c1, n1, z1, st, l63, hSS, n5, c2, n2, z2]
  | true =>
    rw [← lE]
    obtain ⟨PW, hPW⟩ : ∃ PW, 2 ^ ES.length = PW := ⟨_, rfl⟩
    obtain ⟨BL, hBL⟩ : ∃ BL, b.length = BL := ⟨_, rfl⟩
    rw [hPW] at s1 ⊢
    rw [hBL] at lb ⊢
    by_cases k8 : BL = PW
    case neg =>
      rw [decide_eq_false k8]
      have k8' : ¬ ((BL : Int) = (PW : Int)) := by omega
      simp [e_fnP, sp, h3, zW, a0, a2, a1, sk, ad, q0, q2, k7, cm, z4, c1, n1, z1, st, l63, hSS, n5, c2, n2, z2, lb, s1, k8, k8', -d_shl]
    rw [decide_eq_true k8]
    cases A3 with
    | false => simp [e_fnP, sp, h3, zW, a0, a2, a1, sk, ad, q0, q2, k7, cm, z4, c1, n1, z1, st, l63, hSS, n5, c2, n2, z2, lb, s1, k8, itb, zb, c3, n3, z3, -d_shl]
    | true =>
      have c4 := c4 rfl
      simp [e_fnP, sp, h3, zW, a0, a2, a1, sk, ad, q0, q2, k7, cm, z4, c1, n1, z1, st, l63, hSS, n5, c2, n2, z2, lb, s1, k8, itb, zb, c3, n3, z3, c4, c5, zv1, zv2, -d_shl]
end
end H

set_option Elab.async false
set_option linter.all false
set_option maxRecDepth 100000
set_option maxHeartbeats 4000000
namespace H
open PySem PySem.Spec PyProof.Rows L2 Y
structure VR (m : Nat) (r : RuleT) : Prop where
  pw : r.1.Pairwise (· < ·)
  up : ∀ e ∈ r.1, 0 ≤ e ∧ e < m
  len : r.1.length ≤ 4
  tab : r.2.length = 2 ^ r.1.length
  bit : ∀ b ∈ r.2, 0 ≤ b ∧ b < 2
theorem rise_pw06 : ∀ {xs : List Int}, riseB xs = true ↔ xs.Pairwise (· < ·)
  | [] => by simp [riseB]
  | [x] => by simp [riseB]
  | x :: y :: r => by
    have h : riseB (x :: y :: r) = (decide (x < y) && riseB (y :: r)) := rfl
    rw [h, Bool.and_eq_true, decide_eq_true_eq, rise_pw06, List.pairwise_cons (a := x)]
    constructor
    · rintro ⟨h1, h2⟩
      refine ⟨fun z hz => ?_, h2⟩
      rcases List.mem_cons.mp hz with rfl | hz
      · exact h1
      · have := (List.pairwise_cons.mp h2).1 z hz
        omega
    · rintro ⟨h1, h2⟩
      exact ⟨h1 y (by simp), h2⟩
theorem vr_iff {m : Nat} {r : RuleT} : ruleB m (dRule r) = true ↔ VR m r := by
  have e2 : lenT (ti r.1) = r.1.length := by show (r.1.map D.int).length = _; rw [List.length_map]
  have e : ruleB m (dRule r) = (((r.1.map D.int).all (upB m) && riseB ((r.1.map D.int).filterMap toI)) && (decide (lenT (ti r.1) ≤ 4) && (decide ((((r.2.map D.int).length : Nat) : Int) = ((2 ^ lenT (ti r.1) : Nat) : Int)) && (r.2.map D.int).all (upB 2)))) := rfl
  have a2 : (r.1.map D.int).filterMap toI = r.1 := by
    rw [List.filterMap_map]
    show r.1.filterMap (fun x => some x) = r.1
    simp
  have a1 : (r.1.map D.int).all (upB m) = true ↔ ∀ e ∈ r.1, 0 ≤ e ∧ e < m := by
    rw [List.all_map, List.all_eq_true]
    exact ⟨fun h e he => of_decide_eq_true (h e he), fun h e he => decide_eq_true (h e he)⟩
  have a3 : (r.2.map D.int).all (upB 2) = true ↔ ∀ e ∈ r.2, 0 ≤ e ∧ e < 2 := by
    rw [List.all_map, List.all_eq_true]
    exact ⟨fun h e he => of_decide_eq_true (h e he), fun h e he => decide_eq_true (h e he)⟩
  rw [e, e2, a2, List.length_map]
  simp only [Bool.and_eq_true, decide_eq_true_eq, a1, a3, rise_pw06]
  constructor
  · rintro ⟨⟨h1, h2⟩, h3, h4, h5⟩
    exact ⟨h2, h1, h3, by omega, h5⟩
  · intro h
    exact ⟨⟨h.up, h.pw⟩, h.len, by rw [h.tab], h.bit⟩
theorem VR.row {m : Nat} {r : RuleT} (h : VR m r) (hm : m ≤ 8) : RowOk r := by
  have l4 := h.len
  have p2 : 2 ^ r.1.length ≤ 2 ^ 4 := Nat.pow_le_pow_right (by omega) l4
  exact ⟨fun e he => by have := h.up e he; omega, h.bit, by omega, by rw [h.tab]; omega⟩
theorem vals_words : ∀ {es : List (List Nat)}, es.all isW = true → es = (vals es.flatten).map fun e => [dg e]
  | [], _ => rfl
  | w :: es, h => by
    rw [List.all_cons, Bool.and_eq_true] at h
    obtain ⟨j, hj, rfl⟩ := isW_of h.1
    have ih := vals_words h.2
    have e : (vals ([48 + j] :: es).flatten) = ((48 + j - 48 : Nat) : Int) :: vals es.flatten := rfl
    rw [e, List.map_cons, ← ih]
    have : dg ((48 + j - 48 : Nat) : Int) = 48 + j := by unfold dg; rw [Int.toNat_natCast]; omega
    rw [this]
theorem ints_words {xs : List Int} (h : ∀ e ∈ xs, 0 ≤ e ∧ e < 8) : (xs.map fun e => [dg e]).all isW = true ∧ vals (xs.map fun e => [dg e]).flatten = xs := by
  induction xs with
  | nil => exact ⟨rfl, rfl⟩
  | cons x xs ih =>
    have hx := h x (by simp)
    obtain ⟨i1, i2⟩ := ih fun e he => h e (by simp [he])
    constructor
    · rw [List.map_cons, List.all_cons, i1, Bool.and_true]
      show (true && decide (48 ≤ dg x ∧ dg x < 48 + 8)) = true
      rw [Bool.true_and, decide_eq_true_eq]
      unfold dg
      omega
    · have e : vals ((x :: xs).map fun e => [dg e]).flatten = ((dg x - 48 : Nat) : Int) :: vals (xs.map fun e => [dg e]).flatten := rfl
      rw [e, i2]
      have : ((dg x - 48 : Nat) : Int) = x := by unfold dg; omega
      rw [this]
theorem ints_bits {xs : List Int} (h : ∀ e ∈ xs, 0 ≤ e ∧ e < 2) : (xs.map dg).all (isF 2) = true ∧ vals (xs.map dg) = xs := by
  constructor
  · rw [List.all_map, List.all_eq_true]
    intro x hx
    have := h x hx
    show decide (48 ≤ dg x ∧ dg x < 48 + 2) = true
    rw [decide_eq_true_eq]
    unfold dg
    omega
  · unfold vals
    rw [List.map_map]
    have : ∀ x ∈ xs, ((fun c => ((c - 48 : Nat) : Int)) ∘ dg) x = x := fun x hx => by
      have := h x hx
      show ((48 + x.toNat - 48 : Nat) : Int) = x
      omega
    rw [List.map_congr_left this, List.map_id']
theorem lt_words {x y : Int} (hx : 0 ≤ x ∧ x < 8) (hy : 0 ≤ y ∧ y < 8) : ltStr (tx [dg x]) (tx [dg y]) = decide (x < y) := by
  have e : ltStr (tx [dg x]) (tx [dg y]) = ltCps [dg x] [dg y] := rfl
  rw [e, Bool.eq_iff_iff, ltC_cons, decide_eq_true_eq]
  unfold dg
  constructor
  · rintro (h | ⟨_, h⟩)
    · omega
    · cases h
  · intro h
    exact .inl (by omega)
theorem srt_iff {xs : List Int} (h : ∀ e ∈ xs, 0 ≤ e ∧ e < 8) : srt (xs.map fun e => [dg e]) = (xs.map fun e => [dg e]) ↔ xs.Pairwise (· < ·) := by
  have eX : (xs.map fun e => [dg e]).map tx = xs.map fun e => tx [dg e] := by rw [List.map_map]; rfl
  have key : srt (xs.map fun e => [dg e]) = (xs.map fun e => [dg e]) ↔ setS (xs.map fun e => tx [dg e]) = xs.map fun e => tx [dg e] := by
    unfold srt
    rw [eX]
    constructor
    · intro h
      have := congrArg (List.map tx) h
      rw [List.map_map, eX] at this
      refine Eq.trans ?_ this
      exact (List.map_id' _).symm.trans (List.map_congr_left fun s _ => rfl)
    · intro h
      rw [h, List.map_map]
      rfl
  rw [key]
  constructor
  · intro e
    have nd : (xs.map fun e => tx [dg e]).Nodup := by rw [← e]; exact setS_nodup
    have pw : (xs.map fun e => tx [dg e]).Pairwise fun a b => ltStr b a = false := by
      have := setS_pw (xs := xs.map fun e => tx [dg e])
      rw [e] at this
      exact this
    rw [List.pairwise_map] at pw
    have nd : xs.Pairwise fun a b => tx [dg a] ≠ tx [dg b] := List.pairwise_map.mp nd
    refine (pw.and nd).imp_of_mem fun {a b} ha hb ⟨h1, h2⟩ => ?_
    rw [lt_words (h b hb) (h a ha), decide_eq_false_iff_not] at h1
    have h3 : a ≠ b := fun z => h2 (by rw [z])
    omega
  · intro pw
    refine (setS_of ?_ (fun _ => Iff.rfl) ?_).symm
    · refine List.pairwise_map.mpr (pw.imp_of_mem fun {a b} ha hb hlt z => ?_)
      have := tx_inj.mp z
      have := List.cons.inj this
      unfold dg at this
      have h1 := h a ha
      have h2 := h b hb
      omega
    · refine List.pairwise_map.mpr (pw.imp_of_mem fun {a b} ha hb hlt => ?_)
      rw [lt_words (h b hb) (h a ha), decide_eq_false_iff_not]
      omega
theorem row_words {n : Nat} {r : RuleT} : rowT n r = TL.joinL [32] ([48 + n, 58] :: ((r.1.map fun e => [dg e]) ++ [[62], r.2.map dg])) := by
  have e : ((r.1.map fun e => [dg e]) ++ [[62], r.2.map dg]) = ((r.1.map fun e => [dg e]) ++ [[62]]) ++ [r.2.map dg] := by simp
  rw [e, joinL_ends, List.map_append, List.map_map]
  unfold rowT
  have fs : (r.2.map fun e => [dg e]).flatten = r.2.map dg := by
    induction r.2 with
    | nil => rfl
    | cons x xs ih => rw [List.map_cons, List.flatten_cons, ih]; rfl
  rw [fs]
  simp
  rfl
/-- what a row gives -/
def acc (n m : Nat) (p : List Nat) : Option RuleT := match TL.spl [32] 0 [] p with
  | w0 :: W => (match W.reverse with
    | b :: g :: es => if okW n m w0 g b es.reverse = true then some (vals es.reverse.flatten, vals b) else none
    | _ => none)
  | _ => none
theorem acc_eq {n m : Nat} {p w0 g b : List Nat} {es : List (List Nat)} (e : TL.spl [32] 0 [] p = w0 :: (es ++ [g, b])) : acc n m p = if okW n m w0 g b es = true then some (vals es.flatten, vals b) else none := by
  unfold acc
  rw [e]
  simp
theorem acc_short {n m : Nat} {p : List Nat} (h : (TL.spl [32] 0 [] p).length < 3) : acc n m p = none := by
  unfold acc
  cases e : TL.spl [32] 0 [] p with
  | nil => rfl
  | cons w0 W =>
    rw [e, List.length_cons] at h
    dsimp only
    cases e2 : W.reverse with
    | nil => rfl
    | cons b V =>
      cases V with
      | nil => rfl
      | cons g es =>
        have := congrArg List.length e2
        rw [List.length_reverse] at this
        simp at this
        omega
theorem three {W : List (List Nat)} (h : ¬ W.length < 3) : ∃ w0 es g b, W = w0 :: (es ++ [g, b]) := by
  cases W with
  | nil => simp at h
  | cons w0 V =>
    rw [List.length_cons] at h
    cases e2 : V.reverse with
    | nil => rw [List.reverse_eq_nil_iff] at e2; subst e2; simp at h
    | cons b U =>
      cases U with
      | nil =>
        have := congrArg List.length e2
        rw [List.length_reverse] at this
        simp at this
        omega
      | cons g es =>
        refine ⟨w0, es.reverse, g, b, ?_⟩
        have := congrArg List.reverse e2
        rw [List.reverse_reverse] at this
        rw [this]
        simp
theorem acc_iff {n m : Nat} {p : List Nat} {r : RuleT} (hn : n < 10) (hm : m ≤ 8) : acc n m p = some r ↔ VR m r ∧ p = rowT n r := by
  constructor
  · intro h
    by_cases h3 : (TL.spl [32] 0 [] p).length < 3
    · rw [acc_short h3] at h; cases h
    · obtain ⟨w0, es, g, b, e⟩ := three h3
      rw [acc_eq e] at h
      split at h
      · rename_i c
        cases h
        unfold okW at c
        simp only [Bool.and_eq_true, decide_eq_true_eq] at c
        obtain ⟨c1, c2, c3, c4, c5, c6, c7, c8⟩ := c
        have ew := vals_words c4
        have eb := vals_dg c8
        have v8 : ∀ e ∈ vals es.flatten, 0 ≤ e ∧ e < 8 := by
          have : es.flatten.all (isF 8) = true := by
            rw [List.all_eq_true]
            intro c hc
            obtain ⟨w, hw, hcw⟩ := List.mem_flatten.mp hc
            obtain ⟨j, hj, rfl⟩ := isW_of (List.all_eq_true.mp c4 w hw)
            rw [List.mem_singleton.mp hcw]
            show decide _ = true
            rw [decide_eq_true_eq]
            omega
          have := vals_bd this
          exact fun e he => by have := this e he; omega
        have le : (vals es.flatten).length = es.length := by
          have := congrArg List.length ew
          rw [List.length_map] at this
          exact this.symm
        refine ⟨⟨?_, fun e he => ⟨(v8 e he).1, ?_⟩, by show (vals es.flatten).length ≤ 4; omega, ?_, vals_bd c8⟩, ?_⟩
        · rw [ew] at c5
          have : srt ((vals es.flatten).map fun e => [dg e]) = ((vals es.flatten).map fun e => [dg e]) := by
            rw [← ew]
            rw [← ew] at c5
            exact c5
          exact (srt_iff v8).mp this
        · have hmem : ([dg e] : List Nat) ∈ es := by rw [ew]; exact List.mem_map.mpr ⟨e, he, rfl⟩
          have := List.all_eq_true.mp c6 _ hmem
          rw [decide_eq_true_eq] at this
          have this : dg e - 48 < m := this
          have h8 := v8 e he
          unfold dg at this
          omega
        · show (vals b).length = 2 ^ (vals es.flatten).length
          rw [le]
          unfold vals
          rw [List.length_map]
          exact c7
        · have j := sp_join (s := 32) (x := p) (acc := [])
          rw [e, c1, c2, List.nil_append] at j
          rw [row_words]
          show p = TL.joinL [32] ([48 + n, 58] :: (((vals es.flatten).map fun e => [dg e]) ++ [[62], (vals b).map dg]))
          rw [← ew, eb]
          exact j.symm
      · cases h
  · rintro ⟨v, e⟩
    have v8 : ∀ e ∈ r.1, 0 ≤ e ∧ e < 8 := fun e he => by have := v.up e he; omega
    obtain ⟨i1, i2⟩ := ints_words v8
    obtain ⟨b1, b2⟩ := ints_bits v.bit
    have sp : TL.spl [32] 0 [] p = [48 + n, 58] :: ((r.1.map fun e => [dg e]) ++ [[62], r.2.map dg]) := by
      rw [e, row_words]
      refine SX.spl_join (by simp) fun q hq hc => ?_
      rcases List.mem_cons.mp hq with rfl | hq
      · simp at hc
        omega
      · rcases List.mem_append.mp hq with hq | hq
        · obtain ⟨x, hx, rfl⟩ := List.mem_map.mp hq
          have := List.mem_singleton.mp hc
          unfold dg at this
          omega
        · simp only [List.mem_cons, List.not_mem_nil, or_false] at hq
          rcases hq with rfl | rfl
          · simp at hc
          · obtain ⟨x, hx, h2⟩ := List.mem_map.mp hc
            unfold dg at h2
            omega
    rw [acc_eq sp, i2, b2, if_pos]
    unfold okW
    simp only [Bool.and_eq_true, decide_eq_true_eq]
    refine ⟨trivial, trivial, by rw [List.length_map]; exact v.len, i1, (srt_iff v8).mpr v.pw, ?_, by rw [List.length_map, List.length_map]; exact v.tab, b1⟩
    rw [List.all_map, List.all_eq_true]
    intro x hx
    have := v.up x hx
    show decide (dg x - 48 < m) = true
    rw [decide_eq_true_eq]
    unfold dg
    omega
/-- the law's reader of a row -/
theorem law_rule_in_ok {n m : Nat} {p : List Nat} (hn : n < 10) (hp : p.length ≤ 1000) (sg : SgOk p) : C.g__law_rule_in [dt p, .int n, .int m] = .ok (.fr (match acc n m p with | some r => dRule r | none => .non)) := by
  by_cases h3 : (TL.spl [32] 0 [] p).length < 3
  · rw [acc_short h3, law_rule_in_short hn hp h3]
  · obtain ⟨w0, es, g, b, e⟩ := three h3
    rw [law_rule_in_eval hn hp sg e, acc_eq e]
    split <;> rfl
end H

set_option Elab.async false
set_option linter.all false
set_option maxRecDepth 100000
set_option maxHeartbeats 4000000
namespace H
open PySem PySem.Spec PyProof.Rows L2 Y
theorem for_er06 {tm : GM} {body : SM} {vs ws : List Nat} {x : D} {xs : List D} {ρ : Y.Env} {c : Str} {ds : List D} (h : turnF tm body vs x ρ = .er c ds) : forL tm body vs ws (x :: xs) ρ = .er c ds := by
  unfold turnF at h
  unfold forL
  cases e1 : tm x ρ with
  | stk => rw [e1] at h; cases h
  | er c2 d2 => rw [e1] at h; cases h
  | ok ρ1 =>
    rw [e1] at h
    have h : (body ρ1 >>= fun p => match p.1 with | .nx => R.ok (.nx, wipeE p.2 vs) | .ct => R.ok (.nx, wipeE p.2 vs) | f => R.ok (f, p.2)) = R.er c ds := h
    cases e2 : body ρ1 with
    | stk => rw [e2] at h; cases h
    | er c2 d2 =>
      rw [e2] at h
      have h : R.er c2 d2 = R.er c ds := h
      simp [e2, h]
    | ok p =>
      rw [e2] at h
      obtain ⟨f, ρ2⟩ := p
      cases f <;> cases h
/-- the first wrong row, or the rules -/
def runA (m : Nat) : Nat → List (List Nat) → List RuleT → Nat ⊕ List RuleT
  | _, [], rs => .inr rs
  | n, p :: ps, rs => if n = 8 then .inl n else match acc n m p with
    | none => .inl n
    | some r => runA m (n + 1) ps (rs ++ [r])
def rowF (p : Nat × List Nat) : D := .tup [.int (p.1 : Nat), dt p.2]
def numP (n : Nat) (ps : List (List Nat)) : List (Nat × List Nat) := (List.range' n ps.length).zip ps
theorem numP_cons {n : Nat} {p : List Nat} {ps : List (List Nat)} : numP n (p :: ps) = (n, p) :: numP (n + 1) ps := rfl
def ShOk (p : List Nat) : Prop := p.length ≤ 1000 ∧ SgOk p
section
variable {m : Nat} {a0 a1 : Option D}
theorem turn_ok {n : Nat} {p : List Nat} {rs : List RuleT} {o4 o5 o6 : Option D} (hn : n < 8) (hm : m ≤ 8) (hr : rs.length ≤ 100) {r : RuleT} (h : acc n m p = some r) :
    turnF (tmTup [4, 5]) C.b_read_net_2_1 [4, 5, 6] (rowF (n, p)) [a0, a1, some (.int m), some (.tup (rs.map dRule)), o4, o5, o6] = .ok (.nx, [a0, a1, some (.int m), some (.tup ((rs ++ [r]).map dRule)), none, none, none]) := by
  obtain ⟨v, rfl⟩ := (acc_iff (by omega) hm).mp h
  have ro := v.row hm
  have ri := rule_in_ok (k := n) (by omega) ro
  have rw_ := row_of_ok (k := n) (by omega) ro
  have sg : SgOk (rowT n r) := fun c hc => by have := (row_small (by omega) ro c hc).1; omega
  have nq := ne_dt sg sg
  rw [decide_eq_true rfl] at nq
  have ra := rule_any (d := dRule r) (m := (m : Nat)) (nd_rule (by have := ro.le; omega) (by have := ro.lb; omega))
  rw [vr_iff.mpr v] at ra
  have z : szOk ((rs.map dRule).length + 1) = true := szOk_of (by rw [List.length_map]; omega)
  have n8 : ¬ ((n : Int) = 8) := by omega
  have isn : Y.isNon (dRule r) = false := rfl
  rw [List.map_append, List.map_singleton]
  unfold rowF
  simp only [turnF, C.b_read_net_2_1]
  generalize dRule r = DR at *
  generalize rs.map dRule = A at *
  generalize dt (rowT n r) = ROW at *
  simp [ri, n8, isn, ra, rw_, nq, z]
theorem turn_bad {n : Nat} {p : List Nat} {rs : List RuleT} {o4 o5 o6 : Option D} (hn : n < 8) (hm : m ≤ 8) (hp : ShOk p) (h : acc n m p = none) :
    turnF (tmTup [4, 5]) C.b_read_net_2_1 [4, 5, 6] (rowF (n, p)) [a0, a1, some (.int m), some (.tup (rs.map dRule)), o4, o5, o6] = .er "NoText" [.int (n : Nat)] := by
  obtain ⟨o, ri, ro⟩ := rule_in_any hp.1
  have n8 : ¬ ((n : Int) = 8) := by omega
  unfold rowF
  cases o with
  | none =>
    have in0 : Y.isNon D.non = true := rfl
    simp only [turnF, C.b_read_net_2_1]
    generalize rs.map dRule = A at *
    generalize dt p = ROW at *
    simp [ri, n8, in0]
  | some r =>
    have isn : Y.isNon (dRule r) = false := rfl
    obtain ⟨l1, l2⟩ := ro r rfl
    have ra := rule_any (d := dRule r) (m := (m : Nat)) (nd_rule l1 l2)
    have ri : C.g_rule_in [dt p] = .ok (.fr (dRule r)) := ri
    cases hB : ruleB m (dRule r) with
    | false =>
      rw [hB] at ra
      simp only [turnF, C.b_read_net_2_1]
      generalize dRule r = DR at *
      generalize rs.map dRule = A at *
      generalize dt p = ROW at *
      simp [ri, n8, isn, ra]
    | true =>
      rw [hB] at ra
      have v := vr_iff.mp hB
      have rk := v.row hm
      have rw_ := row_of_ok (k := n) (by omega) rk
      have sg : SgOk (rowT n r) := fun c hc => by have := (row_small (by omega) rk c hc).1; omega
      have nq := ne_dt sg hp.2
      have ne : ¬ rowT n r = p := fun z => by
        have := (acc_iff (p := p) (by omega) hm).mpr ⟨v, z.symm⟩
        rw [h] at this
        cases this
      rw [decide_eq_false ne] at nq
      simp only [turnF, C.b_read_net_2_1]
      generalize dRule r = DR at *
      generalize rs.map dRule = A at *
      generalize dt (rowT n r) = ROW at *
      generalize dt p = PD at *
      simp [ri, n8, isn, ra, rw_, nq]
theorem turn_eight {p : List Nat} {rs : List RuleT} {o4 o5 o6 : Option D} (hp : ShOk p) :
    turnF (tmTup [4, 5]) C.b_read_net_2_1 [4, 5, 6] (rowF (8, p)) [a0, a1, some (.int m), some (.tup (rs.map dRule)), o4, o5, o6] = .er "NoText" [.int ((8 : Nat) : Int)] := by
  obtain ⟨o, ri, ro⟩ := rule_in_any hp.1
  unfold rowF
  simp only [turnF, C.b_read_net_2_1]
  cases o with
  | none =>
    generalize rs.map dRule = A at *
    generalize dt p = ROW at *
    simp [ri]
  | some r =>
    generalize dRule r = DR at *
    generalize rs.map dRule = A at *
    generalize dt p = ROW at *
    simp [ri]
theorem read_loop (hm : m ≤ 8) : ∀ (ps : List (List Nat)) (n : Nat) (rs : List RuleT) (o4 o5 o6 : Option D), n ≤ 8 → rs.length ≤ n → (∀ p ∈ ps, ShOk p) →
    match runA m n ps rs with
    | .inl k => forL (tmTup [4, 5]) C.b_read_net_2_1 [4, 5, 6] [] ((numP n ps).map rowF) [a0, a1, some (.int m), some (.tup (rs.map dRule)), o4, o5, o6] = .er "NoText" [.int (k : Nat)]
    | .inr out => ∃ o4' o5' o6', forL (tmTup [4, 5]) C.b_read_net_2_1 [4, 5, 6] [] ((numP n ps).map rowF) [a0, a1, some (.int m), some (.tup (rs.map dRule)), o4, o5, o6] = .ok (.nx, [a0, a1, some (.int m), some (.tup (out.map dRule)), o4', o5', o6'])
  | [], n, rs, o4, o5, o6, _, _, _ => ⟨o4, o5, o6, rfl⟩
  | p :: ps, n, rs, o4, o5, o6, hn, hr, hp => by
    rw [numP_cons, List.map_cons]
    unfold runA
    by_cases h8 : n = 8
    · subst h8
      rw [if_pos rfl]
      exact for_er06 (turn_eight (hp p (by simp)))
    · rw [if_neg h8]
      cases ha : acc n m p with
      | none => exact for_er06 (turn_bad (by omega) hm (hp p (by simp)) ha)
      | some r =>
        have t := turn_ok (a0 := a0) (a1 := a1) (o4 := o4) (o5 := o5) (o6 := o6) (p := p) (by omega : n < 8) hm (by omega : rs.length ≤ 100) ha
        have ih := read_loop hm ps (n + 1) (rs ++ [r]) none none none (by omega) (by rw [List.length_append, List.length_singleton]; omega) fun q hq => hp q (by simp [hq])
        dsimp only
        cases e : runA m (n + 1) ps (rs ++ [r]) with
        | inl k =>
          rw [e] at ih
          exact for_cons t (fun w hw => by cases hw) ih
        | inr out =>
          rw [e] at ih
          obtain ⟨x4, x5, x6, ih⟩ := ih
          exact ⟨x4, x5, x6, for_cons t (fun w hw => by cases hw) ih⟩
end
end H

set_option Elab.async false
set_option linter.all false
set_option maxRecDepth 100000
set_option maxHeartbeats 4000000
namespace H
open PySem PySem.Spec PyProof.Rows L2 Y
def rowsX (x : List Nat) : List (List Nat) := TL.spl [10] 0 [] x
def mX (x : List Nat) : Nat := min (rowsX x).length 8
def outD : Nat ⊕ List RuleT → D
  | .inl k => .tup [.str "text", .int (k : Nat)]
  | .inr rs => .tup [.str "net", .tup (rs.map dRule)]
def TxOk (x : List Nat) : Prop := x.length ≤ 1000 ∧ SgOk x
theorem rows_sh {x : List Nat} (h : TxOk x) : (∀ p ∈ rowsX x, ShOk p) ∧ (rowsX x).length ≤ 1001 := by
  have s := sp_sum (s := 10) (x := x) (acc := [])
  have hl := h.1
  have s : ((rowsX x).map List.length).sum ≤ 0 + x.length ∧ (rowsX x).length ≤ x.length + 1 := s
  refine ⟨fun p hp => ⟨?_, fun c hc => ?_⟩, by omega⟩
  · have : p.length ≤ ((rowsX x).map List.length).sum := le_sum06 (List.mem_map.mpr ⟨p, hp, rfl⟩)
    omega
  · rcases sp_mem hp c hc with z | z
    · cases z
    · exact h.2 c z
theorem num_P {ps : List (List Nat)} : numD (ps.map dt) = (numP 0 ps).map rowF := by
  rw [numD_map, List.range_eq_range']
  rfl
theorem numP_len {n : Nat} {ps : List (List Nat)} : (numP n ps).length = ps.length := by unfold numP; rw [List.length_zip, List.length_range', Nat.min_self]
theorem read_any {x : List Nat} (h : TxOk x) : C.g_read_net_2 [dt x] = match runA (mX x) 0 (rowsX x) [] with
    | .inl k => .er "NoText" [.int (k : Nat)]
    | .inr out => .ok (.vl (.tup (out.map dRule))) := by
  obtain ⟨sh, lr⟩ := rows_sh h
  have hl := h.1
  have sp := split_dt (sep := [10]) (x := x) (by simp) (by decide) (by omega)
  have sp : splitD (.str (tx x)) (.str (tx [10])) = .ok (.lst ((rowsX x).map dt)) := sp
  have lp := read_loop (m := mX x) (a0 := some (.str (tx x))) (a1 := some (.lst ((rowsX x).map dt))) (by unfold mX; omega) (rowsX x) 0 [] none none none (by omega) (by simp) sh
  rw [← num_P] at lp
  have lR : lenD [.lst ((rowsX x).map dt)] = .ok (.int (rowsX x).length) := by rw [d_lenL, List.length_map]
  have mn : min ((rowsX x).length : Int) 8 = ((mX x : Nat) : Int) := by unfold mX; omega
  have it : itD (.lst ((rowsX x).map dt)) = .ok ((rowsX x).map dt) := rfl
  have zR : szOk ((rowsX x).map dt).length = true := szOk_of (by rw [List.length_map]; omega)
  have zN : szOk (numD ((rowsX x).map dt)).length = true := by rw [num_P, List.length_map, numP_len]; exact szOk_of (by omega)
  show C.g_read_net_2 [.str (tx x)] = _
  simp only [C.g_read_net_2, C.m_read_net_2, s_nl]
  generalize (rowsX x).length = RL at *
  cases e : runA (mX x) 0 (rowsX x) [] with
  | inl k =>
    rw [e] at lp
    have lp : forL (tmTup [4, 5]) C.b_read_net_2_1 [4, 5, 6] [] (numD ((rowsX x).map dt)) [some (.str (tx x)), some (.lst ((rowsX x).map dt)), some (.int (mX x : Nat)), some (.tup []), none, none, none] = .er "NoText" [.int (k : Nat)] := lp
    clear e
    generalize (rowsX x).map dt = RD at *
    generalize mX x = M at *
    generalize C.b_read_net_2_1 = B1 at *
    generalize tx x = TX at *
    simp [e_fnP, noDit, Y.isStr, sp, lR, mn, it, zR, zN, lp, -d_lenL]
  | inr out =>
    rw [e] at lp
    obtain ⟨x4, x5, x6, lp⟩ := lp
    have lp : forL (tmTup [4, 5]) C.b_read_net_2_1 [4, 5, 6] [] (numD ((rowsX x).map dt)) [some (.str (tx x)), some (.lst ((rowsX x).map dt)), some (.int (mX x : Nat)), some (.tup []), none, none, none] = .ok (.nx, [some (.str (tx x)), some (.lst ((rowsX x).map dt)), some (.int (mX x : Nat)), some (.tup (out.map dRule)), x4, x5, x6]) := lp
    clear e
    generalize (rowsX x).map dt = RD at *
    generalize mX x = M at *
    generalize C.b_read_net_2_1 = B1 at *
    generalize tx x = TX at *
    dsimp only
    obtain ⟨OD, hOD⟩ : ∃ OD, out.map dRule = OD := ⟨_, rfl⟩
    rw [hOD] at lp ⊢
    simp [e_fnP, noDit, Y.isStr, sp, lR, mn, it, zR, zN, lp, -d_lenL]
theorem said_any {x : List Nat} (h : TxOk x) : C.g__law_said_10 [dt x] = .ok (.fr (outD (runA (mX x) 0 (rowsX x) []))) := by
  have r := read_any h
  simp only [C.g__law_said_10, C.m__law_said_10]
  cases e : runA (mX x) 0 (rowsX x) [] with
  | inl k =>
    rw [e] at r
    simp [e_fnP, r, outD]
  | inr out =>
    rw [e] at r
    simp [e_fnP, r, outD]
/-- of what is no text 0 -/
theorem said_odd {d : D} (h : noDit d = true) (h2 : Y.isStr d = false) : C.g__law_said_10 [d] = .ok (.fr (outD (.inl 0))) := by
  have r : C.g_read_net_2 [d] = .er "NoText" [.int 0] := by
    simp only [C.g_read_net_2, C.m_read_net_2]
    simp [e_fnP, h, h2]
  simp only [C.g__law_said_10, C.m__law_said_10]
  simp [e_fnP, r, outD]
section
variable {m : Nat} {a0 : Option D} {RD : List D}
theorem due_ok {n : Nat} {p : List Nat} {rs : List RuleT} {o3 o4 o5 : Option D} (hn : n < 8) (hL : (RD.length : Int) = (m : Nat) ∨ (8 : Int) ≤ RD.length ∧ m = 8) (h8 : m ≤ 8) (hp : ShOk p) (hr : rs.length ≤ 100) {r : RuleT} (h : acc n m p = some r) :
    turnF (tmTup [3, 4]) C.b__law_due_14_1 [3, 4, 5] (rowF (n, p)) [a0, some (.lst RD), some (.lst (rs.map dRule)), o3, o4, o5] = .ok (.nx, [a0, some (.lst RD), some (.lst ((rs ++ [r]).map dRule)), none, none, none]) := by
  have ln := law_rule_in_ok (n := n) (m := m) (by omega) hp.1 hp.2
  rw [h] at ln
  have mn : min (8 : Int) RD.length = (m : Nat) := by omega
  have z : szOk ((rs.map dRule).length + 1) = true := szOk_of (by rw [List.length_map]; omega)
  have n8 : ¬ ((n : Int) = 8) := by omega
  have isn : Y.isNon (dRule r) = false := rfl
  rw [List.map_append, List.map_singleton]
  unfold rowF
  simp only [turnF, C.b__law_due_14_1]
  dsimp only at ln
  generalize dRule r = DR at *
  generalize rs.map dRule = A at *
  generalize dt p = ROW at *
  simp [ln, mn, n8, isn, z]
theorem due_bad {n : Nat} {p : List Nat} {rs : List RuleT} {o3 o4 o5 : Option D} (hn : n ≤ 8) (hL : (RD.length : Int) = (m : Nat) ∨ (8 : Int) ≤ RD.length ∧ m = 8) (h8 : m ≤ 8) (hp : ShOk p) (h : acc n m p = none ∨ n = 8) :
    ∃ ρ', turnF (tmTup [3, 4]) C.b__law_due_14_1 [3, 4, 5] (rowF (n, p)) [a0, some (.lst RD), some (.lst (rs.map dRule)), o3, o4, o5] = .ok (.rt (.fr (outD (.inl n))), ρ') := by
  have ln := law_rule_in_ok (n := n) (m := m) (by omega) hp.1 hp.2
  have mn : min (8 : Int) RD.length = (m : Nat) := by omega
  have in0 : Y.isNon D.non = true := rfl
  unfold rowF outD
  simp only [turnF, C.b__law_due_14_1]
  cases ha : acc n m p with
  | none =>
    rw [ha] at ln
    dsimp only at ln
    generalize rs.map dRule = A at *
    generalize dt p = ROW at *
    simp [ln, mn, in0]
  | some r =>
    rw [ha] at h
    have hn8 : n = 8 := h.resolve_left (by simp)
    subst hn8
    rw [ha] at ln
    dsimp only at ln
    have isn : Y.isNon (dRule r) = false := rfl
    have ln : C.g__law_rule_in [dt p, .int 8, .int m] = .ok (.fr (dRule r)) := ln
    generalize dRule r = DR at *
    generalize rs.map dRule = A at *
    generalize dt p = ROW at *
    simp [ln, mn, isn]
theorem due_loop (hL : (RD.length : Int) = (m : Nat) ∨ (8 : Int) ≤ RD.length ∧ m = 8) (h8 : m ≤ 8) : ∀ (ps : List (List Nat)) (n : Nat) (rs : List RuleT) (o3 o4 o5 : Option D), n ≤ 8 → rs.length ≤ n → (∀ p ∈ ps, ShOk p) →
    match runA m n ps rs with
    | .inl k => ∃ ρ', forL (tmTup [3, 4]) C.b__law_due_14_1 [3, 4, 5] [] ((numP n ps).map rowF) [a0, some (.lst RD), some (.lst (rs.map dRule)), o3, o4, o5] = .ok (.rt (.fr (outD (.inl k))), ρ')
    | .inr out => ∃ o3' o4' o5', forL (tmTup [3, 4]) C.b__law_due_14_1 [3, 4, 5] [] ((numP n ps).map rowF) [a0, some (.lst RD), some (.lst (rs.map dRule)), o3, o4, o5] = .ok (.nx, [a0, some (.lst RD), some (.lst (out.map dRule)), o3', o4', o5']) ∧ out.length ≤ 8
  | [], n, rs, o3, o4, o5, hn, hr, _ => ⟨o3, o4, o5, rfl, by omega⟩
  | p :: ps, n, rs, o3, o4, o5, hn, hr, hp => by
    rw [numP_cons, List.map_cons]
    unfold runA
    by_cases h : n = 8
    · rw [if_pos h]
      obtain ⟨ρ', e⟩ := due_bad (a0 := a0) (o3 := o3) (o4 := o4) (o5 := o5) (rs := rs) hn hL h8 (hp p (by simp)) (.inr h)
      exact ⟨ρ', for_rt e⟩
    · rw [if_neg h]
      cases ha : acc n m p with
      | none =>
        obtain ⟨ρ', e⟩ := due_bad (a0 := a0) (o3 := o3) (o4 := o4) (o5 := o5) (rs := rs) hn hL h8 (hp p (by simp)) (.inl ha)
        exact ⟨ρ', for_rt e⟩
      | some r =>
        have t := due_ok (a0 := a0) (o3 := o3) (o4 := o4) (o5 := o5) (p := p) (by omega : n < 8) hL h8 (hp p (by simp)) (by omega : rs.length ≤ 100) ha
        have ih := due_loop hL h8 ps (n + 1) (rs ++ [r]) none none none (by omega) (by rw [List.length_append, List.length_singleton]; omega) fun q hq => hp q (by simp [hq])
        dsimp only
        cases e : runA m (n + 1) ps (rs ++ [r]) with
        | inl k =>
          rw [e] at ih
          obtain ⟨ρ', ih⟩ := ih
          exact ⟨ρ', for_cons t (fun w hw => by cases hw) ih⟩
        | inr out =>
          rw [e] at ih
          obtain ⟨x4, x5, x6, ih, lo⟩ := ih
          exact ⟨x4, x5, x6, for_cons t (fun w hw => by cases hw) ih, lo⟩
end
theorem due_any {x : List Nat} (h : TxOk x) : C.g__law_due_14 [dt x] = .ok (.fr (outD (runA (mX x) 0 (rowsX x) []))) := by
  obtain ⟨sh, lr⟩ := rows_sh h
  have hl := h.1
  have sp := split_dt (sep := [10]) (x := x) (by simp) (by decide) (by omega)
  have sp : splitD (.str (tx x)) (.str (tx [10])) = .ok (.lst ((rowsX x).map dt)) := sp
  have lp := due_loop (m := mX x) (a0 := some (.str (tx x))) (RD := (rowsX x).map dt) (by rw [List.length_map]; unfold mX; omega) (by unfold mX; omega) (rowsX x) 0 [] none none none (by omega) (by simp) sh
  rw [← num_P] at lp
  have it : itD (.lst ((rowsX x).map dt)) = .ok ((rowsX x).map dt) := rfl
  have zR : szOk ((rowsX x).map dt).length = true := szOk_of (by rw [List.length_map]; omega)
  have zN : szOk (numD ((rowsX x).map dt)).length = true := by rw [num_P, List.length_map, numP_len]; exact szOk_of (by omega)
  show C.g__law_due_14 [.str (tx x)] = _
  simp only [C.g__law_due_14, C.m__law_due_14, s_nl]
  cases e : runA (mX x) 0 (rowsX x) [] with
  | inl k =>
    rw [e] at lp
    obtain ⟨ρ', lp⟩ := lp
    have lp : forL (tmTup [3, 4]) C.b__law_due_14_1 [3, 4, 5] [] (numD ((rowsX x).map dt)) [some (.str (tx x)), some (.lst ((rowsX x).map dt)), some (.lst []), none, none, none] = .ok (.rt (.fr (outD (.inl k))), ρ') := lp
    clear e
    generalize (rowsX x).map dt = RD at *
    generalize C.b__law_due_14_1 = B1 at *
    generalize tx x = TX at *
    generalize outD (.inl k) = OD at *
    simp [e_fnP, noDit, Y.isStr, sp, it, zR, zN, lp, shAt, chkO_ws]
  | inr out =>
    rw [e] at lp
    obtain ⟨x4, x5, x6, lp, lo⟩ := lp
    have lp : forL (tmTup [3, 4]) C.b__law_due_14_1 [3, 4, 5] [] (numD ((rowsX x).map dt)) [some (.str (tx x)), some (.lst ((rowsX x).map dt)), some (.lst []), none, none, none] = .ok (.nx, [some (.str (tx x)), some (.lst ((rowsX x).map dt)), some (.lst (out.map dRule)), x4, x5, x6]) := lp
    clear e
    have tD : tupleD [.lst (out.map dRule)] = .ok (.tup (out.map dRule)) := rfl
    unfold outD
    generalize (rowsX x).map dt = RD at *
    generalize C.b__law_due_14_1 = B1 at *
    generalize tx x = TX at *
    dsimp only
    obtain ⟨OD, hOD⟩ : ∃ OD, out.map dRule = OD := ⟨_, rfl⟩
    rw [hOD] at lp tD ⊢
    simp [e_fnP, noDit, Y.isStr, sp, it, zR, zN, lp, shAt, chkO_ws, tD]
end H

set_option Elab.async false
set_option linter.all false
set_option maxRecDepth 100000
set_option maxHeartbeats 8000000
namespace H
open PySem PySem.Spec PyProof.Rows L2 Y
def TD (n : Nat) (d : D) : Prop := ∃ w : List Nat, d = dt w ∧ w.length ≤ n ∧ SgOk w
theorem TD.up {n m : Nat} {d : D} (h : TD n d) (l : n ≤ m) : TD m d := by
  obtain ⟨w, e, a, b⟩ := h
  exact ⟨w, e, by omega, b⟩
theorem TD.add {n m k : Nat} {a b : D} (h : TD n a) (h2 : TD m b) (l : n + m ≤ k) (hk : k ≤ 1000) : ∃ x, addD a b = .ok x ∧ TD k x := by
  obtain ⟨w, rfl, l1, s1⟩ := h
  obtain ⟨v, rfl, l2, s2⟩ := h2
  refine ⟨dt (w ++ v), add_dt (by omega), w ++ v, rfl, by rw [List.length_append]; omega, fun c hc => ?_⟩
  rcases List.mem_append.mp hc with z | z
  · exact s1 c z
  · exact s2 c z
theorem tx_back (s : Str) : D.str s = dt s.cps.toList := by
  obtain ⟨a⟩ := s
  rfl
theorem td_lit {n : Nat} (s : Str) (h : (decide (s.length ≤ n) && s.cps.toList.all (fun c => decide (c < 1114112))) = true := by decide +kernel) : TD n (.str s) := by
  rw [Bool.and_eq_true, decide_eq_true_eq] at h
  refine ⟨s.cps.toList, tx_back s, ?_, fun c hc => of_decide_eq_true (List.all_eq_true.mp h.2 c hc)⟩
  have : s.length = s.cps.toList.length := by
    show s.cps.size = _
    simp
  omega
theorem TD.lo {n : Nat} {d : D} (h : TD n d) (k : Nat) (hn : n ≤ 1000) : ∃ x, sliceD d none (some (k : Int)) = .ok x ∧ TD n x := by
  obtain ⟨w, rfl, l1, s1⟩ := h
  exact ⟨_, slice_lo (by omega), w.take k, rfl, by rw [List.length_take]; omega, fun c hc => s1 c (List.mem_of_mem_take hc)⟩
theorem TD.hi {n : Nat} {d : D} (h : TD n d) (k : Nat) (hn : n ≤ 1000) : ∃ x, sliceD d (some (k : Int)) none = .ok x ∧ TD n x := by
  obtain ⟨w, rfl, l1, s1⟩ := h
  exact ⟨_, slice_up (by omega), w.drop k, rfl, by rw [List.length_drop]; omega, fun c hc => s1 c (List.mem_of_mem_drop hc)⟩
theorem TD.two {n k : Nat} {d : D} (h : TD n d) (hn : n ≤ 1000) : ∃ x y l, sliceD d none (some (k : Int)) = .ok x ∧ sliceD d (some (k : Int)) none = .ok y ∧ lenD [d] = .ok (.int (l : Nat)) ∧ l ≤ n := by
  obtain ⟨w, rfl, l1, s1⟩ := h
  exact ⟨_, _, w.length, slice_lo (by omega), slice_up (by omega), by rw [d_lenS, tx_len, if_pos (szOk_of (by omega))], l1⟩
theorem s_sgs : Str.ofString "01 :>-7a\n,8" = tx [48, 49, 32, 58, 62, 45, 55, 97, 10, 44, 56] := by decide +kernel
theorem sg_ok {i : Int} (h : 0 ≤ i ∧ i < 11) : ∃ SG, ixD (.str (Str.ofString "01 :>-7a\n,8")) (.int i) = .ok SG ∧ TD 1 SG := by
  rw [s_sgs]
  obtain ⟨j, rfl⟩ : ∃ j : Nat, i = j := ⟨i.toNat, by omega⟩
  have hj : j < 11 := by omega
  refine ⟨dt [([48, 49, 32, 58, 62, 45, 55, 97, 10, 44, 56] : List Nat).getD j 0], ix_dt (by simpa using hj) (by simp), _, rfl, by simp, fun c hc => ?_⟩
  rw [List.mem_singleton.mp hc]
  have : (List.range 11).all (fun j => decide (([48, 49, 32, 58, 62, 45, 55, 97, 10, 44, 56] : List Nat).getD j 0 < 1114112)) = true := by decide
  exact of_decide_eq_true (List.all_eq_true.mp this j (List.mem_range.mpr hj))
theorem mul16 : ∃ M, mulD (.str (Str.ofString "01")) (.int 16) = .ok M ∧ TD 32 M := by
  refine ⟨.str (repS 16 (Str.ofString "01")), ?_, td_lit _⟩
  rw [d_mulS, if_pos]
  decide +kernel
section
variable {P : List D} {b : Int}
theorem bent06_ok (hP : 1 ≤ P.length ∧ P.length ≤ 8) (h : ∀ d ∈ P, TD 30 d) : ∃ (ys : List D) (b' : Int), C.g__law_bent_4 [.lst [.int b], .lst P] = .ok (.fr (.lst ys), [some (.lst [.int b']), none]) ∧ ys.length ≤ 17 ∧ ∀ d ∈ ys, TD 50 d := by
  obtain ⟨K, hK⟩ : ∃ K : Nat, P.length = K := ⟨_, rfl⟩
  rw [hK] at hP
  have tk1 := take_ok (n := b) (m := (K : Int)) (by omega) (by omega)
  have pk : 0 ≤ b % (K : Int) ∧ b % (K : Int) < K := ⟨Int.emod_nonneg _ (by omega), Int.emod_lt_of_pos _ (by omega)⟩
  generalize b / (K : Int) = b1 at *
  obtain ⟨k, hk⟩ : ∃ k : Nat, b % (K : Int) = k := ⟨(b % (K : Int)).toNat, by omega⟩
  rw [hk] at tk1 pk
  obtain ⟨ROW, aK, tR⟩ := atI_any (L := P) (i := (k : Nat)) (p := TD 30) (by omega) (by omega) h
  obtain ⟨_, _, L, _, _, lr, hL⟩ := tR.two (k := 0) (by omega)
  have tk2 := take_ok (n := b1) (m := (L : Int) + 1) (by omega) (by omega)
  have pq : 0 ≤ b1 % ((L : Int) + 1) := Int.emod_nonneg _ (by omega)
  generalize b1 / ((L : Int) + 1) = b2 at *
  obtain ⟨q, hq⟩ : ∃ q : Nat, b1 % ((L : Int) + 1) = q := ⟨(b1 % ((L : Int) + 1)).toNat, by omega⟩
  rw [hq] at tk2
  have tk3 := take_ok (n := b2) (m := 11) (by omega) (by omega)
  have p3 : 0 ≤ b2 % 11 ∧ b2 % 11 < 11 := by omega
  obtain ⟨SG, ixS, tS⟩ := sg_ok p3
  generalize b2 / 11 = b3 at *
  generalize b2 % 11 = i at *
  obtain ⟨S1, e1, t1⟩ := tR.lo q (by omega)
  obtain ⟨S2, e2, t2⟩ := tR.hi q (by omega)
  obtain ⟨S3, e3, t3⟩ := tR.hi (q + 1) (by omega)
  rw [show ((q + 1 : Nat) : Int) = (q : Int) + 1 by omega] at e3
  -- the first three (their lengths: the row's own pieces)
  obtain ⟨X1, X2, X3, Y1, y1, x1, x2, x3, T1, T2, T3⟩ : ∃ X1 X2 X3 Y1, addD S1 SG = .ok Y1 ∧ addD Y1 S2 = .ok X1 ∧ addD S1 S3 = .ok X2 ∧ addD Y1 S3 = .ok X3 ∧ TD 50 X1 ∧ TD 50 X2 ∧ TD 50 X3 := by
    obtain ⟨w, rfl, lw, sw⟩ := tR
    obtain ⟨v, rfl, lv, sv⟩ := tS
    rw [slice_lo (by omega)] at e1
    rw [slice_up (by omega)] at e2
    rw [show (q : Int) + 1 = ((q + 1 : Nat) : Int) by omega, slice_up (by omega)] at e3
    cases e1; cases e2; cases e3
    have ql : (w.take q).length + (w.drop q).length = w.length := by rw [List.length_take, List.length_drop]; omega
    have ql2 : (w.drop (q + 1)).length ≤ (w.drop q).length := by rw [List.length_drop, List.length_drop]; omega
    have a1 := add_dt (a := w.take q) (b := v) (by omega)
    have a2 := add_dt (a := w.take q ++ v) (b := w.drop q) (by rw [List.length_append]; omega)
    have a3 := add_dt (a := w.take q) (b := w.drop (q + 1)) (by omega)
    have a4 := add_dt (a := w.take q ++ v) (b := w.drop (q + 1)) (by rw [List.length_append]; omega)
    have st : ∀ c ∈ w.take q, c < 1114112 := fun c hc => sw c (List.mem_of_mem_take hc)
    have sd : ∀ j, ∀ c ∈ w.drop j, c < 1114112 := fun j c hc => sw c (List.mem_of_mem_drop hc)
    refine ⟨_, _, _, _, a1, a2, a3, a4, ⟨_, rfl, by simp only [List.length_append]; omega, fun c hc => ?_⟩, ⟨_, rfl, by simp only [List.length_append]; omega, fun c hc => ?_⟩, ⟨_, rfl, by simp only [List.length_append]; omega, fun c hc => ?_⟩⟩
    · simp only [List.mem_append] at hc
      rcases hc with (hc | hc) | hc
      · exact st c hc
      · exact sv c hc
      · exact sd _ c hc
    · simp only [List.mem_append] at hc
      rcases hc with hc | hc
      · exact st c hc
      · exact sd _ c hc
    · simp only [List.mem_append] at hc
      rcases hc with (hc | hc) | hc
      · exact st c hc
      · exact sv c hc
      · exact sd _ c hc
  have so := str_int (k := k) (by omega)
  have tK : TD 1 (dt [48 + k]) := ⟨_, rfl, by simp, fun c hc => by rw [List.mem_singleton.mp hc]; omega⟩
  obtain ⟨HD, eh, tH⟩ := tK.add (td_lit (n := 2) ": ") (k := 3) (by omega) (by omega)
  obtain ⟨X4, x4, T4⟩ := tH.add (td_lit (n := 47) "> 2") (k := 50) (by omega) (by omega)
  obtain ⟨X5, x5, T5⟩ := tH.add (td_lit (n := 47) "> ") (k := 50) (by omega) (by omega)
  obtain ⟨X6, x6, T6⟩ := tH.add (td_lit (n := 47) "> 01") (k := 50) (by omega) (by omega)
  obtain ⟨X7, x7, T7⟩ := tH.add (td_lit (n := 47) "0 0 > 0110") (k := 50) (by omega) (by omega)
  obtain ⟨X8, x8, T8⟩ := tH.add (td_lit (n := 47) "8 > 01") (k := 50) (by omega) (by omega)
  obtain ⟨X9, x9, T9⟩ := tH.add (td_lit (n := 47) "7 > 01") (k := 50) (by omega) (by omega)
  obtain ⟨Z, ez, tZ⟩ := tH.add (td_lit (n := 12) "0 1 2 3 4 > ") (k := 15) (by omega) (by omega)
  obtain ⟨M16, em, tM⟩ := mul16
  obtain ⟨X10, x10, T10⟩ := tZ.add tM (k := 50) (by omega) (by omega)
  obtain ⟨X11, x11, T11⟩ := tH.add (td_lit (n := 47) "1 0 > 0110") (k := 50) (by omega) (by omega)
  obtain ⟨X12, x12, T12⟩ := tH.add (td_lit (n := 47) "0 > 011") (k := 50) (by omega) (by omega)
  obtain ⟨X13, x13, T13⟩ := tH.add (td_lit (n := 47) "0  > 01") (k := 50) (by omega) (by omega)
  have T14 : TD 50 (.str "") := td_lit ""
  obtain ⟨X15, x15, T15⟩ := tH.add (td_lit (n := 47) "> 1 ") (k := 50) (by omega) (by omega)
  obtain ⟨X16, x16, T16⟩ := (td_lit (n := 1) " ").add tR (k := 50) (by omega) (by omega)
  obtain ⟨X17, x17, T17⟩ := tR.add (td_lit (n := 1) "\n") (k := 50) (by omega) (by omega)
  obtain ⟨X18, x18, T18⟩ := (td_lit (n := 1) "0").add tR (k := 50) (by omega) (by omega)
  obtain ⟨X19, x19, T19⟩ := tH.add (td_lit (n := 47) "00 > 01") (k := 50) (by omega) (by omega)
  obtain ⟨X20, x20, T20⟩ := tH.add (td_lit (n := 47) "0> 01") (k := 50) (by omega) (by omega)
  obtain ⟨X21, x21, T21⟩ := tR.add (td_lit (n := 1) "0") (k := 50) (by omega) (by omega)
  have tk8 := take_ok (n := b3) (m := 8) (by omega) (by omega)
  have p8 : 0 ≤ b3 % 8 ∧ b3 % 8 < 8 := by omega
  generalize b3 / 8 = b4 at *
  generalize b3 % 8 = v at *
  have zc : ∀ (a c : Option Int) (a' c' : Option Int), szOk ((Y.cutD P a c).length + (Y.cutD P a' c').length) = true := fun a c a' c' => szOk_of (by
    have := cutD_len (xs := P) (a := a) (b := c)
    have := cutD_len (xs := P) (a := a') (b := c')
    omega)
  have iS : ∀ (a c : Option Int), ∀ d ∈ Y.cutD P a c, TD 50 d := fun a c d hd => (h d (cutD_mem hd)).up (by omega)
  have lS : ∀ (a c : Option Int), (Y.cutD P a c).length ≤ 8 := fun a c => by
    have := cutD_len (xs := P) (a := a) (b := c)
    omega
  have slP : ∀ (a c : Option Int), sliceD (.lst P) a c = .ok (.lst (Y.cutD P a c)) := fun _ _ => rfl
  have zP : szOk P.length = true := szOk_of (by omega)
  simp only [C.g__law_bent_4, C.m__law_bent_4]
  clear tR tS t1 t2 t3 tK tH tZ tM
  generalize dt [48 + k] = KD at *
  have two : ∀ (a c a' c' : Option Int), (Y.cutD P a c ++ Y.cutD P a' c').length ≤ 17 ∧ ∀ d ∈ Y.cutD P a c ++ Y.cutD P a' c', TD 50 d := fun a c a' c' => by
    have := lS a c
    have := lS a' c'
    refine ⟨by rw [List.length_append]; omega, fun d hd => ?_⟩
    rcases List.mem_append.mp hd with z | z
    · exact iS _ _ d z
    · exact iS _ _ d z
  by_cases v0 : v = 0
  · subst v0
    refine ⟨Y.cutD P none (some (k : Int)) ++ Y.cutD P (some ((k : Int) + 1)) none, b4, ?_, two _ _ _ _⟩
    simp [e_fnD, hK, zP, tk1, aK, lr, tk2, tk3, ixS, e1, e2, e3, y1, x1, x2, x3, so, eh, x4, x5, x6, x7, x8, x9, ez, em, x10, x11, x12, x13, x15, x16, x17, x18, x19, x20, x21, tk8, slP, zc, szOk_of, -d_addS, -d_mulS, -d_lenS]
  by_cases v1 : v = 1
  · subst v1
    refine ⟨Y.cutD P none (some ((k : Int) + 1)) ++ Y.cutD P (some (k : Int)) none, b4, ?_, two _ _ _ _⟩
    simp [e_fnD, hK, zP, tk1, aK, lr, tk2, tk3, ixS, e1, e2, e3, y1, x1, x2, x3, so, eh, x4, x5, x6, x7, x8, x9, ez, em, x10, x11, x12, x13, x15, x16, x17, x18, x19, x20, x21, tk8, slP, zc, szOk_of, -d_addS, -d_mulS, -d_lenS]
  by_cases v3 : v = 3
  · subst v3
    refine ⟨Y.cutD P (some (k : Int)) none ++ Y.cutD P none (some (k : Int)), b4, ?_, two _ _ _ _⟩
    simp [e_fnD, hK, zP, tk1, aK, lr, tk2, tk3, ixS, e1, e2, e3, y1, x1, x2, x3, so, eh, x4, x5, x6, x7, x8, x9, ez, em, x10, x11, x12, x13, x15, x16, x17, x18, x19, x20, x21, tk8, slP, zc, szOk_of, -d_addS, -d_mulS, -d_lenS]
  by_cases v2 : v = 2
  · subst v2
    have tk4 := take_ok (n := b4) (m := 4) (by omega) (by omega)
    have p4 : 0 ≤ b4 % 4 ∧ b4 % 4 < 4 := by omega
    generalize b4 / 4 = b5 at *
    generalize b4 % 4 = t at *
    have r2 : rng2D [.int (K : Nat), .int (7 + t)] = .ok ((List.range (7 + t - (K : Int)).toNat).map fun j : Nat => D.int ((K : Int) + (j : Nat))) := by
      rw [d_rng2, if_pos]
      rw [rngOk_of (by omega) (by omega), rngOk_of (by omega) (by omega)]
      rfl
    have s_c1 : Str.ofString ": > 1" = tx [58, 32, 62, 32, 49] := by decide +kernel
    have cm := fun (a0 a1 a2 a3 a4 a5 a6 a7 a8 : Option D) => comp_map (tm := tmName 9) (t := cYes) (e := C.e__law_bent_4_1) (vs := [9]) (ws := []) (ρ := [a0, a1, a2, a3, a4, a5, a6, a7, a8, none]) (fun j : Nat => D.int ((K : Int) + (j : Nat))) (fun j : Nat => dt ([48 + (K + j)] ++ [58, 32, 62, 32, 49])) (List.range (7 + t - (K : Int)).toNat) fun j hj => by
      have hj := List.mem_range.mp hj
      have sj := str_int (k := K + j) (by omega)
      have aj := add_dt (a := [48 + (K + j)]) (b := [58, 32, 62, 32, 49]) (by simp)
      have aj : addD (dt [48 + (K + j)]) (.str (tx [58, 32, 62, 32, 49])) = _ := aj
      rw [show ((K + j : Nat) : Int) = (K : Int) + (j : Nat) by omega] at sj
      simp only [turnC, C.e__law_bent_4_1, s_c1]
      generalize dt ([48 + (K + j)] ++ [58, 32, 62, 32, 49]) = RJ at *
      generalize dt [48 + (K + j)] = SJ at *
      generalize tx [58, 32, 62, 32, 49] = CT at *
      simp [sj, aj]
    have zr : szOk ((List.range (7 + t - (K : Int)).toNat).map fun j : Nat => D.int ((K : Int) + (j : Nat))).length = true := szOk_of (by rw [List.length_map, List.length_range]; omega)
    have lY : ((List.range (7 + t - (K : Int)).toNat).map fun j : Nat => dt ([48 + (K + j)] ++ [58, 32, 62, 32, 49])).length ≤ 9 := by rw [List.length_map, List.length_range]; omega
    have iY : ∀ d ∈ ((List.range (7 + t - (K : Int)).toNat).map fun j : Nat => dt ([48 + (K + j)] ++ [58, 32, 62, 32, 49])), TD 50 d := fun d hd => by
      obtain ⟨j, hj, rfl⟩ := List.mem_map.mp hd
      have hj := List.mem_range.mp hj
      refine ⟨_, rfl, by simp, fun c hc => ?_⟩
      simp only [List.cons_append, List.nil_append, List.mem_cons, List.not_mem_nil, or_false] at hc
      omega
    generalize ((List.range (7 + t - (K : Int)).toNat).map fun j : Nat => dt ([48 + (K + j)] ++ [58, 32, 62, 32, 49])) = YS at *
    generalize ((List.range (7 + t - (K : Int)).toNat).map fun j : Nat => D.int ((K : Int) + (j : Nat))) = RS at *
    have zy : szOk (K + YS.length) = true := szOk_of (by omega)
    have zy2 : szOk YS.length = true := szOk_of (by omega)
    generalize C.e__law_bent_4_1 = EB at *
    refine ⟨P ++ YS, b5, ?_, by rw [List.length_append]; omega, fun d hd => ?_⟩
    · simp [e_fnD, hK, zP, tk1, aK, lr, tk2, tk3, ixS, e1, e2, e3, y1, x1, x2, x3, so, eh, x4, x5, x6, x7, x8, x9, ez, em, x10, x11, x12, x13, x15, x16, x17, x18, x19, x20, x21, tk8, slP, zc, szOk_of, tk4, r2, zr, cm, zy, zy2, -d_addS, -d_mulS, -d_lenS, -d_rng2]
    · rcases List.mem_append.mp hd with z | z
      · exact (h d z).up (by omega)
      · exact iY d z
  · have tk21 := take_ok (n := b4) (m := 21) (by omega) (by omega)
    have p21 : 0 ≤ b4 % 21 ∧ b4 % 21 < 21 := by omega
    obtain ⟨XX, aX, tX⟩ := atI_any (L := [X1, X2, X3, X4, X5, X6, X7, X8, X9, X10, X11, X12, X13, .str "", X15, X16, X17, X18, X19, X20, X21]) (i := b4 % 21) (p := TD 50) p21.1 p21.2 (fun x hx => by
      simp only [List.mem_cons, List.not_mem_nil, or_false] at hx
      rcases hx with rfl | rfl | rfl | rfl | rfl | rfl | rfl | rfl | rfl | rfl | rfl | rfl | rfl | rfl | rfl | rfl | rfl | rfl | rfl | rfl | rfl <;> assumption)
    generalize b4 / 21 = b5 at *
    generalize b4 % 21 = t at *
    have z1 : szOk ((Y.cutD P none (some (k : Int))).length + 1) = true := szOk_of (by have := lS none (some (k : Int)); omega)
    have z2 : szOk ((Y.cutD P none (some (k : Int))).length + 1 + (Y.cutD P (some ((k : Int) + 1)) none).length) = true := szOk_of (by
      have := lS none (some (k : Int))
      have := lS (some ((k : Int) + 1)) none
      omega)
    refine ⟨Y.cutD P none (some (k : Int)) ++ XX :: Y.cutD P (some ((k : Int) + 1)) none, b5, ?_, ?_, fun d hd => ?_⟩
    · simp [e_fnD, hK, zP, tk1, aK, lr, tk2, tk3, ixS, e1, e2, e3, y1, x1, x2, x3, so, eh, x4, x5, x6, x7, x8, x9, ez, em, x10, x11, x12, x13, x15, x16, x17, x18, x19, x20, x21, tk8, slP, zc, szOk_of, v0, v1, v2, v3, tk21, aX, z1, z2, -d_addS, -d_mulS, -d_lenS]
    · have := lS none (some (k : Int))
      have := lS (some ((k : Int) + 1)) none
      rw [List.length_append, List.length_cons]
      omega
    · rcases List.mem_append.mp hd with z | z
      · exact iS _ _ d z
      · rcases List.mem_cons.mp z with rfl | z
        · exact tX
        · exact iS _ _ d z
end
end H

set_option Elab.async false
set_option linter.all false
set_option maxRecDepth 100000
set_option maxHeartbeats 4000000
namespace H
open PySem PySem.Spec PyProof.Rows L2 Y
theorem join_len {s : Nat} : ∀ {L : List (List Nat)}, (TL.joinL [s] L).length ≤ (L.map List.length).sum + L.length
  | [] => by simp [TL.joinL]
  | [p] => by simp [TL.joinL]
  | p :: q :: L => by
    have ih := join_len (s := s) (L := q :: L)
    show (p ++ ([s] ++ TL.joinL [s] (q :: L))).length ≤ _
    rw [List.length_append, List.length_append]
    simp only [List.map_cons, List.sum_cons, List.length_cons, List.length_nil] at ih ⊢
    omega
theorem join_mem {s : Nat} : ∀ {L : List (List Nat)} {c : Nat}, c ∈ TL.joinL [s] L → c = s ∨ ∃ p ∈ L, c ∈ p
  | [], c, h => by cases h
  | [p], c, h => .inr ⟨p, by simp, h⟩
  | p :: q :: L, c, h => by
    have h : c ∈ p ++ ([s] ++ TL.joinL [s] (q :: L)) := h
    rcases List.mem_append.mp h with h | h
    · exact .inr ⟨p, by simp, h⟩
    · rcases List.mem_append.mp h with h | h
      · exact .inl (List.mem_singleton.mp h)
      · rcases join_mem h with z | ⟨x, hx, hc⟩
        · exact .inl z
        · exact .inr ⟨x, by simp only [List.mem_cons] at hx ⊢; exact .inr hx, hc⟩
theorem sum_bd {B : Nat} : ∀ {L : List (List Nat)}, (∀ p ∈ L, p.length ≤ B) → (L.map List.length).sum ≤ L.length * B
  | [], _ => by simp
  | p :: L, h => by
    rw [List.map_cons, List.sum_cons, List.length_cons, Nat.succ_mul]
    have h1 := h p (by simp)
    have h2 := sum_bd (L := L) fun q hq => h q (by simp [hq])
    omega
theorem join_ok06 {L : List (List Nat)} {B : Nat} (h : ∀ p ∈ L, p.length ≤ B ∧ SgOk p) (hz : L.length * B + L.length ≤ 1000) : TxOk (TL.joinL [10] L) ∧ joinD (dt [10]) (.lst (L.map dt)) = .ok (dt (TL.joinL [10] L)) := by
  have sb := sum_bd (L := L) fun p hp => (h p hp).1
  have jl := join_len (s := 10) (L := L)
  refine ⟨⟨by omega, fun c hc => ?_⟩, join_dts (by simp; omega)⟩
  rcases join_mem hc with rfl | ⟨p, hp, z⟩
  · omega
  · exact (h p hp).2 c z
theorem vr_of {m : Nat} {r : RuleT} (h : RuleOk m r) (hm : m ≤ 8) : VR m r := vr_iff.mp (ruleB_ok h (by omega))
theorem run_net {m : Nat} (hm : m ≤ 8) : ∀ (ns : List RuleT) (n : Nat) (rs : List RuleT), (∀ r ∈ ns, VR m r) → n + ns.length ≤ 8 → runA m n (((List.range' n ns.length).zip ns).map fun p => rowT p.1 p.2) rs = .inr (rs ++ ns)
  | [], n, rs, _, _ => by simp [runA]
  | r :: ns, n, rs, h, hl => by
    have e : (((List.range' n (r :: ns).length).zip (r :: ns)).map fun p => rowT p.1 p.2) = rowT n r :: (((List.range' (n + 1) ns.length).zip ns).map fun p => rowT p.1 p.2) := rfl
    rw [List.length_cons] at hl
    rw [e, runA, if_neg (by omega), (acc_iff (by omega) hm).mpr ⟨h r (by simp), rfl⟩]
    dsimp only
    rw [run_net hm ns (n + 1) (rs ++ [r]) (fun q hq => h q (by simp [hq])) (by omega)]
    simp
section
variable {ns : List RuleT} {most : Nat}
theorem net_rows (ok : NetOk ns most) (hm : most ≤ 8) : (∀ p ∈ rowsT ns, p.length ≤ 30 ∧ SgOk p) ∧ rowsX (netT ns) = rowsT ns := by
  have hle := Nat.le_trans ok.le hm
  have hpos := ok.pos
  have ro : ∀ k, k < ns.length → VR ns.length (ns.getD k ([], [])) := fun k hk => vr_of (ok.lk hk) hle
  refine ⟨fun p hp => ?_, SX.spl_join (c := 10) (sep := []) (fun z => ?_) fun p hp h => ?_⟩
  · obtain ⟨i, hi, rfl⟩ := rows_mem ok hm hp
    have v := ro i hi
    have l4 := v.len
    have p2 : 2 ^ (ns.getD i ([], [])).1.length ≤ 2 ^ 4 := Nat.pow_le_pow_right (by omega) l4
    have lt := v.tab
    refine ⟨by rw [row_len]; omega, fun c hc => ?_⟩
    have := (row_small (by omega) (v.row hle) c hc).1
    omega
  · have := rows_len (ns := ns)
    rw [z] at this
    simp at this
    omega
  · obtain ⟨i, hi, rfl⟩ := rows_mem ok hm hp
    exact (row_small (by omega) ((ro i hi).row hle) 10 h).2 rfl
theorem net_said (ok : NetOk ns most) (hm : most ≤ 8) : C.g__law_said_10 [dt (netT ns)] = .ok (.fr (.tup [.str "net", dNet ns])) ∧ joinD (dt [10]) (.lst ((rowsT ns).map dt)) = .ok (dt (netT ns)) := by
  have hle := Nat.le_trans ok.le hm
  obtain ⟨h1, h2⟩ := net_rows ok hm
  obtain ⟨t, j⟩ := join_ok06 (L := rowsT ns) (B := 30) h1 (by rw [rows_len]; omega)
  have t : TxOk (netT ns) := t
  have s := said_any t
  have em : mX (netT ns) = ns.length := by unfold mX; rw [h2, rows_len]; omega
  have er : runA ns.length 0 (rowsT ns) [] = .inr ns := by
    have := run_net hle ns 0 [] (fun r hr => by
      obtain ⟨i, hi, e⟩ := List.mem_iff_getElem.mp hr
      rw [← e]
      have := ok.lk hi
      rw [List.getD_eq_getElem?_getD, List.getElem?_eq_getElem hi] at this
      exact vr_of this hle) (by omega)
    rw [← List.range_eq_range'] at this
    exact this
  rw [em, h2, er] at s
  exact ⟨s, j⟩
end
theorem fit_td {n m : Nat} {d : D} (h : TD n d) : Fit m d := by
  obtain ⟨w, rfl, _, s⟩ := h
  exact fit_dt s
theorem fit_out {n : Nat} {o : Nat ⊕ List RuleT} : Fit (n + 4) (outD o) := by
  cases o with
  | inl k =>
    intro d hd
    simp only [List.mem_cons, List.not_mem_nil, or_false] at hd
    rcases hd with rfl | rfl
    · exact fit_td (td_lit (n := 10) "text")
    · exact fit_int
  | inr rs =>
    intro d hd
    simp only [List.mem_cons, List.not_mem_nil, or_false] at hd
    rcases hd with rfl | rfl
    · exact fit_td (td_lit (n := 10) "net")
    · exact fit_net05 (n := n)
theorem tds : ∀ {ys : List D}, (∀ d ∈ ys, TD 50 d) → ∃ Y : List (List Nat), ys = Y.map dt ∧ ∀ p ∈ Y, p.length ≤ 50 ∧ SgOk p
  | [], _ => ⟨[], rfl, fun p h => by cases h⟩
  | d :: ys, h => by
    obtain ⟨w, rfl, l, s⟩ := h d (by simp)
    obtain ⟨Y, e, hY⟩ := tds (ys := ys) fun x hx => h x (by simp [hx])
    refine ⟨w :: Y, by rw [e]; rfl, fun p hp => ?_⟩
    rcases List.mem_cons.mp hp with rfl | hp
    · exact ⟨l, s⟩
    · exact hY p hp
theorem bent_turn {P : List D} {b : Int} (hP : 1 ≤ P.length ∧ P.length ≤ 8) (h : ∀ d ∈ P, TD 30 d) (a0 a1 a3 o5 o6 a7 a8 a9 : Option D) (t : Nat) :
    ∃ (b' : Int) (o5' o6' : Option D), turnF (tmName 5) C.b_law_k06_1 [5, 6] (.int (t : Nat)) [a0, a1, some (.lst [.int b]), a3, some (.lst P), o5, o6, a7, a8, a9] = .ok (.nx, [a0, a1, some (.lst [.int b']), a3, some (.lst P), o5', o6', a7, a8, a9]) := by
  obtain ⟨ys, b', e, hl, hy⟩ := bent06_ok (b := b) hP h
  obtain ⟨Y, rfl, hY⟩ := tds hy
  rw [List.length_map] at hl
  obtain ⟨tx_, j⟩ := join_ok06 (L := Y) (B := 50) hY (by omega)
  have sd := said_any tx_
  have du := due_any tx_
  have ne := neD_refl (n := 4) (fit_out (n := 0) (o := runA (mX (TL.joinL [10] Y)) 0 (rowsX (TL.joinL [10] Y)) []))
  generalize outD (runA (mX (TL.joinL [10] Y)) 0 (rowsX (TL.joinL [10] Y)) []) = OD at *
  have j : joinD (.str (tx [10])) (.lst (Y.map dt)) = .ok (dt (TL.joinL [10] Y)) := j
  refine ⟨b', none, none, ?_⟩
  simp only [turnF, C.b_law_k06_1, s_nl]
  generalize dt (TL.joinL [10] Y) = TX at *
  generalize Y.map dt = YD at *
  generalize tx [10] = NL at *
  simp [e, j, sd, du, ne]
theorem good_k06 : Good C.g_law_k06 63 := fun ns hl hb => by
  obtain ⟨M, hM⟩ : ∃ M : Nat, max (1 : Int) (min (ns.length : Int) 10) = M := ⟨(max (1 : Int) (min (ns.length : Int) 10)).toNat, by omega⟩
  have hM4 : M ≤ 10 := by omega
  obtain ⟨ρ', h, hρ⟩ := for_inv (tm := tmName 1) (body := C.b_law_k06_2) (vs := [1, 2, 3, 4, 5, 6, 7]) (ws := []) (fun k : Nat => D.int (k : Nat)) (fun ρ => ρ = [some (.arg ns), none, none, none, none, none, none, none, none, none]) (List.range M) _ rfl fun ρ k hρ hk => by
    subst hρ
    have hk := List.mem_range.mp hk
    obtain ⟨b, hbox⟩ := box_ok (ns := ns) (k := k) hb (by omega)
    obtain ⟨net, n1, hnet, ok⟩ := net_ok (n := b) (most := 8) (by omega) (by omega)
    have hnet : C.g__law_net [.lst [.int b], .int 8] = _ := hnet
    have hle := ok.le
    have hpos := ok.pos
    obtain ⟨ns_, nj⟩ := net_said ok (by omega)
    obtain ⟨rws, _⟩ := net_rows ok (by omega)
    have nm : numD (net.map dRule) = ((List.range net.length).zip net).map fun p => D.tup [.int (p.1 : Nat), dRule p.2] := numD_map
    have lz : ((List.range net.length).zip net).length = net.length := by rw [List.length_zip, List.length_range, Nat.min_self]
    have c := comp_map (tm := tmTup [8, 9]) (t := cYes) (e := C.e_law_k06_1) (vs := [8, 9]) (ws := []) (ρ := [some (.arg ns), some (.int k), some (.lst [.int n1]), some (dNet net), none, none, none, none, none, none]) (fun p : Nat × RuleT => D.tup [.int (p.1 : Nat), dRule p.2]) (fun p => dt (rowT p.1 p.2)) ((List.range net.length).zip net) fun p hp => by
      have h := zip_mem hp
      have rk := law_row_ok (k := p.1) (r := p.2) (by omega) (RowOk.of (ok.rule _ h.2) hle)
      simp only [turnC, C.e_law_k06_1]
      generalize dt (rowT p.1 p.2) = T at *
      generalize dRule p.2 = DR at *
      generalize dNet net = N at *
      simp [rk]
    have e2 : (((List.range net.length).zip net).map fun p => dt (rowT p.1 p.2)) = (rowsT net).map dt := by unfold rowsT; rw [List.map_map]; rfl
    rw [e2, ← nm] at c
    have it : itD (dNet net) = .ok (net.map dRule) := rfl
    have zN : szOk (numD (net.map dRule)).length = true := by rw [nm, List.length_map, lz]; exact szOk_of (by omega)
    have zM : szOk (net.map dRule).length = true := szOk_of (by rw [List.length_map]; omega)
    have zR : szOk ((rowsT net).map dt).length = true := szOk_of (by rw [List.length_map, rows_len]; omega)
    obtain ⟨ρ3, lp, b3, o5, o6, hρ3⟩ := for_inv (tm := tmName 5) (body := C.b_law_k06_1) (vs := [5, 6]) (ws := []) (fun t : Nat => D.int (t : Nat)) (fun ρ => ∃ (b : Int) (o5 o6 : Option D), ρ = [some (.arg ns), some (.int k), some (.lst [.int b]), some (dNet net), some (.lst ((rowsT net).map dt)), o5, o6, none, none, none]) (List.range 3) [some (.arg ns), some (.int k), some (.lst [.int n1]), some (dNet net), some (.lst ((rowsT net).map dt)), none, none, none, none, none] ⟨n1, none, none, rfl⟩ fun ρ t hρ ht => by
      obtain ⟨b, o5, o6, rfl⟩ := hρ
      obtain ⟨b', x5, x6, e⟩ := bent_turn (P := (rowsT net).map dt) (b := b) (by rw [List.length_map, rows_len]; omega) (fun d hd => by
        obtain ⟨p, hp, rfl⟩ := List.mem_map.mp hd
        exact ⟨p, rfl, (rws p hp).1, (rws p hp).2⟩) (some (.arg ns)) (some (.int k)) (some (dNet net)) o5 o6 none none none t
      exact ⟨_, e, ⟨b', x5, x6, rfl⟩, fun w hw => by cases hw⟩
    subst hρ3
    have tk7 := take_ok (n := b3) (m := 7) (by omega) (by omega)
    have p7 : 0 ≤ b3 % 7 ∧ b3 % 7 < 7 := by omega
    obtain ⟨OD, aO, tO, tO2⟩ := atI_any (L := [.non, .int 0, .bl true, .lst ((rowsT net).map dt), dNet net, .tup [], .dik [Sum.inr "0"] [.str "> 1"]]) (i := b3 % 7) (p := fun d => noDit d = true ∧ Y.isStr d = false) p7.1 p7.2 (fun x hx => by
      simp only [List.mem_cons, List.not_mem_nil, or_false] at hx
      rcases hx with rfl | rfl | rfl | rfl | rfl | rfl | rfl <;> exact ⟨rfl, rfl⟩)
    generalize b3 / 7 = b4 at *
    generalize b3 % 7 = t at *
    have so := said_odd tO tO2
    have n0 : neD (outD (.inl 0)) (.tup [.str "text", .int 0]) = .ok (.bl false) := neD_refl (n := 4) (fit_out (n := 0) (o := .inl 0))
    have n2 : neD (.tup [.str "net", dNet net]) (.tup [.str "net", dNet net]) = .ok (.bl false) := neD_refl (n := 4) (fit_out (n := 0) (o := .inr net))
    have nj : joinD (.str (tx [10])) (.lst ((rowsT net).map dt)) = .ok (dt (netT net)) := nj
    have r3 : rngOk 3 = true := rngOk_of (by omega) (by omega)
    refine ⟨_, ?_, rfl, by simp⟩
    simp only [turnF, C.b_law_k06_2, s_nl]
    generalize dt (netT net) = T at *
    generalize (rowsT net).map dt = RD at *
    generalize C.e_law_k06_1 = E1 at *
    generalize C.b_law_k06_1 = B1 at *
    generalize net.map dRule = NM at *
    generalize dNet net = N at *
    generalize tx [10] = NL at *
    generalize outD (.inl 0) = O0 at *
    have rg : rng1D [.int 3] = .ok ((List.range 3).map fun t : Nat => D.int (t : Nat)) := by rw [d_rng1, if_pos r3]; rfl
    have z3 : szOk ((List.range 3).map fun t : Nat => D.int (t : Nat)).length = true := szOk_of (by simp)
    generalize ((List.range 3).map fun t : Nat => D.int (t : Nat)) = RG at *
    simp [hbox, hnet, it, zM, zN, c, zR, rg, z3, lp, tk7, aO, so, n0, nj, ns_, n2, szOk_of, shAt, chkO_ws, -d_rng1]
  subst hρ
  have rM : rngOk M = true := rngOk_of (by omega) (by omega)
  have zM : szOk M = true := szOk_of (by omega)
  have t0 : TxOk [] := ⟨by simp, fun c hc => by cases hc⟩
  have s0 := said_any t0
  have e0 : runA (mX []) 0 (rowsX []) [] = .inl 0 := by
    have e1 : rowsX [] = [[]] := sp_nil
    have e2 : acc 0 (mX []) [] = none := acc_short (by rw [sp_nil]; decide)
    rw [e1, runA, if_neg (by decide), e2]
  rw [e0] at s0
  have q0 : eqD (outD (.inl 0)) (.tup [.str "text", .int 0]) = .ok (.bl true) := eqD_refl (n := 4) (fit_out (n := 0) (o := .inl 0))
  have s0 : C.g__law_said_10 [.str (tx [])] = _ := s0
  refine ⟨.fr (.bl true), ?_, .inl rfl⟩
  simp only [C.g_law_k06, C.m_law_k06, s_none]
  generalize outD (.inl 0) = O0 at *
  generalize tx [] = EM at *
  simp [e_fnP, hM, rM, zM, h, s0, q0]
end H

set_option Elab.async false
set_option linter.all false
set_option maxRecDepth 100000
namespace K06
open PySem PySem.Spec PyProof.Rows L2 Y
def top (i : Nat) : Stmt := PySem.Challenge.pw_switchnets_k06_texts_refused.main.body.getD i (.Pass ⟨0, 0, 0, 0⟩)
abbrev s_is_whole : Stmt := top 6
theorem sc_is_whole : FnScope ["thing"] ["thing"] (defScope s_is_whole) := ⟨rfl, rfl, rfl, by decide +kernel, rfl, by decide +kernel, by decide +kernel⟩
abbrev s_NoText_init : Stmt := (clsBody (top 2)).getD 0 (.Pass ⟨0, 0, 0, 0⟩)
theorem sc_NoText_init : FnScope ["self", "row"] ["self", "row"] (defScope s_NoText_init) := ⟨rfl, rfl, rfl, by decide +kernel, rfl, by decide +kernel, by decide +kernel⟩
abbrev s_is_upto : Stmt := top 7
theorem sc_is_upto : FnScope ["thing", "many"] ["thing", "many"] (defScope s_is_upto) := ⟨rfl, rfl, rfl, by decide +kernel, rfl, by decide +kernel, by decide +kernel⟩
abbrev s_are_bits : Stmt := top 8
theorem sc_are_bits : FnScope ["thing", "many", "one"] ["thing", "many"] (defScope s_are_bits) := ⟨rfl, rfl, rfl, by decide +kernel, rfl, by decide +kernel, by decide +kernel⟩
abbrev s_are_rising : Stmt := top 9
theorem sc_are_rising : FnScope ["thing", "many", "one", "other"] ["thing", "many"] (defScope s_are_rising) := ⟨rfl, rfl, rfl, by decide +kernel, rfl, by decide +kernel, by decide +kernel⟩
abbrev s_is_rule : Stmt := top 10
theorem sc_is_rule : FnScope ["thing", "many"] ["thing", "many"] (defScope s_is_rule) := ⟨rfl, rfl, rfl, by decide +kernel, rfl, by decide +kernel, by decide +kernel⟩
abbrev s_row_of : Stmt := top 13
theorem sc_row_of : FnScope ["number", "rule", "ears", "table", "bit", "ear"] ["number", "rule"] (defScope s_row_of) := ⟨rfl, rfl, rfl, by decide +kernel, rfl, by decide +kernel, by decide +kernel⟩
abbrev s_numbers_in : Stmt := top 14
theorem sc_numbers_in : FnScope ["signs", "known", "found", "sign"] ["signs", "known"] (defScope s_numbers_in) := ⟨rfl, rfl, rfl, by decide +kernel, rfl, by decide +kernel, by decide +kernel⟩
abbrev s_rule_in : Stmt := top 15
theorem sc_rule_in : FnScope ["row", "head", "gap", "bits", "words", "ears", "table"] ["row"] (defScope s_rule_in) := ⟨rfl, rfl, rfl, by decide +kernel, rfl, by decide +kernel, by decide +kernel⟩
abbrev s_read_net : Stmt := top 16
theorem sc_read_net : FnScope ["text", "rows", "many", "net", "number", "row", "rule"] ["text"] (defScope s_read_net) := ⟨rfl, rfl, rfl, by decide +kernel, rfl, by decide +kernel, by decide +kernel⟩
abbrev s__law_cell : Stmt := top 18
theorem sc__law_cell : FnScope ["script", "k"] ["script", "k"] (defScope s__law_cell) := ⟨rfl, rfl, rfl, by decide +kernel, rfl, by decide +kernel, by decide +kernel⟩
abbrev s__law_mix : Stmt := top 19
theorem sc__law_mix : FnScope ["cell", "k", "number"] ["cell", "k"] (defScope s__law_mix) := ⟨rfl, rfl, rfl, by decide +kernel, rfl, by decide +kernel, by decide +kernel⟩
abbrev s__law_box : Stmt := top 20
theorem sc__law_box : FnScope ["script", "k", "here", "number", "j"] ["script", "k"] (defScope s__law_box) := ⟨rfl, rfl, rfl, by decide +kernel, rfl, by decide +kernel, by decide +kernel⟩
abbrev s__law_take : Stmt := top 21
theorem sc__law_take : FnScope ["box", "many", "left", "digit"] ["box", "many"] (defScope s__law_take) := ⟨rfl, rfl, rfl, by decide +kernel, rfl, by decide +kernel, by decide +kernel⟩
abbrev s__law_rule : Stmt := top 22
theorem sc__law_rule : FnScope ["box", "many", "ears", "size", "number", "mask", "least", "table", "place", "j"] ["box", "many"] (defScope s__law_rule) := ⟨rfl, rfl, rfl, by decide +kernel, rfl, by decide +kernel, by decide +kernel⟩
abbrev s__law_net : Stmt := top 23
theorem sc__law_net : FnScope ["box", "most", "many", "k"] ["box", "most"] (defScope s__law_net) := ⟨rfl, rfl, rfl, by decide +kernel, rfl, by decide +kernel, by decide +kernel⟩
abbrev s__law_whole : Stmt := top 24
theorem sc__law_whole : FnScope ["found"] ["found"] (defScope s__law_whole) := ⟨rfl, rfl, rfl, by decide +kernel, rfl, by decide +kernel, by decide +kernel⟩
abbrev s__law_row : Stmt := top 25
theorem sc__law_row : FnScope ["number", "rule", "words", "ear", "bit"] ["number", "rule"] (defScope s__law_row) := ⟨rfl, rfl, rfl, by decide +kernel, rfl, by decide +kernel, by decide +kernel⟩
abbrev s__law_rule_in : Stmt := top 26
theorem sc__law_rule_in : FnScope ["row", "number", "many", "words", "ears", "sign", "word"] ["row", "number", "many"] (defScope s__law_rule_in) := ⟨rfl, rfl, rfl, by decide +kernel, rfl, by decide +kernel, by decide +kernel⟩
abbrev s__law_due : Stmt := top 27
theorem sc__law_due : FnScope ["text", "rows", "net", "number", "row", "rule"] ["text"] (defScope s__law_due) := ⟨rfl, rfl, rfl, by decide +kernel, rfl, by decide +kernel, by decide +kernel⟩
abbrev s__law_said : Stmt := top 28
theorem sc__law_said : FnScope ["text", "e"] ["text"] (defScope s__law_said) := ⟨rfl, rfl, rfl, by decide +kernel, rfl, by decide +kernel, by decide +kernel⟩
abbrev s__law_bent : Stmt := top 29
theorem sc__law_bent : FnScope ["box", "rows", "k", "row", "place", "sign", "some", "head", "way", "j"] ["box", "rows"] (defScope s__law_bent) := ⟨rfl, rfl, rfl, by decide +kernel, rfl, by decide +kernel, by decide +kernel⟩
abbrev s_law : Stmt := top 30
theorem sc_law : FnScope ["script", "k", "box", "net", "rows", "turn", "text", "odd", "number", "rule"] ["script"] (defScope s_law) := ⟨rfl, rfl, rfl, by decide +kernel, rfl, by decide +kernel, by decide +kernel⟩
structure Txt (K : PySem.W.Frag) (mg : Str → Option Value) : Prop where
  d_is_whole : Def K mg "is_whole" s_is_whole
  d_is_upto : Def K mg "is_upto" s_is_upto
  d_are_bits : Def K mg "are_bits" s_are_bits
  d_are_rising : Def K mg "are_rising" s_are_rising
  d_is_rule : Def K mg "is_rule" s_is_rule
  d_row_of : Def K mg "row_of" s_row_of
  d_numbers_in : Def K mg "numbers_in" s_numbers_in
  d_rule_in : Def K mg "rule_in" s_rule_in
  d_read_net : Def K mg "read_net" s_read_net
  d__law_cell : Def K mg "_law_cell" s__law_cell
  d__law_mix : Def K mg "_law_mix" s__law_mix
  d__law_box : Def K mg "_law_box" s__law_box
  d__law_take : Def K mg "_law_take" s__law_take
  d__law_rule : Def K mg "_law_rule" s__law_rule
  d__law_net : Def K mg "_law_net" s__law_net
  d__law_whole : Def K mg "_law_whole" s__law_whole
  d__law_row : Def K mg "_law_row" s__law_row
  d__law_rule_in : Def K mg "_law_rule_in" s__law_rule_in
  d__law_due : Def K mg "_law_due" s__law_due
  d__law_said : Def K mg "_law_said" s__law_said
  d__law_bent : Def K mg "_law_bent" s__law_bent
  k_FIGURES : ∃ t, mg "FIGURES" = some (.str "01234567" t)
  k_MOST_EARS : ∃ t, mg "MOST_EARS" = some (.int 4 t)
  k_MOST_SWITCHES : ∃ t, mg "MOST_SWITCHES" = some (.int 8 t)
  z_all : mg "all" = none
  z_bool : mg "bool" = none
  z_divmod : mg "divmod" = none
  z_enumerate : mg "enumerate" = none
  z_int : mg "int" = none
  z_isinstance : mg "isinstance" = none
  z_len : mg "len" = none
  z_max : mg "max" = none
  z_min : mg "min" = none
  z_range : mg "range" = none
  z_set : mg "set" = none
  z_sorted : mg "sorted" = none
  z_str : mg "str" = none
  z_sum : mg "sum" = none
  z_tuple : mg "tuple" = none
  z_zip : mg "zip" = none
  base_NetError : BaseI K mg "NetError"
  row_NoText : RowF K mg "NoText" s_NoText_init
  said : SaidF K mg "NoText" "NetError"
section
variable {P : Program} {w : World} {K : PySem.W.Frag} {mg : Str → Option Value} {base : Heap}
theorem ok_NoText (T : Txt K mg) : RowC P w K mg base "NoText" 1 :=
  row_mk T.row_NoText sc_NoText_init (fun f cdv A outer s H E => PSs.imp (pss_cons (ps_expr (pe_ninit T.base_NetError rfl (pa_cons (pe_var (i := 0) rfl (Or.inl rfl)) (pa_cons pe_str pa_nil)))) (pss_one (ps_ost (pe_var (i := 0) rfl (Or.inl rfl)) (pe_var (i := 1) rfl (Or.inl rfl))))) ini_imp) (fun _ _ _ _ _ _ us hl => match us, hl with | [_, _], _ => rfl)
theorem ok_is_whole (T : Txt K mg) : Glo P w K mg base "is_whole" 1 1 [] (pureF C.g_is_whole) :=
  (glo_mk (O := []) (Oc := []) (W := []) (U := []) T.d_is_whole sc_is_whole (fun f cdv A outer s H E P0 hr => (cs_one (cs_ret (ce_and (ce_isi isk_int T.z_isinstance T.z_int (ce_var 0) bo_isinstance bo_int) (ce_one (ce_not (ce_isi isk_bool T.z_isinstance T.z_bool (ce_var 0) bo_isinstance bo_bool))))))) (fun _ _ _ _ _ _ us hl => match us, hl with | [_], _ => rfl)).pure
theorem ok_is_upto (T : Txt K mg) : Glo P w K mg base "is_upto" 2 2 [] (pureF C.g_is_upto) :=
  (glo_mk (O := []) (Oc := []) (W := []) (U := []) T.d_is_upto sc_is_upto (fun f cdv A outer s H E P0 hr => (cs_one (cs_ret (ce_and (ce_call (ok_is_whole T) out2_body (hr.mono (by decide)) (ca_cons (ce_var 0) ca_nil) (alen_cons alen_nil)) (ce_one (ce_chain od_le od_lt ce_int (ce_var 0) (ce_var 1))))))) (fun _ _ _ _ _ _ us hl => match us, hl with | [_, _], _ => rfl)).pure
theorem ok_are_bits (T : Txt K mg) : Glo P w K mg base "are_bits" 3 2 [] (pureF C.g_are_bits) :=
  (glo_mk (O := []) (Oc := []) (W := []) (U := []) T.d_are_bits sc_are_bits (fun f cdv A outer s H E P0 hr => (cs_one (cs_ret (ce_and (ce_isi isk_tuple T.z_isinstance T.z_tuple (ce_var 0) bo_isinstance bo_tuple) (ce_and (ce_cmp (od_eq hr.units) (ce_callB cd_len T.z_len bo_len (ca_cons (ce_var 0) ca_nil)) (ce_var 1)) (ce_one (ce_callB (cd_all rfl) T.z_all bo_all (ca_cons (ce_comp rfl sc_are_bits.nd (ci_any (ce_var 0)) (blkOk_by (own := [("one", 2)]) (by kernel_rfl)) (fun P0 s H C cl fp => (cg_name 2 sc_are_bits.nd)) (fun s H C cl fp => cts_nil) (fun P0 s H C cl fp => (ce_call (ok_is_upto T) Out2.blk (hr.mono (by decide)) (ca_cons (ce_var 2) (ca_cons ce_int ca_nil)) (alen_cons (alen_cons alen_nil))))) ca_nil)))))))) (fun _ _ _ _ _ _ us hl => match us, hl with | [_, _], _ => rfl)).pure
theorem ok_are_rising (T : Txt K mg) : Glo P w K mg base "are_rising" 3 2 [] (pureF C.g_are_rising) :=
  (glo_mk (O := []) (Oc := []) (W := []) (U := []) T.d_are_rising sc_are_rising (fun f cdv A outer s H E P0 hr => (cs_cons (cs_if (ct_w (cw_or (ct_not (ct_val (ce_isi isk_tuple T.z_isinstance T.z_tuple (ce_var 0) bo_isinstance bo_tuple))) (cw_or1 (ct_not (ct_val (ce_callB (cd_all rfl) T.z_all bo_all (ca_cons (ce_comp rfl sc_are_rising.nd (ci_any (ce_var 0)) (blkOk_by (own := [("one", 2)]) (by kernel_rfl)) (fun P0 s H C cl fp => (cg_name 2 sc_are_rising.nd)) (fun s H C cl fp => cts_nil) (fun P0 s H C cl fp => (ce_call (ok_is_upto T) Out2.blk (hr.mono (by decide)) (ca_cons (ce_var 2) (ca_cons (ce_var 1) ca_nil)) (alen_cons (alen_cons alen_nil))))) ca_nil))))))) (cs_one (cs_ret ce_bl)) cs_nil)
    (cs_one (cs_ret (ce_callB (cd_all rfl) T.z_all bo_all (ca_cons (ce_comp rfl sc_are_rising.nd (ci_zipG T.z_zip (ca_cons (ce_slice (ce_var 0) co_none (co_some (ce_neg ce_int))) (ca_cons (ce_slice (ce_var 0) (co_some ce_int) co_none) ca_nil))) (blkOk_by (own := [("one", 2), ("other", 3)]) (by kernel_rfl)) (fun P0 s H C cl fp => (cg_tup [2, 3] rfl (cgs_cons 2 sc_are_rising.nd (cgs_cons 3 sc_are_rising.nd cgs_nil)))) (fun s H C cl fp => cts_nil) (fun P0 s H C cl fp => (ce_cmp od_lt (ce_var 2) (ce_var 3)))) ca_nil)))))) (fun _ _ _ _ _ _ us hl => match us, hl with | [_, _], _ => rfl)).pure
theorem ok_is_rule (T : Txt K mg) : Glo P w K mg base "is_rule" 4 2 [] (pureF C.g_is_rule) :=
  (glo_mk (O := []) (Oc := []) (W := []) (U := []) T.d_is_rule sc_is_rule (fun f cdv A outer s H E P0 hr => (cs_cons (cs_if (ct_w (cw_or (ct_not (ct_val (ce_isi isk_tuple T.z_isinstance T.z_tuple (ce_var 0) bo_isinstance bo_tuple))) (cw_or (ct_cmp (od_ne hr.units) (ce_callB cd_len T.z_len bo_len (ca_cons (ce_var 0) ca_nil)) ce_int) (cw_or1 (ct_not (ct_val (ce_call (ok_are_rising T) out2_body (hr.mono (by decide)) (ca_cons (ce_ix (ce_var 0) ce_int) (ca_cons (ce_var 1) ca_nil)) (alen_cons (alen_cons alen_nil))))))))) (cs_one (cs_ret ce_bl)) cs_nil)
    (cs_one (cs_ret (ce_and (ce_cmp od_le (ce_callB cd_len T.z_len bo_len (ca_cons (ce_ix (ce_var 0) ce_int) ca_nil)) (ce_globI T.k_MOST_EARS)) (ce_one (ce_call (ok_are_bits T) out2_body (hr.mono (by decide)) (ca_cons (ce_ix (ce_var 0) ce_int) (ca_cons (ce_bin od_shl ce_int (ce_callB cd_len T.z_len bo_len (ca_cons (ce_ix (ce_var 0) ce_int) ca_nil))) ca_nil)) (alen_cons (alen_cons alen_nil))))))))) (fun _ _ _ _ _ _ us hl => match us, hl with | [_, _], _ => rfl)).pure
theorem ok_row_of (T : Txt K mg) : Glo P w K mg base "row_of" 1 2 [] (pureF C.g_row_of) :=
  (glo_mk (O := []) (Oc := []) (W := []) (U := []) T.d_row_of sc_row_of (fun f cdv A outer s H E P0 hr => (cs_cons (cs_asg (ce_var 1) (cg_tup [2, 3] rfl (cgs_cons 2 sc_row_of.nd (cgs_cons 3 sc_row_of.nd cgs_nil))))
    (cs_one (cs_ret (ce_bin od_add (ce_bin od_add (ce_bin od_add (ce_bin od_add (ce_callT cd_str T.z_str bo_str (ca_cons (ce_var 0) ca_nil)) ce_str) (ce_join ce_str (ce_comp rfl sc_row_of.nd (ci_any (ce_var 2)) (blkOk_by (own := [("ear", 5)]) (by kernel_rfl)) (fun P0 s H C cl fp => (cg_name 5 sc_row_of.nd)) (fun s H C cl fp => cts_nil) (fun P0 s H C cl fp => (ce_bin od_add (ce_callT cd_str T.z_str bo_str (ca_cons (ce_var 5) ca_nil)) ce_str))))) ce_str) (ce_join ce_str (ce_comp rfl sc_row_of.nd (ci_any (ce_var 3)) (blkOk_by (own := [("bit", 4)]) (by kernel_rfl)) (fun P0 s H C cl fp => (cg_name 4 sc_row_of.nd)) (fun s H C cl fp => cts_nil) (fun P0 s H C cl fp => (ce_callT cd_str T.z_str bo_str (ca_cons (ce_var 4) ca_nil)))))))))) (fun _ _ _ _ _ _ us hl => match us, hl with | [_, _], _ => rfl)).pure
theorem ok_numbers_in (T : Txt K mg) : Glo P w K mg base "numbers_in" 1 2 [] (pureF C.g_numbers_in) :=
  (glo_mk (O := []) (Oc := [2]) (W := []) (U := []) T.d_numbers_in sc_numbers_in (fun f cdv A outer s H E P0 hr => (cs_cons (cs_own (i := 2) sc_numbers_in.nd (ce_lst ca_nil))
    (cs_cons (cs_for (U' := []) (vs := [3]) (passes_of rfl) rfl (ci_any (ce_var 0)) (cg_name 3 sc_numbers_in.nd) (cs_cons (cs_if (ct_cmp (od_nin hr.units65) (ce_var 3) (ce_var 1)) (cs_one (cs_ret ce_non)) cs_nil)
    (cs_one (cs_append (i := 2) (ce_index hr.units65 (ce_var 1) (ce_var 3))))))
    (cs_one (cs_ret (ce_callT cd_tuple T.z_tuple bo_tuple (ca_cons (ce_own 2) ca_nil))))))) (fun _ _ _ _ _ _ us hl => match us, hl with | [_, _], _ => rfl)).pure
theorem ok_rule_in (T : Txt K mg) : Glo P w K mg base "rule_in" 2 1 [] (pureF C.g_rule_in) :=
  (glo_mk (O := []) (Oc := []) (W := []) (U := []) T.d_rule_in sc_rule_in (fun f cdv A outer s H E P0 hr => (cs_cons (cs_asg (ce_parti (ce_var 0) ce_str) (cg_tup [1, 2, 3] rfl (cgs_cons 1 sc_rule_in.nd (cgs_cons 2 sc_rule_in.nd (cgs_cons 3 sc_rule_in.nd cgs_nil)))))
    (cs_cons (cs_asg (ce_slice (ce_split (ce_var 1) ce_str) (co_some ce_int) (co_some (ce_neg ce_int))) (cg_name 4 sc_rule_in.nd))
    (cs_cons (cs_asg (ce_call (ok_numbers_in T) out2_body (hr.mono (by decide)) (ca_cons (ce_join ce_str (ce_var 4)) (ca_cons (ce_globS T.k_FIGURES) ca_nil)) (alen_cons (alen_cons alen_nil))) (cg_name 5 sc_rule_in.nd))
    (cs_cons (cs_asg (ce_call (ok_numbers_in T) out2_body (hr.mono (by decide)) (ca_cons (ce_var 3) (ca_cons ce_str ca_nil)) (alen_cons (alen_cons alen_nil))) (cg_name 6 sc_rule_in.nd))
    (cs_cons (cs_if (ct_w (cw_or (ct_cmp (od_eq hr.units) (ce_var 2) ce_str) (cw_or (ct_cmp od_is (ce_var 5) ce_non) (cw_or1 (ct_cmp od_is (ce_var 6) ce_non))))) (cs_one (cs_ret ce_non)) cs_nil)
    (cs_one (cs_ret (ce_tup (ca_cons (ce_var 5) (ca_cons (ce_var 6) ca_nil))))))))))) (fun _ _ _ _ _ _ us hl => match us, hl with | [_], _ => rfl)).pure
theorem ok_read_net (T : Txt K mg) : Glo P w K mg base "read_net" 5 1 [] (pureF C.g_read_net_2) :=
  (glo_mk (O := []) (Oc := []) (W := []) (U := []) T.d_read_net sc_read_net (fun f cdv A outer s H E P0 hr => (cs_cons (cs_if (ct_not (ct_val (ce_isi isk_str T.z_isinstance T.z_str (ce_var 0) bo_isinstance bo_str))) (cs_one (cs_raiseN (ok_NoText T) rfl (L2N.takes_of rfl rfl rfl rfl) (hr.mono (by decide)) ce_int)) cs_nil)
    (cs_cons (cs_asg (ce_split (ce_var 0) ce_str) (cg_name 1 sc_read_net.nd))
    (cs_cons (cs_asg (ce_callB (cd_min rfl) T.z_min bo_min (ca_cons (ce_callB cd_len T.z_len bo_len (ca_cons (ce_var 1) ca_nil)) (ca_cons (ce_globI T.k_MOST_SWITCHES) ca_nil))) (cg_name 2 sc_read_net.nd))
    (cs_cons (cs_asg (ce_tup ca_nil) (cg_name 3 sc_read_net.nd))
    (cs_cons (cs_for (U' := []) (vs := [4, 5, 6]) (passes_of rfl) rfl (ci_enumG T.z_enumerate (ca_cons (ce_var 1) ca_nil)) (cg_tup [4, 5] rfl (cgs_cons 4 sc_read_net.nd (cgs_cons 5 sc_read_net.nd cgs_nil))) (cs_cons (cs_asg (ce_call (ok_rule_in T) out2_body (hr.mono (by decide)) (ca_cons (ce_var 5) ca_nil) (alen_cons alen_nil)) (cg_name 6 sc_read_net.nd))
    (cs_cons (cs_if (ct_w (cw_or (ct_cmp (od_eq hr.units) (ce_var 4) (ce_globI T.k_MOST_SWITCHES)) (cw_or (ct_cmp od_is (ce_var 6) ce_non) (cw_or (ct_not (ct_val (ce_call (ok_is_rule T) out2_body (hr.mono (by decide)) (ca_cons (ce_var 6) (ca_cons (ce_var 2) ca_nil)) (alen_cons (alen_cons alen_nil))))) (cw_or1 (ct_cmp (od_ne hr.units) (ce_call (ok_row_of T) out2_body (hr.mono (by decide)) (ca_cons (ce_var 4) (ca_cons (ce_var 6) ca_nil)) (alen_cons (alen_cons alen_nil))) (ce_var 5))))))) (cs_one (cs_raiseN (ok_NoText T) rfl (L2N.takes_of rfl rfl rfl rfl) (hr.mono (by decide)) (ce_var 4))) cs_nil)
    (cs_one (cs_asg (ce_bin od_add (ce_var 3) (ce_tup (ca_cons (ce_var 6) ca_nil))) (cg_name 3 sc_read_net.nd))))))
    (cs_one (cs_ret (ce_var 3))))))))) (fun _ _ _ _ _ _ us hl => match us, hl with | [_], _ => rfl)).pure
theorem ok__law_cell (T : Txt K mg) : Glo P w K mg base "_law_cell" 1 2 [] (pureF C.g__law_cell) :=
  (glo_mk (O := []) (Oc := []) (W := []) (U := []) T.d__law_cell sc__law_cell (fun f cdv A outer s H E P0 hr => (cs_cons (cs_if (ct_cmp od_lt (ce_var 1) (ce_callB cd_len T.z_len bo_len (ca_cons (ce_var 0) ca_nil))) (cs_one (cs_ret (ce_ix (ce_var 0) (ce_var 1)))) cs_nil)
    (cs_one (cs_ret (ce_bin od_add (ce_bin od_mul ce_int (ce_var 1)) ce_int))))) (fun _ _ _ _ _ _ us hl => match us, hl with | [_, _], _ => rfl)).pure
theorem ok__law_mix (T : Txt K mg) : Glo P w K mg base "_law_mix" 1 2 [] (pureF C.g__law_mix) :=
  (glo_mk (O := []) (Oc := []) (W := []) (U := []) T.d__law_mix sc__law_mix (fun f cdv A outer s H E P0 hr => (cs_cons (cs_asg (ce_bin od_add (ce_bin od_mul (ce_bin od_add (ce_var 0) ce_int) ce_int) (ce_bin od_mul ce_int (ce_var 1))) (cg_name 2 sc__law_mix.nd))
    (cs_cons (cs_asg (ce_bin od_add (ce_bin od_mod (ce_bin od_mul (ce_var 2) (ce_var 2)) ce_int) (ce_var 1)) (cg_name 2 sc__law_mix.nd))
    (cs_one (cs_ret (ce_bin od_mod (ce_bin od_mul (ce_var 2) (ce_bin od_add (ce_var 2) ce_int)) ce_int)))))) (fun _ _ _ _ _ _ us hl => match us, hl with | [_, _], _ => rfl)).pure
theorem ok__law_box (T : Txt K mg) : Glo P w K mg base "_law_box" 2 2 [] (pureF C.g__law_box) :=
  (glo_mk (O := []) (Oc := []) (W := []) (U := []) T.d__law_box sc__law_box (fun f cdv A outer s H E P0 hr => (cs_cons (cs_asg (ce_call (ok__law_cell T) out2_body (hr.mono (by decide)) (ca_cons (ce_var 0) (ca_cons (ce_var 1) ca_nil)) (alen_cons (alen_cons alen_nil))) (cg_name 2 sc__law_box.nd))
    (cs_cons (cs_if (ct_cmp (od_eq hr.units) (ce_bin od_mod (ce_var 2) ce_int) ce_int) (cs_one (cs_ret (ce_lst (ca_cons (ce_bin od_fdiv (ce_var 2) ce_int) ca_nil)))) cs_nil)
    (cs_cons (cs_asg ce_int (cg_name 3 sc__law_box.nd))
    (cs_cons (cs_for (U' := []) (vs := [4]) (passes_of rfl) rfl (ci_range1 T.z_range (ca_cons ce_int ca_nil)) (cg_name 4 sc__law_box.nd) (cs_one (cs_asg (ce_bin od_add (ce_bin od_mul (ce_var 3) ce_int) (ce_call (ok__law_mix T) out2_body (hr.mono (by decide)) (ca_cons (ce_var 2) (ca_cons (ce_var 4) ca_nil)) (alen_cons (alen_cons alen_nil)))) (cg_name 3 sc__law_box.nd))))
    (cs_one (cs_ret (ce_lst (ca_cons (ce_var 3) ca_nil))))))))) (fun _ _ _ _ _ _ us hl => match us, hl with | [_, _], _ => rfl)).pure
theorem ok__law_take (T : Txt K mg) : Glo P w K mg base "_law_take" 1 2 [0] C.g__law_take :=
  (glo_mk (O := [0]) (Oc := [0]) (W := []) (U := [0]) T.d__law_take sc__law_take (fun f cdv A outer s H E P0 hr => (cs_cons (cs_asg (ce_callB cd_divmod T.z_divmod bo_divmod (ca_cons (ce_ix (ce_own 0) ce_int) (ca_cons (ce_var 1) ca_nil))) (cg_tup [2, 3] rfl (cgs_cons 2 sc__law_take.nd (cgs_cons 3 sc__law_take.nd cgs_nil))))
    (cs_cons (cs_setix (i := 0) (ce_var 2) ce_int)
    (cs_one (cs_ret (ce_var 3)))))) (fun _ _ _ _ _ _ us hl => match us, hl with | [_, _], _ => rfl))
theorem ok__law_rule (T : Txt K mg) : Glo P w K mg base "_law_rule" 2 2 [0] C.g__law_rule :=
  (glo_mk (O := [0]) (Oc := [0, 7]) (W := [0]) (U := [0]) T.d__law_rule sc__law_rule (fun f cdv A outer s H E P0 hr => (cs_cons (cs_asg (ce_callT cd_tuple T.z_tuple bo_tuple (ca_cons (ce_slice (ce_comp rfl sc__law_rule.nd (ci_range1 T.z_range (ca_cons (ce_var 1) ca_nil)) (blkOk_by (own := [("j", 9)]) (by kernel_rfl)) (fun P0 s H C cl fp => (cg_name 9 sc__law_rule.nd)) (fun s H C cl fp => (cts_one fun P0 => (ct_cmp (od_eq hr.units) (ce_callIO (ok__law_take T) [(0, 0)] Out2.blk (hr.mono (by decide)) (ca_cons (ce_own 0) (ca_cons ce_int ca_nil)) (alen_cons (alen_cons alen_nil))) ce_int))) (fun P0 s H C cl fp => (ce_var 9))) co_none (co_some ce_int)) ca_nil)) (cg_name 2 sc__law_rule.nd))
    (cs_cons (cs_asg (ce_bin od_shl ce_int (ce_callB cd_len T.z_len bo_len (ca_cons (ce_var 2) ca_nil))) (cg_name 3 sc__law_rule.nd))
    (cs_cons (cs_if (ct_cmp od_gt (ce_callIO (ok__law_take T) [(0, 0)] out2_body (hr.mono (by decide)) (ca_cons (ce_own 0) (ca_cons ce_int ca_nil)) (alen_cons (alen_cons alen_nil))) ce_int) (cs_cons (cs_asg (ce_callIO (ok__law_take T) [(0, 0)] out2_body (hr.mono (by decide)) (ca_cons (ce_own 0) (ca_cons (ce_bin od_shl ce_int (ce_var 3)) ca_nil)) (alen_cons (alen_cons alen_nil))) (cg_name 4 sc__law_rule.nd))
    (cs_one (cs_ret (ce_tup (ca_cons (ce_var 2) (ca_cons (ce_callT cd_tuple T.z_tuple bo_tuple (ca_cons (ce_comp rfl sc__law_rule.nd (ci_range1 T.z_range (ca_cons (ce_var 3) ca_nil)) (blkOk_by (own := [("place", 8)]) (by kernel_rfl)) (fun P0 s H C cl fp => (cg_name 8 sc__law_rule.nd)) (fun s H C cl fp => cts_nil) (fun P0 s H C cl fp => (ce_bin od_and (ce_bin od_shr (ce_var 4) (ce_var 8)) ce_int))) ca_nil)) ca_nil)))))) cs_nil)
    (cs_cons (cs_asg (ce_callIO (ok__law_take T) [(0, 0)] out2_body (hr.mono (by decide)) (ca_cons (ce_own 0) (ca_cons (ce_var 3) ca_nil)) (alen_cons (alen_cons alen_nil))) (cg_name 5 sc__law_rule.nd))
    (cs_cons (cs_asg (ce_callIO (ok__law_take T) [(0, 0)] out2_body (hr.mono (by decide)) (ca_cons (ce_own 0) (ca_cons (ce_bin od_add (ce_callB cd_len T.z_len bo_len (ca_cons (ce_var 2) ca_nil)) ce_int) ca_nil)) (alen_cons (alen_cons alen_nil))) (cg_name 6 sc__law_rule.nd))
    (cs_cons (cs_own (i := 7) sc__law_rule.nd (ce_lst ca_nil))
    (cs_cons (cs_for (U' := [0]) (vs := [8]) (passes_of rfl) rfl (ci_range1 T.z_range (ca_cons (ce_var 3) ca_nil)) (cg_name 8 sc__law_rule.nd) (cs_one (cs_append (i := 7) (ce_callT cd_int T.z_int bo_int (ca_cons (ce_cmp od_ge (ce_callB (cd_sum rfl) T.z_sum bo_sum (ca_cons (ce_comp rfl sc__law_rule.nd (ci_range1 T.z_range (ca_cons (ce_callB cd_len T.z_len bo_len (ca_cons (ce_var 2) ca_nil)) ca_nil)) (blkOk_by (own := [("j", 9)]) (by kernel_rfl)) (fun P0 s H C cl fp => (cg_name 9 sc__law_rule.nd)) (fun s H C cl fp => cts_nil) (fun P0 s H C cl fp => (ce_bin od_and (ce_bin od_shr (ce_bin od_xor (ce_var 8) (ce_var 5)) (ce_var 9)) ce_int))) ca_nil)) (ce_var 6)) ca_nil)))))
    (cs_one (cs_ret (ce_tup (ca_cons (ce_var 2) (ca_cons (ce_callT cd_tuple T.z_tuple bo_tuple (ca_cons (ce_own 7) ca_nil)) ca_nil))))))))))))) (fun _ _ _ _ _ _ us hl => match us, hl with | [_, _], _ => rfl))
theorem ok__law_net (T : Txt K mg) : Glo P w K mg base "_law_net" 3 2 [0] C.g__law_net :=
  (glo_mk (O := [0]) (Oc := [0]) (W := [0]) (U := [0]) T.d__law_net sc__law_net (fun f cdv A outer s H E P0 hr => (cs_cons (cs_asg (ce_bin od_add ce_int (ce_callIO (ok__law_take T) [(0, 0)] out2_body (hr.mono (by decide)) (ca_cons (ce_own 0) (ca_cons (ce_var 1) ca_nil)) (alen_cons (alen_cons alen_nil)))) (cg_name 2 sc__law_net.nd))
    (cs_one (cs_ret (ce_callT cd_tuple T.z_tuple bo_tuple (ca_cons (ce_comp rfl sc__law_net.nd (ci_range1 T.z_range (ca_cons (ce_var 2) ca_nil)) (blkOk_by (own := [("k", 3)]) (by kernel_rfl)) (fun P0 s H C cl fp => (cg_name 3 sc__law_net.nd)) (fun s H C cl fp => cts_nil) (fun P0 s H C cl fp => (ce_callIO (ok__law_rule T) [(0, 0)] Out2.blk (hr.mono (by decide)) (ca_cons (ce_own 0) (ca_cons (ce_var 2) ca_nil)) (alen_cons (alen_cons alen_nil))))) ca_nil)))))) (fun _ _ _ _ _ _ us hl => match us, hl with | [_, _], _ => rfl))
theorem okw__law_whole (T : Txt K mg) : GloW P w K mg base "_law_whole" 2 :=
  gloW_mk (m := C.m__law_whole) T.d__law_whole sc__law_whole (fun f cdv A outer s H E p => (cs_one (cs_ret (ce_and (ce_isi isk_int T.z_isinstance T.z_int (ce_var 0) bo_isinstance bo_int) (ce_one (ce_not (ce_isi isk_bool T.z_isinstance T.z_bool (ce_var 0) bo_isinstance bo_bool))))))) (fun _ _ _ _ _ _ us hl => match us, hl with | [_], _ => rfl) (fun k => ⟨_, _, rfl, rfl⟩)

theorem ok__law_row (T : Txt K mg) : Glo P w K mg base "_law_row" 1 2 [] (pureF C.g__law_row_2) :=
  (glo_mk (O := []) (Oc := []) (W := []) (U := []) T.d__law_row sc__law_row (fun f cdv A outer s H E P0 hr => (cs_cons (cs_asg (ce_bin od_add (ce_bin od_add (ce_lst (ca_cons (ce_bin od_add (ce_callT cd_str T.z_str bo_str (ca_cons (ce_var 0) ca_nil)) ce_str) ca_nil)) (ce_comp rfl sc__law_row.nd (ci_any (ce_ix (ce_var 1) ce_int)) (blkOk_by (own := [("ear", 3)]) (by kernel_rfl)) (fun P0 s H C cl fp => (cg_name 3 sc__law_row.nd)) (fun s H C cl fp => cts_nil) (fun P0 s H C cl fp => (ce_callT cd_str T.z_str bo_str (ca_cons (ce_var 3) ca_nil))))) (ce_lst (ca_cons ce_str ca_nil))) (cg_name 2 sc__law_row.nd))
    (cs_one (cs_ret (ce_bin od_add (ce_bin od_add (ce_join ce_str (ce_var 2)) ce_str) (ce_join ce_str (ce_comp rfl sc__law_row.nd (ci_any (ce_ix (ce_var 1) ce_int)) (blkOk_by (own := [("bit", 4)]) (by kernel_rfl)) (fun P0 s H C cl fp => (cg_name 4 sc__law_row.nd)) (fun s H C cl fp => cts_nil) (fun P0 s H C cl fp => (ce_ix ce_str (ce_var 4)))))))))) (fun _ _ _ _ _ _ us hl => match us, hl with | [_, _], _ => rfl)).pure
theorem ok__law_rule_in (T : Txt K mg) : Glo P w K mg base "_law_rule_in" 1 3 [] (pureF C.g__law_rule_in) :=
  (glo_mk (O := []) (Oc := []) (W := []) (U := []) T.d__law_rule_in sc__law_rule_in (fun f cdv A outer s H E P0 hr => (cs_cons (cs_asg (ce_split (ce_var 0) ce_str) (cg_name 3 sc__law_rule_in.nd))
    (cs_cons (cs_if (ct_w (cw_or (ct_cmp od_lt (ce_callB cd_len T.z_len bo_len (ca_cons (ce_var 3) ca_nil)) ce_int) (cw_or (ct_cmp (od_ne hr.units) (ce_ix (ce_var 3) ce_int) (ce_bin od_add (ce_callT cd_str T.z_str bo_str (ca_cons (ce_var 1) ca_nil)) ce_str)) (cw_or (ct_cmp (od_ne hr.units) (ce_ix (ce_var 3) (ce_neg ce_int)) ce_str) (cw_or1 (ct_cmp od_gt (ce_callB cd_len T.z_len bo_len (ca_cons (ce_var 3) ca_nil)) ce_int)))))) (cs_one (cs_ret ce_non)) cs_nil)
    (cs_cons (cs_asg (ce_slice (ce_var 3) (co_some ce_int) (co_some (ce_neg ce_int))) (cg_name 4 sc__law_rule_in.nd))
    (cs_cons (cs_if (ct_w (cw_or (ct_cmp (od_ne hr.units) (ce_comp rfl sc__law_rule_in.nd (ci_any (ce_var 4)) (blkOk_by (own := [("word", 6)]) (by kernel_rfl)) (fun P0 s H C cl fp => (cg_name 6 sc__law_rule_in.nd)) (fun s H C cl fp => (cts_one fun P0 => (ct_w (cw_or (ct_cmp (od_ne hr.units) (ce_callB cd_len T.z_len bo_len (ca_cons (ce_var 6) ca_nil)) ce_int) (cw_or1 (ct_cmp (od_nin hr.units65) (ce_var 6) ce_str)))))) (fun P0 s H C cl fp => (ce_var 6))) (ce_lst ca_nil)) (cw_or1 (ct_cmp (od_ne hr.units) (ce_setSortS rfl T.z_sorted T.z_set (ce_var 4)) (ce_var 4))))) (cs_one (cs_ret ce_non)) cs_nil)
    (cs_cons (cs_if (ct_w (cw_or (ct_cmp (od_ne hr.units) (ce_comp rfl sc__law_rule_in.nd (ci_any (ce_var 4)) (blkOk_by (own := [("word", 6)]) (by kernel_rfl)) (fun P0 s H C cl fp => (cg_name 6 sc__law_rule_in.nd)) (fun s H C cl fp => (cts_one fun P0 => (ct_cmp od_ge (ce_callT cd_int T.z_int bo_int (ca_cons (ce_var 6) ca_nil)) (ce_var 2)))) (fun P0 s H C cl fp => (ce_var 6))) (ce_lst ca_nil)) (cw_or1 (ct_cmp (od_ne hr.units) (ce_callB cd_len T.z_len bo_len (ca_cons (ce_ix (ce_var 3) (ce_neg ce_int)) ca_nil)) (ce_bin od_shl ce_int (ce_callB cd_len T.z_len bo_len (ca_cons (ce_var 4) ca_nil))))))) (cs_one (cs_ret ce_non)) cs_nil)
    (cs_cons (cs_if (ct_cmp (od_ne hr.units) (ce_comp rfl sc__law_rule_in.nd (ci_any (ce_ix (ce_var 3) (ce_neg ce_int))) (blkOk_by (own := [("sign", 5)]) (by kernel_rfl)) (fun P0 s H C cl fp => (cg_name 5 sc__law_rule_in.nd)) (fun s H C cl fp => (cts_one fun P0 => (ct_cmp (od_nin hr.units65) (ce_var 5) ce_str))) (fun P0 s H C cl fp => (ce_var 5))) (ce_lst ca_nil)) (cs_one (cs_ret ce_non)) cs_nil)
    (cs_one (cs_ret (ce_tup (ca_cons (ce_callT cd_tuple T.z_tuple bo_tuple (ca_cons (ce_comp rfl sc__law_rule_in.nd (ci_any (ce_var 4)) (blkOk_by (own := [("word", 6)]) (by kernel_rfl)) (fun P0 s H C cl fp => (cg_name 6 sc__law_rule_in.nd)) (fun s H C cl fp => cts_nil) (fun P0 s H C cl fp => (ce_callT cd_int T.z_int bo_int (ca_cons (ce_var 6) ca_nil)))) ca_nil)) (ca_cons (ce_callT cd_tuple T.z_tuple bo_tuple (ca_cons (ce_comp rfl sc__law_rule_in.nd (ci_any (ce_ix (ce_var 3) (ce_neg ce_int))) (blkOk_by (own := [("sign", 5)]) (by kernel_rfl)) (fun P0 s H C cl fp => (cg_name 5 sc__law_rule_in.nd)) (fun s H C cl fp => cts_nil) (fun P0 s H C cl fp => (ce_callT cd_int T.z_int bo_int (ca_cons (ce_var 5) ca_nil)))) ca_nil)) ca_nil)))))))))))) (fun _ _ _ _ _ _ us hl => match us, hl with | [_, _, _], _ => rfl)).pure
theorem ok__law_due (T : Txt K mg) : Glo P w K mg base "_law_due" 2 1 [] (pureF C.g__law_due_14) :=
  (glo_mk (O := []) (Oc := [2]) (W := []) (U := []) T.d__law_due sc__law_due (fun f cdv A outer s H E P0 hr => (cs_cons (cs_if (ct_not (ct_val (ce_isi isk_str T.z_isinstance T.z_str (ce_var 0) bo_isinstance bo_str))) (cs_one (cs_ret (ce_tup (ca_cons ce_str (ca_cons ce_int ca_nil))))) cs_nil)
    (cs_cons (cs_asg (ce_split (ce_var 0) ce_str) (cg_name 1 sc__law_due.nd))
    (cs_cons (cs_own (i := 2) sc__law_due.nd (ce_lst ca_nil))
    (cs_cons (cs_for (U' := []) (vs := [3, 4, 5]) (passes_of rfl) rfl (ci_enumG T.z_enumerate (ca_cons (ce_var 1) ca_nil)) (cg_tup [3, 4] rfl (cgs_cons 3 sc__law_due.nd (cgs_cons 4 sc__law_due.nd cgs_nil))) (cs_cons (cs_asg (ce_call (ok__law_rule_in T) out2_body (hr.mono (by decide)) (ca_cons (ce_var 4) (ca_cons (ce_var 3) (ca_cons (ce_callB (cd_min rfl) T.z_min bo_min (ca_cons ce_int (ca_cons (ce_callB cd_len T.z_len bo_len (ca_cons (ce_var 1) ca_nil)) ca_nil))) ca_nil))) (alen_cons (alen_cons (alen_cons alen_nil)))) (cg_name 5 sc__law_due.nd))
    (cs_cons (cs_if (ct_w (cw_or (ct_cmp od_is (ce_var 5) ce_non) (cw_or1 (ct_cmp (od_eq hr.units) (ce_var 3) ce_int)))) (cs_one (cs_ret (ce_tup (ca_cons ce_str (ca_cons (ce_var 3) ca_nil))))) cs_nil)
    (cs_one (cs_append (i := 2) (ce_var 5))))))
    (cs_one (cs_ret (ce_tup (ca_cons ce_str (ca_cons (ce_callT cd_tuple T.z_tuple bo_tuple (ca_cons (ce_own 2) ca_nil)) ca_nil)))))))))) (fun _ _ _ _ _ _ us hl => match us, hl with | [_], _ => rfl)).pure
theorem ok__law_said (T : Txt K mg) : Glo P w K mg base "_law_said" 6 1 [] (pureF C.g__law_said_10) :=
  (glo_mk (O := []) (Oc := []) (W := []) (U := []) T.d__law_said sc__law_said (fun f cdv A outer s H E P0 hr => (cs_one (cs_saidF (i := 0) (j := 1) T.said sc__law_said.nd rfl (fun Ws pn xe tk => said_body (said_call (ok_read_net T) tk (hr.mono (by decide)))) (fun C Z hkk hC hno a dd k oe pn hz hf => said_if (said_or (said_not (said_isi Z hkk hC hz.zc hf List.mem_cons_self T.z_isinstance)) (said_not (said_whole (okw__law_whole T) (roomH_suite hr) ⟨(a, oe), hot_ofD rfl hz hf, List.mem_cons_self⟩ (pe_rowE (i := 1) (Y.ExcC.xf Z) hno hz.zc hf rfl (Or.inl rfl) (by decide) (by decide) rfl)))) (said_ret (pe_rowE (i := 1) (Y.ExcC.xf Z) hno hz.zc hf rfl (Or.inl rfl) (by decide) (by decide) rfl)))))) (fun _ _ _ _ _ _ us hl => match us, hl with | [_], _ => rfl)).pure
theorem ok__law_bent (T : Txt K mg) : Glo P w K mg base "_law_bent" 2 2 [0] C.g__law_bent_4 :=
  (glo_mk (O := [0]) (Oc := [0]) (W := [0]) (U := [0]) T.d__law_bent sc__law_bent (fun f cdv A outer s H E P0 hr => (cs_cons (cs_asg (ce_callIO (ok__law_take T) [(0, 0)] out2_body (hr.mono (by decide)) (ca_cons (ce_own 0) (ca_cons (ce_callB cd_len T.z_len bo_len (ca_cons (ce_var 1) ca_nil)) ca_nil)) (alen_cons (alen_cons alen_nil))) (cg_name 2 sc__law_bent.nd))
    (cs_cons (cs_asg (ce_ix (ce_var 1) (ce_var 2)) (cg_name 3 sc__law_bent.nd))
    (cs_cons (cs_asg (ce_callIO (ok__law_take T) [(0, 0)] out2_body (hr.mono (by decide)) (ca_cons (ce_own 0) (ca_cons (ce_bin od_add (ce_callB cd_len T.z_len bo_len (ca_cons (ce_var 3) ca_nil)) ce_int) ca_nil)) (alen_cons (alen_cons alen_nil))) (cg_name 4 sc__law_bent.nd))
    (cs_cons (cs_asg (ce_ix ce_str (ce_callIO (ok__law_take T) [(0, 0)] out2_body (hr.mono (by decide)) (ca_cons (ce_own 0) (ca_cons ce_int ca_nil)) (alen_cons (alen_cons alen_nil)))) (cg_name 5 sc__law_bent.nd))
    (cs_cons (cs_asg (ce_lst (ca_cons (ce_bin od_add (ce_bin od_add (ce_slice (ce_var 3) co_none (co_some (ce_var 4))) (ce_var 5)) (ce_slice (ce_var 3) (co_some (ce_var 4)) co_none)) (ca_cons (ce_bin od_add (ce_slice (ce_var 3) co_none (co_some (ce_var 4))) (ce_slice (ce_var 3) (co_some (ce_bin od_add (ce_var 4) ce_int)) co_none)) (ca_cons (ce_bin od_add (ce_bin od_add (ce_slice (ce_var 3) co_none (co_some (ce_var 4))) (ce_var 5)) (ce_slice (ce_var 3) (co_some (ce_bin od_add (ce_var 4) ce_int)) co_none)) ca_nil)))) (cg_name 6 sc__law_bent.nd))
    (cs_cons (cs_asg (ce_bin od_add (ce_callT cd_str T.z_str bo_str (ca_cons (ce_var 2) ca_nil)) ce_str) (cg_name 7 sc__law_bent.nd))
    (cs_cons (cs_asg (ce_bin od_add (ce_var 6) (ce_lst (ca_cons (ce_bin od_add (ce_var 7) ce_str) (ca_cons (ce_bin od_add (ce_var 7) ce_str) (ca_cons (ce_bin od_add (ce_var 7) ce_str) (ca_cons (ce_bin od_add (ce_var 7) ce_str) (ca_cons (ce_bin od_add (ce_var 7) ce_str) (ca_cons (ce_bin od_add (ce_var 7) ce_str) ca_nil)))))))) (cg_name 6 sc__law_bent.nd))
    (cs_cons (cs_asg (ce_bin od_add (ce_var 6) (ce_lst (ca_cons (ce_bin od_add (ce_bin od_add (ce_var 7) ce_str) (ce_bin od_mul ce_str ce_int)) (ca_cons (ce_bin od_add (ce_var 7) ce_str) (ca_cons (ce_bin od_add (ce_var 7) ce_str) (ca_cons (ce_bin od_add (ce_var 7) ce_str) (ca_cons ce_str ca_nil))))))) (cg_name 6 sc__law_bent.nd))
    (cs_cons (cs_asg (ce_bin od_add (ce_var 6) (ce_lst (ca_cons (ce_bin od_add (ce_var 7) ce_str) (ca_cons (ce_bin od_add ce_str (ce_var 3)) (ca_cons (ce_bin od_add (ce_var 3) ce_str) (ca_cons (ce_bin od_add ce_str (ce_var 3)) (ca_cons (ce_bin od_add (ce_var 7) ce_str) (ca_cons (ce_bin od_add (ce_var 7) ce_str) (ca_cons (ce_bin od_add (ce_var 3) ce_str) ca_nil))))))))) (cg_name 6 sc__law_bent.nd))
    (cs_cons (cs_asg (ce_callIO (ok__law_take T) [(0, 0)] out2_body (hr.mono (by decide)) (ca_cons (ce_own 0) (ca_cons ce_int ca_nil)) (alen_cons (alen_cons alen_nil))) (cg_name 8 sc__law_bent.nd))
    (cs_cons (cs_if (ct_cmp (od_eq hr.units) (ce_var 8) ce_int) (cs_one (cs_ret (ce_bin od_add (ce_slice (ce_var 1) co_none (co_some (ce_var 2))) (ce_slice (ce_var 1) (co_some (ce_bin od_add (ce_var 2) ce_int)) co_none)))) cs_nil)
    (cs_cons (cs_if (ct_cmp (od_eq hr.units) (ce_var 8) ce_int) (cs_one (cs_ret (ce_bin od_add (ce_slice (ce_var 1) co_none (co_some (ce_bin od_add (ce_var 2) ce_int))) (ce_slice (ce_var 1) (co_some (ce_var 2)) co_none)))) cs_nil)
    (cs_cons (cs_if (ct_cmp (od_eq hr.units) (ce_var 8) ce_int) (cs_one (cs_ret (ce_bin od_add (ce_var 1) (ce_comp rfl sc__law_bent.nd (ci_range2 T.z_range (ca_cons (ce_callB cd_len T.z_len bo_len (ca_cons (ce_var 1) ca_nil)) (ca_cons (ce_bin od_add ce_int (ce_callIO (ok__law_take T) [(0, 0)] out2_body (hr.mono (by decide)) (ca_cons (ce_own 0) (ca_cons ce_int ca_nil)) (alen_cons (alen_cons alen_nil)))) ca_nil))) (blkOk_by (own := [("j", 9)]) (by kernel_rfl)) (fun P0 s H C cl fp => (cg_name 9 sc__law_bent.nd)) (fun s H C cl fp => cts_nil) (fun P0 s H C cl fp => (ce_bin od_add (ce_callT cd_str T.z_str bo_str (ca_cons (ce_var 9) ca_nil)) ce_str)))))) cs_nil)
    (cs_cons (cs_if (ct_cmp (od_eq hr.units) (ce_var 8) ce_int) (cs_one (cs_ret (ce_bin od_add (ce_slice (ce_var 1) (co_some (ce_var 2)) co_none) (ce_slice (ce_var 1) co_none (co_some (ce_var 2)))))) cs_nil)
    (cs_one (cs_ret (ce_bin od_add (ce_bin od_add (ce_slice (ce_var 1) co_none (co_some (ce_var 2))) (ce_lst (ca_cons (ce_ix (ce_var 6) (ce_callIO (ok__law_take T) [(0, 0)] out2_body (hr.mono (by decide)) (ca_cons (ce_own 0) (ca_cons (ce_callB cd_len T.z_len bo_len (ca_cons (ce_var 6) ca_nil)) ca_nil)) (alen_cons (alen_cons alen_nil)))) ca_nil))) (ce_slice (ce_var 1) (co_some (ce_bin od_add (ce_var 2) ce_int)) co_none))))))))))))))))))) (fun _ _ _ _ _ _ us hl => match us, hl with | [_, _], _ => rfl))
theorem ok_law (T : Txt K mg) {f : Addr} {fd : FuncData} (F : Fun K "law" "law" s_law f fd) : FnOk P w K mg base (L2N.CX P w) 7 f fd ["script"] (spD K mg 1 [] (pureF C.g_law_k06)) :=
  law_fn (Oc := [2]) (W := [2]) F sc_law (fun f cdv A outer s H E P0 hr => (cs_cons (cs_for (U' := []) (vs := [1, 2, 3, 4, 5, 6, 7]) (passes_of rfl) rfl (ci_range1 T.z_range (ca_cons (ce_callB (cd_max rfl) T.z_max bo_max (ca_cons ce_int (ca_cons (ce_callB (cd_min rfl) T.z_min bo_min (ca_cons (ce_callB cd_len T.z_len bo_len (ca_cons (ce_var 0) ca_nil)) (ca_cons ce_int ca_nil))) ca_nil))) ca_nil)) (cg_name 1 sc_law.nd) (cs_cons (cs_own (i := 2) sc_law.nd (ce_call (ok__law_box T) out2_body (hr.mono (by decide)) (ca_cons (ce_var 0) (ca_cons (ce_var 1) ca_nil)) (alen_cons (alen_cons alen_nil))))
    (cs_cons (cs_asg (ce_callIO (ok__law_net T) [(0, 2)] out2_body (hr.mono (by decide)) (ca_cons (ce_own 2) (ca_cons ce_int ca_nil)) (alen_cons (alen_cons alen_nil))) (cg_name 3 sc_law.nd))
    (cs_cons (cs_asgLc (i := 4) rfl sc_law.nd rfl rfl (sw_true rfl rfl rfl (by decide +kernel)) (ci_enumG T.z_enumerate (ca_cons (ce_var 3) ca_nil)) (blkOk_by (own := [("number", 8), ("rule", 9)]) (by kernel_rfl)) (fun P0 s H C cl fp => (cg_tup [8, 9] rfl (cgs_cons 8 sc_law.nd (cgs_cons 9 sc_law.nd cgs_nil)))) (fun s H C cl fp => cts_nil) (fun P0 s H C cl fp => (ce_call (ok__law_row T) Out2.blk (hr.mono (by decide)) (ca_cons (ce_var 8) (ca_cons (ce_var 9) ca_nil)) (alen_cons (alen_cons alen_nil)))))
    (cs_cons (cs_for (U' := []) (vs := [5, 6]) (passes_of rfl) rfl (ci_range1 T.z_range (ca_cons ce_int ca_nil)) (cg_name 5 sc_law.nd) (cs_cons (cs_asg (ce_join ce_str (ce_callIO (ok__law_bent T) [(0, 2)] out2_body (hr.mono (by decide)) (ca_cons (ce_own 2) (ca_cons (ce_var 4) ca_nil)) (alen_cons (alen_cons alen_nil)))) (cg_name 6 sc_law.nd))
    (cs_one (cs_if (ct_cmp (od_ne hr.units) (ce_call (ok__law_said T) out2_body (hr.mono (by decide)) (ca_cons (ce_var 6) ca_nil) (alen_cons alen_nil)) (ce_call (ok__law_due T) out2_body (hr.mono (by decide)) (ca_cons (ce_var 6) ca_nil) (alen_cons alen_nil))) (cs_one (cs_ret ce_bl)) cs_nil))))
    (cs_cons (cs_asg (ce_ix (ce_lst (ca_cons ce_non (ca_cons ce_int (ca_cons ce_bl (ca_cons (ce_var 4) (ca_cons (ce_var 3) (ca_cons (ce_tup ca_nil) (ca_cons ce_dicS ca_nil)))))))) (ce_callIO (ok__law_take T) [(0, 2)] out2_body (hr.mono (by decide)) (ca_cons (ce_own 2) (ca_cons ce_int ca_nil)) (alen_cons (alen_cons alen_nil)))) (cg_name 7 sc_law.nd))
    (cs_one (cs_if (ct_w (cw_or (ct_cmp (od_ne hr.units) (ce_call (ok__law_said T) out2_body (hr.mono (by decide)) (ca_cons (ce_var 7) ca_nil) (alen_cons alen_nil)) (ce_tup (ca_cons ce_str (ca_cons ce_int ca_nil)))) (cw_or1 (ct_cmp (od_ne hr.units) (ce_call (ok__law_said T) out2_body (hr.mono (by decide)) (ca_cons (ce_join ce_str (ce_var 4)) ca_nil) (alen_cons alen_nil)) (ce_tup (ca_cons ce_str (ca_cons (ce_var 3) ca_nil))))))) (cs_one (cs_ret ce_bl)) cs_nil))))))))
    (cs_one (cs_ret (ce_cmp (od_eq hr.units) (ce_call (ok__law_said T) out2_body (hr.mono (by decide)) (ca_cons ce_str ca_nil) (alen_cons alen_nil)) (ce_tup (ca_cons ce_str (ca_cons ce_int ca_nil))))))))
end
end K06

namespace K06
theorem good_law : Y.Good C.g_law_k06 63 := H.good_k06
end K06

namespace K06
open PySem PySem.Spec PyProof.Rows L2 Y
theorem all {l : PySem.W.OpenLaw} {w : World} {K : PySem.W.Frag} {h : Heap} {mg : Str → Option Value} {fa : Addr} (X : K.In h) (G : h.Ns mainGlobals mg) (hfa : mg "law" = some (.ref fa)) (hg : Good C.g_law_k06 63)
{f0 : Addr} {od0 an0 : Option Addr} {sl0 : Array (Option Value)} {oc0 kV0 dc0 pm0 cd0 ct0 : Value}
    (a0 : PySem.W.nsIn K mainGlobals "is_whole" = some (some (.ref f0))) (l0 : K.lookup f0 = some ⟨oc0, od0, .func (PySem.W.fnOf "is_whole" "is_whole" (defArgs s_is_whole) (defBody s_is_whole) (defScope s_is_whole) .none kV0 dc0 pm0 an0 cd0 ct0), sl0⟩) (c0 : PySem.W.codeIn K cd0 "is_whole" = true) (k0 : PySem.W.keepIn K (.ref f0) = true)
{f1 : Addr} {od1 an1 : Option Addr} {sl1 : Array (Option Value)} {oc1 kV1 dc1 pm1 cd1 ct1 : Value}
    (a1 : PySem.W.nsIn K mainGlobals "is_upto" = some (some (.ref f1))) (l1 : K.lookup f1 = some ⟨oc1, od1, .func (PySem.W.fnOf "is_upto" "is_upto" (defArgs s_is_upto) (defBody s_is_upto) (defScope s_is_upto) .none kV1 dc1 pm1 an1 cd1 ct1), sl1⟩) (c1 : PySem.W.codeIn K cd1 "is_upto" = true) (k1 : PySem.W.keepIn K (.ref f1) = true)
{f2 : Addr} {od2 an2 : Option Addr} {sl2 : Array (Option Value)} {oc2 kV2 dc2 pm2 cd2 ct2 : Value}
    (a2 : PySem.W.nsIn K mainGlobals "are_bits" = some (some (.ref f2))) (l2 : K.lookup f2 = some ⟨oc2, od2, .func (PySem.W.fnOf "are_bits" "are_bits" (defArgs s_are_bits) (defBody s_are_bits) (defScope s_are_bits) .none kV2 dc2 pm2 an2 cd2 ct2), sl2⟩) (c2 : PySem.W.codeIn K cd2 "are_bits" = true) (k2 : PySem.W.keepIn K (.ref f2) = true)
{f3 : Addr} {od3 an3 : Option Addr} {sl3 : Array (Option Value)} {oc3 kV3 dc3 pm3 cd3 ct3 : Value}
    (a3 : PySem.W.nsIn K mainGlobals "are_rising" = some (some (.ref f3))) (l3 : K.lookup f3 = some ⟨oc3, od3, .func (PySem.W.fnOf "are_rising" "are_rising" (defArgs s_are_rising) (defBody s_are_rising) (defScope s_are_rising) .none kV3 dc3 pm3 an3 cd3 ct3), sl3⟩) (c3 : PySem.W.codeIn K cd3 "are_rising" = true) (k3 : PySem.W.keepIn K (.ref f3) = true)
{f4 : Addr} {od4 an4 : Option Addr} {sl4 : Array (Option Value)} {oc4 kV4 dc4 pm4 cd4 ct4 : Value}
    (a4 : PySem.W.nsIn K mainGlobals "is_rule" = some (some (.ref f4))) (l4 : K.lookup f4 = some ⟨oc4, od4, .func (PySem.W.fnOf "is_rule" "is_rule" (defArgs s_is_rule) (defBody s_is_rule) (defScope s_is_rule) .none kV4 dc4 pm4 an4 cd4 ct4), sl4⟩) (c4 : PySem.W.codeIn K cd4 "is_rule" = true) (k4 : PySem.W.keepIn K (.ref f4) = true)
{f5 : Addr} {od5 an5 : Option Addr} {sl5 : Array (Option Value)} {oc5 kV5 dc5 pm5 cd5 ct5 : Value}
    (a5 : PySem.W.nsIn K mainGlobals "row_of" = some (some (.ref f5))) (l5 : K.lookup f5 = some ⟨oc5, od5, .func (PySem.W.fnOf "row_of" "row_of" (defArgs s_row_of) (defBody s_row_of) (defScope s_row_of) .none kV5 dc5 pm5 an5 cd5 ct5), sl5⟩) (c5 : PySem.W.codeIn K cd5 "row_of" = true) (k5 : PySem.W.keepIn K (.ref f5) = true)
{f6 : Addr} {od6 an6 : Option Addr} {sl6 : Array (Option Value)} {oc6 kV6 dc6 pm6 cd6 ct6 : Value}
    (a6 : PySem.W.nsIn K mainGlobals "numbers_in" = some (some (.ref f6))) (l6 : K.lookup f6 = some ⟨oc6, od6, .func (PySem.W.fnOf "numbers_in" "numbers_in" (defArgs s_numbers_in) (defBody s_numbers_in) (defScope s_numbers_in) .none kV6 dc6 pm6 an6 cd6 ct6), sl6⟩) (c6 : PySem.W.codeIn K cd6 "numbers_in" = true) (k6 : PySem.W.keepIn K (.ref f6) = true)
{f7 : Addr} {od7 an7 : Option Addr} {sl7 : Array (Option Value)} {oc7 kV7 dc7 pm7 cd7 ct7 : Value}
    (a7 : PySem.W.nsIn K mainGlobals "rule_in" = some (some (.ref f7))) (l7 : K.lookup f7 = some ⟨oc7, od7, .func (PySem.W.fnOf "rule_in" "rule_in" (defArgs s_rule_in) (defBody s_rule_in) (defScope s_rule_in) .none kV7 dc7 pm7 an7 cd7 ct7), sl7⟩) (c7 : PySem.W.codeIn K cd7 "rule_in" = true) (k7 : PySem.W.keepIn K (.ref f7) = true)
{f8 : Addr} {od8 an8 : Option Addr} {sl8 : Array (Option Value)} {oc8 kV8 dc8 pm8 cd8 ct8 : Value}
    (a8 : PySem.W.nsIn K mainGlobals "read_net" = some (some (.ref f8))) (l8 : K.lookup f8 = some ⟨oc8, od8, .func (PySem.W.fnOf "read_net" "read_net" (defArgs s_read_net) (defBody s_read_net) (defScope s_read_net) .none kV8 dc8 pm8 an8 cd8 ct8), sl8⟩) (c8 : PySem.W.codeIn K cd8 "read_net" = true) (k8 : PySem.W.keepIn K (.ref f8) = true)
{f9 : Addr} {od9 an9 : Option Addr} {sl9 : Array (Option Value)} {oc9 kV9 dc9 pm9 cd9 ct9 : Value}
    (a9 : PySem.W.nsIn K mainGlobals "_law_cell" = some (some (.ref f9))) (l9 : K.lookup f9 = some ⟨oc9, od9, .func (PySem.W.fnOf "_law_cell" "_law_cell" (defArgs s__law_cell) (defBody s__law_cell) (defScope s__law_cell) .none kV9 dc9 pm9 an9 cd9 ct9), sl9⟩) (c9 : PySem.W.codeIn K cd9 "_law_cell" = true) (k9 : PySem.W.keepIn K (.ref f9) = true)
{f10 : Addr} {od10 an10 : Option Addr} {sl10 : Array (Option Value)} {oc10 kV10 dc10 pm10 cd10 ct10 : Value}
    (a10 : PySem.W.nsIn K mainGlobals "_law_mix" = some (some (.ref f10))) (l10 : K.lookup f10 = some ⟨oc10, od10, .func (PySem.W.fnOf "_law_mix" "_law_mix" (defArgs s__law_mix) (defBody s__law_mix) (defScope s__law_mix) .none kV10 dc10 pm10 an10 cd10 ct10), sl10⟩) (c10 : PySem.W.codeIn K cd10 "_law_mix" = true) (k10 : PySem.W.keepIn K (.ref f10) = true)
{f11 : Addr} {od11 an11 : Option Addr} {sl11 : Array (Option Value)} {oc11 kV11 dc11 pm11 cd11 ct11 : Value}
    (a11 : PySem.W.nsIn K mainGlobals "_law_box" = some (some (.ref f11))) (l11 : K.lookup f11 = some ⟨oc11, od11, .func (PySem.W.fnOf "_law_box" "_law_box" (defArgs s__law_box) (defBody s__law_box) (defScope s__law_box) .none kV11 dc11 pm11 an11 cd11 ct11), sl11⟩) (c11 : PySem.W.codeIn K cd11 "_law_box" = true) (k11 : PySem.W.keepIn K (.ref f11) = true)
{f12 : Addr} {od12 an12 : Option Addr} {sl12 : Array (Option Value)} {oc12 kV12 dc12 pm12 cd12 ct12 : Value}
    (a12 : PySem.W.nsIn K mainGlobals "_law_take" = some (some (.ref f12))) (l12 : K.lookup f12 = some ⟨oc12, od12, .func (PySem.W.fnOf "_law_take" "_law_take" (defArgs s__law_take) (defBody s__law_take) (defScope s__law_take) .none kV12 dc12 pm12 an12 cd12 ct12), sl12⟩) (c12 : PySem.W.codeIn K cd12 "_law_take" = true) (k12 : PySem.W.keepIn K (.ref f12) = true)
{f13 : Addr} {od13 an13 : Option Addr} {sl13 : Array (Option Value)} {oc13 kV13 dc13 pm13 cd13 ct13 : Value}
    (a13 : PySem.W.nsIn K mainGlobals "_law_rule" = some (some (.ref f13))) (l13 : K.lookup f13 = some ⟨oc13, od13, .func (PySem.W.fnOf "_law_rule" "_law_rule" (defArgs s__law_rule) (defBody s__law_rule) (defScope s__law_rule) .none kV13 dc13 pm13 an13 cd13 ct13), sl13⟩) (c13 : PySem.W.codeIn K cd13 "_law_rule" = true) (k13 : PySem.W.keepIn K (.ref f13) = true)
{f14 : Addr} {od14 an14 : Option Addr} {sl14 : Array (Option Value)} {oc14 kV14 dc14 pm14 cd14 ct14 : Value}
    (a14 : PySem.W.nsIn K mainGlobals "_law_net" = some (some (.ref f14))) (l14 : K.lookup f14 = some ⟨oc14, od14, .func (PySem.W.fnOf "_law_net" "_law_net" (defArgs s__law_net) (defBody s__law_net) (defScope s__law_net) .none kV14 dc14 pm14 an14 cd14 ct14), sl14⟩) (c14 : PySem.W.codeIn K cd14 "_law_net" = true) (k14 : PySem.W.keepIn K (.ref f14) = true)
{f15 : Addr} {od15 an15 : Option Addr} {sl15 : Array (Option Value)} {oc15 kV15 dc15 pm15 cd15 ct15 : Value}
    (a15 : PySem.W.nsIn K mainGlobals "_law_whole" = some (some (.ref f15))) (l15 : K.lookup f15 = some ⟨oc15, od15, .func (PySem.W.fnOf "_law_whole" "_law_whole" (defArgs s__law_whole) (defBody s__law_whole) (defScope s__law_whole) .none kV15 dc15 pm15 an15 cd15 ct15), sl15⟩) (c15 : PySem.W.codeIn K cd15 "_law_whole" = true) (k15 : PySem.W.keepIn K (.ref f15) = true)
{f16 : Addr} {od16 an16 : Option Addr} {sl16 : Array (Option Value)} {oc16 kV16 dc16 pm16 cd16 ct16 : Value}
    (a16 : PySem.W.nsIn K mainGlobals "_law_row" = some (some (.ref f16))) (l16 : K.lookup f16 = some ⟨oc16, od16, .func (PySem.W.fnOf "_law_row" "_law_row" (defArgs s__law_row) (defBody s__law_row) (defScope s__law_row) .none kV16 dc16 pm16 an16 cd16 ct16), sl16⟩) (c16 : PySem.W.codeIn K cd16 "_law_row" = true) (k16 : PySem.W.keepIn K (.ref f16) = true)
{f17 : Addr} {od17 an17 : Option Addr} {sl17 : Array (Option Value)} {oc17 kV17 dc17 pm17 cd17 ct17 : Value}
    (a17 : PySem.W.nsIn K mainGlobals "_law_rule_in" = some (some (.ref f17))) (l17 : K.lookup f17 = some ⟨oc17, od17, .func (PySem.W.fnOf "_law_rule_in" "_law_rule_in" (defArgs s__law_rule_in) (defBody s__law_rule_in) (defScope s__law_rule_in) .none kV17 dc17 pm17 an17 cd17 ct17), sl17⟩) (c17 : PySem.W.codeIn K cd17 "_law_rule_in" = true) (k17 : PySem.W.keepIn K (.ref f17) = true)
{f18 : Addr} {od18 an18 : Option Addr} {sl18 : Array (Option Value)} {oc18 kV18 dc18 pm18 cd18 ct18 : Value}
    (a18 : PySem.W.nsIn K mainGlobals "_law_due" = some (some (.ref f18))) (l18 : K.lookup f18 = some ⟨oc18, od18, .func (PySem.W.fnOf "_law_due" "_law_due" (defArgs s__law_due) (defBody s__law_due) (defScope s__law_due) .none kV18 dc18 pm18 an18 cd18 ct18), sl18⟩) (c18 : PySem.W.codeIn K cd18 "_law_due" = true) (k18 : PySem.W.keepIn K (.ref f18) = true)
{f19 : Addr} {od19 an19 : Option Addr} {sl19 : Array (Option Value)} {oc19 kV19 dc19 pm19 cd19 ct19 : Value}
    (a19 : PySem.W.nsIn K mainGlobals "_law_said" = some (some (.ref f19))) (l19 : K.lookup f19 = some ⟨oc19, od19, .func (PySem.W.fnOf "_law_said" "_law_said" (defArgs s__law_said) (defBody s__law_said) (defScope s__law_said) .none kV19 dc19 pm19 an19 cd19 ct19), sl19⟩) (c19 : PySem.W.codeIn K cd19 "_law_said" = true) (k19 : PySem.W.keepIn K (.ref f19) = true)
{f20 : Addr} {od20 an20 : Option Addr} {sl20 : Array (Option Value)} {oc20 kV20 dc20 pm20 cd20 ct20 : Value}
    (a20 : PySem.W.nsIn K mainGlobals "_law_bent" = some (some (.ref f20))) (l20 : K.lookup f20 = some ⟨oc20, od20, .func (PySem.W.fnOf "_law_bent" "_law_bent" (defArgs s__law_bent) (defBody s__law_bent) (defScope s__law_bent) .none kV20 dc20 pm20 an20 cd20 ct20), sl20⟩) (c20 : PySem.W.codeIn K cd20 "_law_bent" = true) (k20 : PySem.W.keepIn K (.ref f20) = true)
{f21 : Addr} {od21 an21 : Option Addr} {sl21 : Array (Option Value)} {oc21 kV21 dc21 pm21 cd21 ct21 : Value}
    (a21 : PySem.W.nsIn K mainGlobals "law" = some (some (.ref f21))) (l21 : K.lookup f21 = some ⟨oc21, od21, .func (PySem.W.fnOf "law" "law" (defArgs s_law) (defBody s_law) (defScope s_law) .none kV21 dc21 pm21 an21 cd21 ct21), sl21⟩) (c21 : PySem.W.codeIn K cd21 "law" = true) (k21 : PySem.W.keepIn K (.ref f21) = true)
    {tk0 : Tok} (u0 : PySem.W.nsIn K mainGlobals "FIGURES" = some (some (.str "01234567" tk0)))
    {tk1 : Tok} (u1 : PySem.W.nsIn K mainGlobals "MOST_EARS" = some (some (.int 4 tk1)))
    {tk2 : Tok} (u2 : PySem.W.nsIn K mainGlobals "MOST_SWITCHES" = some (some (.int 8 tk2)))
    {CB : Addr} (nb : PySem.W.nsIn K mainGlobals "NetError" = some (some (.ref CB))) (b1 : PySem.W.specialIn K (.ref CB) "__getattribute__" = some (some (.builtin "type.__getattribute__"))) (b2 : PySem.W.typeIn K (.ref CB) = some (.type "type")) (b3 : PySem.W.readsIn K CB (.type "type") = true) (b4 : PySem.W.findCls K (.ref CB) (.type "type") "__init__" = some (.val (.builtin "ValueError.__init__"))) (b5 : PySem.W.hasDictIn K CB = true) (b6 : PySem.W.subIn K (.ref CB) (.type "BaseException") = some true)
    {CN fI : Addr} {odI anI : Option Addr} {slI : Array (Option Value)} {ocI kVI dcI pmI cdI ctI : Value} (nn : PySem.W.nsIn K mainGlobals "NoText" = some (some (.ref CN))) (o1 : oexB K CN = true) (o2 : PySem.W.findIn K (.ref CN) "__setattr__" = some (some (.builtin "object.__setattr__"))) (o3 : PySem.W.subIn K (.ref CN) (.type "BaseException") = some true) (o4 : PySem.W.typeIn K (.ref CN) = some (.type "type")) (o5 : PySem.W.keepIn K (.ref CN) = true)
    (o6 : PySem.W.findIn K (.ref CN) "__init__" = some (some (.ref fI))) (o7 : PySem.W.typeIn K (.ref fI) = some (.type "function")) (o8 : PySem.W.findIn K (.ref CN) "row" = some none) (o9 : K.lookup fI = some ⟨ocI, odI, .func (PySem.W.fnOf "__init__" (("NoText" : Str) ++ ".__init__") (defArgs s_NoText_init) (defBody s_NoText_init) (defScope s_NoText_init) .none kVI dcI pmI anI cdI ctI), slI⟩) (o10 : PySem.W.codeIn K cdI (("NoText" : Str) ++ ".__init__") = true) (o11 : PySem.W.keepIn K (.ref fI) = true)
    (o12 : PySem.W.findIn K (.ref CN) "__getattribute__" = some (some (.builtin "BaseException.__getattribute__"))) (o13 : PySem.W.findIn K (.ref CN) "__getattr__" = some none) (o14 : PySem.W.subIn K (.ref CN) (.type "BaseException") = some true) (o15 : PySem.W.hasDictIn K CN = true) (o16 : PySem.W.findIn K (.ref CN) "__class__" = some (some (.builtin "object.__class__"))) (o17 : PySem.W.specialIn K (.builtin "object.__class__") "__get__" = some (some (.builtin "getset_descriptor.__get__"))) (o18 : PySem.W.takesIn K (.builtin "object.__class__") = some true) (o19 : PySem.W.mroIn K CN (.type "object") = some true) (o20 : PySem.W.subIn K (.ref CN) (.ref CN) = some true) (o21 : PySem.W.subIn K (.ref CN) (.ref CB) = some true)
    (z0 : PySem.W.nsIn K mainGlobals "all" = some none)
    (z1 : PySem.W.nsIn K mainGlobals "bool" = some none)
    (z2 : PySem.W.nsIn K mainGlobals "divmod" = some none)
    (z3 : PySem.W.nsIn K mainGlobals "enumerate" = some none)
    (z4 : PySem.W.nsIn K mainGlobals "int" = some none)
    (z5 : PySem.W.nsIn K mainGlobals "isinstance" = some none)
    (z6 : PySem.W.nsIn K mainGlobals "len" = some none)
    (z7 : PySem.W.nsIn K mainGlobals "max" = some none)
    (z8 : PySem.W.nsIn K mainGlobals "min" = some none)
    (z9 : PySem.W.nsIn K mainGlobals "range" = some none)
    (z10 : PySem.W.nsIn K mainGlobals "set" = some none)
    (z11 : PySem.W.nsIn K mainGlobals "sorted" = some none)
    (z12 : PySem.W.nsIn K mainGlobals "str" = some none)
    (z13 : PySem.W.nsIn K mainGlobals "sum" = some none)
    (z14 : PySem.W.nsIn K mainGlobals "tuple" = some none)
    (z15 : PySem.W.nsIn K mainGlobals "zip" = some none)
    : ∃ fd : FuncData, (∀ (s : Shared) (u : Value), BindsTo s fd ⟨[u], []⟩ [("script", u)]) ∧ ∀ base : Heap, K.In base → base.Ns mainGlobals mg → FnOk l.prog w K mg base (L2N.CX l.prog w) 7 fa fd ["script"] (spL K 63) :=
  have T : Txt K mg := ⟨def_mk X G a0 l0 c0 k0, def_mk X G a1 l1 c1 k1, def_mk X G a2 l2 c2 k2, def_mk X G a3 l3 c3 k3, def_mk X G a4 l4 c4 k4, def_mk X G a5 l5 c5 k5, def_mk X G a6 l6 c6 k6, def_mk X G a7 l7 c7 k7, def_mk X G a8 l8 c8 k8, def_mk X G a9 l9 c9 k9, def_mk X G a10 l10 c10 k10, def_mk X G a11 l11 c11 k11, def_mk X G a12 l12 c12 k12, def_mk X G a13 l13 c13 k13, def_mk X G a14 l14 c14 k14, def_mk X G a15 l15 c15 k15, def_mk X G a16 l16 c16 k16, def_mk X G a17 l17 c17 k17, def_mk X G a18 l18 c18 k18, def_mk X G a19 l19 c19 k19, def_mk X G a20 l20 c20 k20, ⟨_, PySem.W.mg_of X G u0⟩, ⟨_, PySem.W.mg_of X G u1⟩, ⟨_, PySem.W.mg_of X G u2⟩, PySem.W.mg_none_of X G z0, PySem.W.mg_none_of X G z1, PySem.W.mg_none_of X G z2, PySem.W.mg_none_of X G z3, PySem.W.mg_none_of X G z4, PySem.W.mg_none_of X G z5, PySem.W.mg_none_of X G z6, PySem.W.mg_none_of X G z7, PySem.W.mg_none_of X G z8, PySem.W.mg_none_of X G z9, PySem.W.mg_none_of X G z10, PySem.W.mg_none_of X G z11, PySem.W.mg_none_of X G z12, PySem.W.mg_none_of X G z13, PySem.W.mg_none_of X G z14, PySem.W.mg_none_of X G z15, ⟨⟨CB, PySem.W.mg_of X G nb, b1, b2, b3, b4⟩⟩, ⟨⟨CN, fI, _, PySem.W.mg_of X G nn, ⟨oex_cls o1, o2, o3, o4, o5⟩, o6, o7, o8, fun_mk o9 o10 o11⟩⟩, ⟨⟨CN, CB, PySem.W.mg_of X G nn, PySem.W.mg_of X G nb, PySem.W.exm_ref b6 b5 b2 o21, ⟨o12, o13, o14, o15, o16, o17, o18, o19⟩, kit_own o20 o15 o4 o20, o8⟩⟩⟩
  law_all X G hfa hg (fun base {f} {fd} F => ok_law T F) (fun _ _ _ _ _ _ s u => .of_eq rfl) a21 l21 c21 k21
end K06
open PySem PySem.W PyProof.Rows
set_option maxHeartbeats 0 in
theorem PySem.Challenge.cw_switchnets_k06_texts_refused_holds : PySem.Challenge.rw_switchnets_k06_texts_refused.Holds := by
  w_on; o_law; k_head; (case hw => w_witness2)
  k_fill
  refine L2.walk_ofB (l := PySem.Challenge.rw_switchnets_k06_texts_refused) (n := 63) (k := 7) (x := "script") (CX := fun w => L2N.CX PySem.Challenge.rw_switchnets_k06_texts_refused.prog w) (sp := fun w => Y.spL _ 63) rfl (by decide) rfl ⟨rfl, by decide, by decide⟩ (fun w h Z => PySem.W.kIn_of Z) ?F (fun _ _ a ns hl hb _ hS => ⟨a, ns, rfl, hS, hl, hb, fun _ => rfl⟩) (fun _ _ _ _ _ h => Y.cx_none h)
  case F =>
    intro w mg fa h KX G hmg
    refine' K06.all KX G hmg K06.good_law ?a0 ?l0 ?c0 ?k0 ?a1 ?l1 ?c1 ?k1 ?a2 ?l2 ?c2 ?k2 ?a3 ?l3 ?c3 ?k3 ?a4 ?l4 ?c4 ?k4 ?a5 ?l5 ?c5 ?k5 ?a6 ?l6 ?c6 ?k6 ?a7 ?l7 ?c7 ?k7 ?a8 ?l8 ?c8 ?k8 ?a9 ?l9 ?c9 ?k9 ?a10 ?l10 ?c10 ?k10 ?a11 ?l11 ?c11 ?k11 ?a12 ?l12 ?c12 ?k12 ?a13 ?l13 ?c13 ?k13 ?a14 ?l14 ?c14 ?k14 ?a15 ?l15 ?c15 ?k15 ?a16 ?l16 ?c16 ?k16 ?a17 ?l17 ?c17 ?k17 ?a18 ?l18 ?c18 ?k18 ?a19 ?l19 ?c19 ?k19 ?a20 ?l20 ?c20 ?k20 ?a21 ?l21 ?c21 ?k21 ?u0 ?u1 ?u2 ?nb ?b1 ?b2 ?b3 ?b4 ?b5 ?b6 ?nn ?o1 ?o2 ?o3 ?o4 ?o5 ?o6 ?o7 ?o8 ?o9 ?o10 ?o11 ?o12 ?o13 ?o14 ?o15 ?o16 ?o17 ?o18 ?o19 ?o20 ?o21 ?z0 ?z1 ?z2 ?z3 ?z4 ?z5 ?z6 ?z7 ?z8 ?z9 ?z10 ?z11 ?z12 ?z13 ?z14 ?z15
    (case a0 => k_is); (case l0 => k_is); (case c0 => k_is); (case k0 => k_is); (case a1 => k_is); (case l1 => k_is); (case c1 => k_is); (case k1 => k_is); (case a2 => k_is); (case l2 => k_is); (case c2 => k_is); (case k2 => k_is); (case a3 => k_is); (case l3 => k_is); (case c3 => k_is); (case k3 => k_is); (case a4 => k_is); (case l4 => k_is); (case c4 => k_is); (case k4 => k_is); (case a5 => k_is); (case l5 => k_is); (case c5 => k_is); (case k5 => k_is); (case a6 => k_is); (case l6 => k_is); (case c6 => k_is); (case k6 => k_is); (case a7 => k_is); (case l7 => k_is); (case c7 => k_is); (case k7 => k_is); (case a8 => k_is); (case l8 => k_is); (case c8 => k_is); (case k8 => k_is); (case a9 => k_is); (case l9 => k_is); (case c9 => k_is); (case k9 => k_is); (case a10 => k_is); (case l10 => k_is); (case c10 => k_is); (case k10 => k_is); (case a11 => k_is); (case l11 => k_is); (case c11 => k_is); (case k11 => k_is); (case a12 => k_is); (case l12 => k_is); (case c12 => k_is); (case k12 => k_is); (case a13 => k_is); (case l13 => k_is); (case c13 => k_is); (case k13 => k_is); (case a14 => k_is); (case l14 => k_is); (case c14 => k_is); (case k14 => k_is); (case a15 => k_is); (case l15 => k_is); (case c15 => k_is); (case k15 => k_is); (case a16 => k_is); (case l16 => k_is); (case c16 => k_is); (case k16 => k_is); (case a17 => k_is); (case l17 => k_is); (case c17 => k_is); (case k17 => k_is); (case a18 => k_is); (case l18 => k_is); (case c18 => k_is); (case k18 => k_is); (case a19 => k_is); (case l19 => k_is); (case c19 => k_is); (case k19 => k_is); (case a20 => k_is); (case l20 => k_is); (case c20 => k_is); (case k20 => k_is); (case a21 => k_is); (case l21 => k_is); (case c21 => k_is); (case k21 => k_is); (case u0 => k_is); (case u1 => k_is); (case u2 => k_is); (case nb => k_is); (case b1 => k_is); (case b2 => k_is); (case b3 => k_is); (case b4 => k_is); (case b5 => k_is); (case b6 => k_is); (case nn => k_is); (case o1 => (first | k_is | kernel_rfl | decide +kernel)); (case o2 => k_is); (case o3 => k_is); (case o4 => k_is); (case o5 => k_is); (case o6 => k_is); (case o7 => k_is); (case o8 => k_is); (case o9 => k_is); (case o10 => k_is); (case o11 => k_is); (case o12 => k_is); (case o13 => k_is); (case o14 => k_is); (case o15 => k_is); (case o16 => k_is); (case o17 => k_is); (case o18 => k_is); (case o19 => k_is); (case o20 => k_is); (case o21 => k_is); (case z0 => k_is); (case z1 => k_is); (case z2 => k_is); (case z3 => k_is); (case z4 => k_is); (case z5 => k_is); (case z6 => k_is); (case z7 => k_is); (case z8 => k_is); (case z9 => k_is); (case z10 => k_is); (case z11 => k_is); (case z12 => k_is); (case z13 => k_is); (case z14 => k_is); (case z15 => k_is)

