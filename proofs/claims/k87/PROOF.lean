import PyProof.Rows.All
import Wide.All
import OpenK.AllK
import Wide.FinOn
import HandS.ForMost
import HandS.TupAny
import HandS.Wide
import HandS.IsInst
import HandS.Deep
import HandS.Flow
import HandS.Lambda
import HandS.TupMul
import HandS.TupLe
import HandS.TupLen
import HandS.SortOrd
import HandS.SortInts
import HandS.Walk
import HandS.Zip
import HandS.ForExc
import HandS.EndBits
import HandS.ExcCtx
import HandS.HotCalls
import HandS.Conv
import HandS.SortRule
import KE.KSortTup
import PyProof.Rows.SortShell
import PyProof.Rows.SortShellAny
import HandS.Text
import PyProof.AutoSeq1
import KE.GoesZip
import KE.GoesMore
import KE.GoesEnum
import HandS.ExcIs
import HandS.SetFor
import HandS.Strs
import HandS.Replace
import KE.KRevSl
import HandS.Dict
import HandS.Iter
import KE.KDictWalk
import KE.KEqDict
import KE.KDictSum
import KE.KDictCopyH
import HandS.More
import KE.SortData
import KE.KDictDisplayH
import HandS.SetKeys
import PyProof.WalksMore
import PyProof.SumAny
import KE.KDictZip
import KE.KDictItemsList
import HandS.ListItems
import KE.DataMinMax
import KE.KDictKeyed
import KE.KDictList
import KE.KTupSum
import HandS.Rev
import HandS.TupSets
import KE.KDictPairs
import KE.KIndexOf
import HandS.Codes
import KE.KSortRegSt
import KE.KxWritten
import HandS.EndTab
import KE.SortKeyHeap
import PyProof.Rows.Tup
import PyProof.FactsAll.set_2
import HandS.TryOnly
import HandS.StrMore
import PyProof.Rows.StrRev
import HandS.Comp
import HandS.ExcInit
import HandS.ExcField
import KE.KExcIs
import HandS.SetTxt0
import PySem.Challenge.RW_switchnets_k87_fewest_looks
set_option Elab.async false
set_option linter.all false
set_option maxRecDepth 100000
namespace Y
open PySem PySem.Spec PyProof.Rows L2
abbrev St := L2.St

/-- data at any depth; lists, dicts by what they hold; arg: the script; ftu: a tuple whose object is known to have no dict of its own; tab: a code object's table, its lambdas' name -/
inductive D where
  | non | bl (b : Bool) | int (i : Int) | str (x : Str) | tup (xs : List D) | lst (xs : List D)
  | arg (ns : List Int) | dik (ks : List Key) (ds : List D) | dit (ks : List (List Key)) (ds : List D) | ftu (xs : List D) | tab (p : Addr) (q : Str)
instance : Inhabited D := ⟨.non⟩
/-- a way of a run: an end, an exception of the program's own, anything else -/
inductive R (α : Type) where
  | ok (a : α) | er (c : Str) (ds : List D) | stk
@[simp] def R.bind {α β : Type} : R α → (α → R β) → R β
  | .ok a, f => f a
  | .er c ds, _ => .er c ds
  | .stk, _ => .stk
instance : Monad R where
  pure := .ok
  bind := R.bind
@[simp] theorem R.bind_ok {α β : Type} (a : α) (f : α → R β) : (R.ok a >>= f) = f a := id rfl
@[simp] theorem R.bind_stk {α β : Type} (f : α → R β) : ((R.stk : R α) >>= f) = .stk := id rfl
@[simp] theorem R.bind_er {α β : Type} (c : Str) (ds : List D) (f : α → R β) : ((R.er c ds : R α) >>= f) = .er c ds := id rfl
@[simp] theorem R.pure_eq {α : Type} (a : α) : (pure a : R α) = .ok a := id rfl
theorem R.bind_assoc {α β γ : Type} (x : R α) (f : α → R β) (g : β → R γ) : (x >>= f >>= g) = (x >>= fun a => f a >>= g) := by cases x <;> rfl
/-- the names' data by slot -/
abbrev Env := List (Option D)
/-- what an expression hands on: new data, data, or the object of an own slot -/
inductive Hd where
  | fr (d : D) | vl (d : D) | ow (i : Nat)
abbrev EM := Env → R (Hd × Env)
def look (i : Nat) (ρ : Env) : R D := match ρ[i]? with
  | some (some d) => .ok d
  | _ => .stk
def Hd.d : Hd → Env → R D
  | .fr d, _ => .ok d
  | .vl d, _ => .ok d
  | .ow i, ρ => look i ρ
def Hd.v : Hd → R D
  | .fr d => .ok d
  | .vl d => .ok d
  | .ow _ => .stk
def D.isMu : D → Bool
  | .lst _ => true
  | .dik _ _ => true
  | .dit _ _ => true
  | .arg _ => true
  | .tab _ _ => true
  | _ => false

abbrev Pr := Addr → Prop
/-- the table at p -/
def TabP (H : Hp) (p : Addr) (q : Str) (a : Addr) : Prop := a = p ∧ LamX.TabS H a q
mutual
/-- v is d, over objects none of which is forbidden (tuples never change: they may be any) -/
def Rep (K : PySem.W.Frag) (H : Hp) : D → Pr → V → Prop
  | .non, _, v => v = .non
  | .bl b, _, v => v = .bl b
  | .int i, _, v => v = .int i
  | .str x, _, v => v = .str x
  | .tup ds, P, v => ∃ a vs, v = .ref a ∧ H a = some (.tup vs) ∧ Reps K H ds P vs
  | .ftu ds, P, v => ∃ a vs o, v = .ref a ∧ H a = some (.frz o (.tup vs)) ∧ o.dict = none ∧ Reps K H ds P vs
  | .tab p q, P, v => ∃ a, v = .ref a ∧ ¬ P a ∧ TabP H p q a
  | .lst ds, P, v => ∃ a vs, v = .ref a ∧ ¬ P a ∧ H a = some (.lst vs) ∧ Reps K H ds (fun b => P b ∨ b = a) vs
  | .arg ns, P, v => ∃ a, v = .ref a ∧ ((¬ P a ∧ Rd H a (.lst (ns.map V.int))) ∨ SqL K (fun _ => none) a (ns.map V.int))
  | .dik ks ds, P, v => ∃ a vs, v = .ref a ∧ ¬ P a ∧ ks.length = vs.length ∧ Rd H a (.dK (ks.zip vs)) ∧ Reps K H ds (fun b => P b ∨ b = a) vs
  | .dit ks ds, P, v => ∃ a vs, v = .ref a ∧ ¬ P a ∧ ks.length = vs.length ∧ Rd H a (.dT (ks.zip vs)) ∧ Reps K H ds (fun b => P b ∨ b = a) vs
def Reps (K : PySem.W.Frag) (H : Hp) : List D → Pr → List V → Prop
  | [], _, vs => vs = []
  | d :: ds, P, vs => ∃ v ws, vs = v :: ws ∧ Rep K H d P v ∧ Reps K H ds P ws
end
/-- the object itself may be forbidden, what it holds not -/
def RepW (K : PySem.W.Frag) (H : Hp) : D → Pr → V → Prop
  | .lst ds, P, v => ∃ a vs, v = .ref a ∧ H a = some (.lst vs) ∧ Reps K H ds P vs
  | .arg ns, P, v => ∃ a, v = .ref a ∧ SqL K H a (ns.map V.int)
  | .dik ks ds, P, v => ∃ a vs, v = .ref a ∧ ks.length = vs.length ∧ Rd H a (.dK (ks.zip vs)) ∧ Reps K H ds P vs
  | .dit ks ds, P, v => ∃ a vs, v = .ref a ∧ ks.length = vs.length ∧ Rd H a (.dT (ks.zip vs)) ∧ Reps K H ds P vs
  | .tab p q, P, v => ∃ a, v = .ref a ∧ TabP H p q a
  | d, P, v => Rep K H d P v
/-- an own slot's object: it may be written -/
def RepO (K : PySem.W.Frag) (H : Hp) : D → Pr → V → Prop
  | .lst ds, P, v => ∃ a vs, v = .ref a ∧ H a = some (.lst vs) ∧ Reps K H ds P vs
  | .dik ks ds, P, v => ∃ a vs, v = .ref a ∧ ks.length = vs.length ∧ H a = some (.dK (ks.zip vs)) ∧ Reps K H ds P vs
  | .dit ks ds, P, v => ∃ a vs, v = .ref a ∧ ks.length = vs.length ∧ H a = some (.dT (ks.zip vs)) ∧ Reps K H ds P vs
  | .non, _, v => v = .non
  | .bl b, _, v => v = .bl b
  | .int i, _, v => v = .int i
  | .str x, _, v => v = .str x
  | .tab p q, _, v => ∃ a, v = .ref a ∧ TabP H p q a
  | _, _, _ => False

/-- an object that may change (or a list, a dict that is locked) -/
def isMut : Option HO → Prop
  | some (.lst _) => True
  | some (.dK _) => True
  | some (.dT _) => True
  | some (.ins _ _ _) => True
  | some (.set _ _) => True
  | some (.frz _ (.lst _)) => True
  | some (.frz _ (.dK _)) => True
  | some (.frz _ (.dT _)) => True
  | some (.tbl _) => True
  | _ => False
theorem isMut.nt {H : Hp} {b : Addr} (h : isMut (H b)) {xs : List V} : ¬ Rd H b (.tup xs) := by
  rintro (e | ⟨o, e⟩) <;> (rw [e] at h; exact h)
theorem isMut.some {o : Option HO} (h : isMut o) : o ≠ none := by rintro rfl; exact h
theorem Rd.keep {H H' : Hp} {a : Addr} {u : HO} (r : Rd H a u) (k : ∀ o, H a = some o → H' a = some o) : Rd H' a u := by
  rcases r with e | ⟨o, e⟩
  · exact .inl (k _ e)
  · exact .inr ⟨o, k _ e⟩
theorem Rd.some {H : Hp} {a : Addr} {u : HO} (r : Rd H a u) : H a ≠ none := by
  rcases r with e | ⟨o, e⟩ <;> (rw [e]; intro z; cases z)

theorem TabP.ext {H H' : Hp} {p a : Addr} {q : Str} (t : TabP H p q a) (e : ∀ b o, H b = some o → H' b = some o) : TabP H' p q a := ⟨t.1, t.2.ext e⟩
theorem TabS.mono {H H' : Hp} {P : Pr} {p a : Addr} {q : Str} (hm : ∀ b, P b → isMut (H b)) (k : ∀ b o, H b = some o → ¬ P b → H' b = some o) (ka : ∀ o, H a = some o → H' a = some o) (t : TabP H p q a) : TabP H' p q a := by
  obtain ⟨e, ps, h1, h2, h3⟩ := t
  refine ⟨e, ps, ka _ h1, h2, fun pos cv hc => ?_⟩
  obtain ⟨c, e1, e2⟩ := h3 pos cv hc
  exact ⟨c, e1, k _ _ e2 fun z => by have := hm c z; rw [e2] at this; exact this⟩
section
variable {K : PySem.W.Frag} {H H' : Hp}
mutual
theorem Rep.mono : ∀ (d : D) {P P' : Pr} {v : V}, (∀ b, P b → isMut (H b)) → (∀ b o, H b = some o → ¬ P b → H' b = some o) → (∀ b, P' b → P b ∨ H b = none) → Rep K H d P v → Rep K H' d P' v
  | .non, _, _, _, _, _, _, h => by unfold Rep at h ⊢; exact h
  | .bl _, _, _, _, _, _, _, h => by unfold Rep at h ⊢; exact h
  | .int _, _, _, _, _, _, _, h => by unfold Rep at h ⊢; exact h
  | .str _, _, _, _, _, _, _, h => by unfold Rep at h ⊢; exact h
  | .tup ds, P, P', v, hm, k, hp, h => by
    unfold Rep at h ⊢
    obtain ⟨a, vs, rfl, ht, hr⟩ := h
    exact ⟨a, vs, rfl, k a _ ht fun z => (hm a z).nt (.inl ht), Reps.mono ds hm k hp hr⟩
  | .ftu ds, P, P', v, hm, k, hp, h => by
    unfold Rep at h ⊢
    obtain ⟨a, vs, o, rfl, ht, hd, hr⟩ := h
    exact ⟨a, vs, o, rfl, k a _ ht fun z => (hm a z).nt (.inr ⟨o, ht⟩), hd, Reps.mono ds hm k hp hr⟩
  | .tab p q, P, P', v, hm, k, hp, h => by
    unfold Rep at h ⊢
    obtain ⟨a, rfl, ha, ht⟩ := h
    refine ⟨a, rfl, fun z => ?_, TabS.mono hm k (fun o e => k a o e ha) ht⟩
    rcases hp a z with z | z
    · exact ha z
    · obtain ⟨_, ps, h1, _⟩ := ht
      rw [h1] at z; cases z
  | .lst ds, P, P', v, hm, k, hp, h => by
    unfold Rep at h ⊢
    obtain ⟨a, vs, rfl, ha, ht, hr⟩ := h
    refine ⟨a, vs, rfl, fun z => ?_, k a _ ht ha, Reps.mono ds (P := fun b => P b ∨ b = a) (fun b z => ?_) (fun b o e n => k b o e fun z => n (.inl z)) (fun b z => ?_) hr⟩
    · rcases hp a z with z | z
      · exact ha z
      · rw [ht] at z; cases z
    · rcases z with z | rfl
      · exact hm b z
      · rw [ht]; trivial
    · rcases z with z | z
      · rcases hp b z with z | z
        · exact .inl (.inl z)
        · exact .inr z
      · exact .inl (.inr z)
  | .arg ns, P, P', v, hm, k, hp, h => by
    unfold Rep at h ⊢
    obtain ⟨a, rfl, h⟩ := h
    refine ⟨a, rfl, ?_⟩
    rcases h with ⟨ha, ht⟩ | h
    · refine .inl ⟨fun z => ?_, Rd.keep ht fun o e => k a o e ha⟩
      rcases hp a z with z | z
      · exact ha z
      · exact Rd.some ht z
    · exact .inr h
  | .dik ks ds, P, P', v, hm, k, hp, h => by
    unfold Rep at h ⊢
    obtain ⟨a, vs, rfl, ha, hl, ht, hr⟩ := h
    refine ⟨a, vs, rfl, fun z => ?_, hl, Rd.keep ht fun o e => k a o e ha, Reps.mono ds (P := fun b => P b ∨ b = a) (fun b z => ?_) (fun b o e n => k b o e fun z => n (.inl z)) (fun b z => ?_) hr⟩
    · rcases hp a z with z | z
      · exact ha z
      · exact Rd.some ht z
    · rcases z with z | rfl
      · exact hm b z
      · rcases ht with e | ⟨o, e⟩ <;> (rw [e]; trivial)
    · rcases z with z | z
      · rcases hp b z with z | z
        · exact .inl (.inl z)
        · exact .inr z
      · exact .inl (.inr z)
  | .dit ks ds, P, P', v, hm, k, hp, h => by
    unfold Rep at h ⊢
    obtain ⟨a, vs, rfl, ha, hl, ht, hr⟩ := h
    refine ⟨a, vs, rfl, fun z => ?_, hl, Rd.keep ht fun o e => k a o e ha, Reps.mono ds (P := fun b => P b ∨ b = a) (fun b z => ?_) (fun b o e n => k b o e fun z => n (.inl z)) (fun b z => ?_) hr⟩
    · rcases hp a z with z | z
      · exact ha z
      · exact Rd.some ht z
    · rcases z with z | rfl
      · exact hm b z
      · rcases ht with e | ⟨o, e⟩ <;> (rw [e]; trivial)
    · rcases z with z | z
      · rcases hp b z with z | z
        · exact .inl (.inl z)
        · exact .inr z
      · exact .inl (.inr z)
theorem Reps.mono : ∀ (ds : List D) {P P' : Pr} {vs : List V}, (∀ b, P b → isMut (H b)) → (∀ b o, H b = some o → ¬ P b → H' b = some o) → (∀ b, P' b → P b ∨ H b = none) → Reps K H ds P vs → Reps K H' ds P' vs
  | [], _, _, _, _, _, _, h => by unfold Reps at h ⊢; exact h
  | d :: ds, P, P', vs, hm, k, hp, h => by
    unfold Reps at h ⊢
    obtain ⟨v, ws, rfl, h1, h2⟩ := h
    exact ⟨v, ws, rfl, Rep.mono d hm k hp h1, Reps.mono ds hm k hp h2⟩
end
theorem Reps.length : ∀ {ds : List D} {P : Pr} {vs : List V}, Reps K H ds P vs → vs.length = ds.length
  | [], _, _, h => by unfold Reps at h; subst h; rfl
  | d :: ds, P, vs, h => by
    unfold Reps at h
    obtain ⟨v, ws, rfl, _, h2⟩ := h
    rw [List.length_cons, List.length_cons, Reps.length h2]
theorem Reps.nil {P : Pr} : Reps K H [] P [] := by unfold Reps; rfl
theorem Reps.cons {d : D} {ds : List D} {P : Pr} {v : V} {vs : List V} (h : Rep K H d P v) (h2 : Reps K H ds P vs) : Reps K H (d :: ds) P (v :: vs) := by
  unfold Reps; exact ⟨v, vs, rfl, h, h2⟩
theorem Reps.nil_iff {P : Pr} {vs : List V} (h : Reps K H [] P vs) : vs = [] := by unfold Reps at h; exact h
theorem Reps.cons_iff {d : D} {ds : List D} {P : Pr} {vs : List V} (h : Reps K H (d :: ds) P vs) : ∃ v ws, vs = v :: ws ∧ Rep K H d P v ∧ Reps K H ds P ws := by unfold Reps at h; exact h
theorem Reps.get : ∀ {ds : List D} {P : Pr} {vs : List V} {i : Nat} {d : D}, Reps K H ds P vs → ds[i]? = some d → ∃ v, vs[i]? = some v ∧ Rep K H d P v
  | [], _, _, _, _, _, e => by simp at e
  | d :: ds, P, vs, 0, d', h, e => by
    obtain ⟨v, ws, rfl, h1, _⟩ := h.cons_iff
    simp at e; subst e
    exact ⟨v, rfl, h1⟩
  | d :: ds, P, vs, i + 1, d', h, e => by
    obtain ⟨v, ws, rfl, _, h2⟩ := h.cons_iff
    simpa using Reps.get h2 (by simpa using e)
theorem Reps.append : ∀ {ds es : List D} {P : Pr} {vs ws : List V}, Reps K H ds P vs → Reps K H es P ws → Reps K H (ds ++ es) P (vs ++ ws)
  | [], _, _, _, _, h, h2 => by rw [h.nil_iff]; exact h2
  | d :: ds, es, P, vs, ws, h, h2 => by
    obtain ⟨v, us, rfl, h1, h3⟩ := h.cons_iff
    exact Reps.cons h1 (Reps.append h3 h2)
/-- forbidding less -/
theorem Rep.less {d : D} {P P' : Pr} {v : V} (hm : ∀ b, P b → isMut (H b)) (h : Rep K H d P v) (hp : ∀ b, P' b → P b) : Rep K H d P' v := h.mono d hm (fun _ _ e _ => e) fun b z => .inl (hp b z)
theorem Reps.less {ds : List D} {P P' : Pr} {vs : List V} (hm : ∀ b, P b → isMut (H b)) (h : Reps K H ds P vs) (hp : ∀ b, P' b → P b) : Reps K H ds P' vs := h.mono ds hm (fun _ _ e _ => e) fun b z => .inl (hp b z)
/-- nothing that stood is changed -/
theorem Rep.same {d : D} {P : Pr} {v : V} (hm : ∀ b, P b → isMut (H b)) (h : Rep K H d P v) (k : Same H H') : Rep K H' d P v := h.mono d hm (fun b o e _ => k b o e) fun _ z => .inl z
theorem Reps.same {ds : List D} {P : Pr} {vs : List V} (hm : ∀ b, P b → isMut (H b)) (h : Reps K H ds P vs) (k : Same H H') : Reps K H' ds P vs := h.mono ds hm (fun b o e _ => k b o e) fun _ z => .inl z
theorem mutL {a : Addr} {P : Pr} {vs : List V} (hm : ∀ b, P b → isMut (H b)) (h : H a = some (.lst vs)) : ∀ b, P b ∨ b = a → isMut (H b) := fun b z => by
  rcases z with z | rfl
  · exact hm b z
  · rw [h]; trivial
theorem mutK {a : Addr} {P : Pr} {vs : List (Key × V)} (hm : ∀ b, P b → isMut (H b)) (h : Rd H a (.dK vs)) : ∀ b, P b ∨ b = a → isMut (H b) := fun b z => by
  rcases z with z | rfl
  · exact hm b z
  · rcases h with e | ⟨o, e⟩ <;> (rw [e]; trivial)
theorem mutT {a : Addr} {P : Pr} {vs : List (List Key × V)} (hm : ∀ b, P b → isMut (H b)) (h : Rd H a (.dT vs)) : ∀ b, P b ∨ b = a → isMut (H b) := fun b z => by
  rcases z with z | rfl
  · exact hm b z
  · rcases h with e | ⟨o, e⟩ <;> (rw [e]; trivial)
theorem Rep.weak {d : D} {P : Pr} {v : V} (hm : ∀ b, P b → isMut (H b)) (h : Rep K H d P v) : RepW K H d P v := by
  cases d with
  | lst ds =>
    unfold Rep at h; unfold RepW
    obtain ⟨a, vs, rfl, _, ht, hr⟩ := h
    exact ⟨a, vs, rfl, ht, hr.less (mutL hm ht) fun b z => .inl z⟩
  | arg ns =>
    unfold Rep at h; unfold RepW
    obtain ⟨a, rfl, h⟩ := h
    rcases h with ⟨_, h⟩ | h
    · exact ⟨a, rfl, .inl h⟩
    · refine ⟨a, rfl, .inr ?_⟩
      rcases h with h | h
      · rcases h with e | ⟨o, e⟩ <;> cases e
      · exact h
  | dik ks ds =>
    unfold Rep at h; unfold RepW
    obtain ⟨a, vs, rfl, _, hl, ht, hr⟩ := h
    exact ⟨a, vs, rfl, hl, ht, hr.less (mutK hm ht) fun b z => .inl z⟩
  | dit ks ds =>
    unfold Rep at h; unfold RepW
    obtain ⟨a, vs, rfl, _, hl, ht, hr⟩ := h
    exact ⟨a, vs, rfl, hl, ht, hr.less (mutT hm ht) fun b z => .inl z⟩
  | non => exact h
  | bl _ => exact h
  | int _ => exact h
  | str _ => exact h
  | tup _ => exact h
  | ftu _ => exact h
  | tab p q => unfold Rep at h; unfold RepW; obtain ⟨a, rfl, _, ht⟩ := h; exact ⟨a, rfl, ht⟩
theorem RepO.weak {d : D} {P : Pr} {v : V} (h : RepO K H d P v) : RepW K H d P v := by
  cases d with
  | lst ds => obtain ⟨a, vs, rfl, ht, hr⟩ := h; exact ⟨a, vs, rfl, ht, hr⟩
  | dik ks ds => obtain ⟨a, vs, rfl, hl, ht, hr⟩ := h; exact ⟨a, vs, rfl, hl, .inl ht, hr⟩
  | dit ks ds => obtain ⟨a, vs, rfl, hl, ht, hr⟩ := h; exact ⟨a, vs, rfl, hl, .inl ht, hr⟩
  | non => unfold RepW Rep; exact h
  | bl _ => unfold RepW Rep; exact h
  | int _ => unfold RepW Rep; exact h
  | str _ => unfold RepW Rep; exact h
  | tup _ => exact False.elim h
  | arg _ => exact False.elim h
  | ftu _ => exact False.elim h
  | tab p q => exact h
theorem Rep.of_same {d : D} {P : Pr} {v : V} (hm : ∀ b, P b → isMut (H b)) (h : Rep K H d P v) (k : ∀ b o, H b = some o → ¬ P b → H' b = some o) : Rep K H' d P v := h.mono d hm k fun _ z => .inl z
/-- a new list, tuple -/
theorem Rep.newL {ds : List D} {P : Pr} {vs : List V} {p : Addr} (hm : ∀ b, P b → isMut (H b)) (h : Reps K H ds P vs) (hp : H p = none) : Rep K (upd H p (.lst vs)) (.lst ds) P (.ref p) := by
  unfold Rep
  refine ⟨p, vs, rfl, fun z => (hm p z).some hp, upd_same, h.mono ds hm (fun b o e _ => ?_) fun b z => ?_⟩
  · rw [upd_ne (ne_of_none e hp)]; exact e
  · rcases z with z | rfl
    · exact .inl z
    · exact .inr hp
theorem Rep.newT {ds : List D} {P : Pr} {vs : List V} {p : Addr} (hm : ∀ b, P b → isMut (H b)) (h : Reps K H ds P vs) (hp : H p = none) : Rep K (upd H p (.tup vs)) (.tup ds) P (.ref p) := by
  unfold Rep
  refine ⟨p, vs, rfl, upd_same, h.mono ds hm (fun b o e _ => ?_) fun b z => .inl z⟩
  rw [upd_ne (ne_of_none e hp)]; exact e
theorem Same.new {p : Addr} {o : HO} (hp : H p = none) : Same H (upd H p o) := fun b u e => by rw [upd_ne (ne_of_none e hp)]; exact e
end

/-- the own slots' objects -/
def OA (O : List Nat) (σ : St) (b : Addr) : Prop := ∃ i, i ∈ O ∧ σ[i]? = some (some (.ref b))
def FA (P0 : Pr) (O : List Nat) (σ : St) : Pr := fun b => P0 b ∨ OA O σ b
/-- the names' data ρ lie in the slots σ over H. P0: forbidden here; O: the own slots, whose lists and dicts this def may change: nothing else leads to them -/
structure Sim (K : PySem.W.Frag) (P0 : Pr) (O W : List Nat) (ρ : Env) (σ : St) (H : Hp) : Prop where
  sub : ∀ i ∈ W, i ∈ O
  len : ρ.length ≤ σ.length
  dom : ∀ b, FA P0 O σ b → isMut (H b)
  val : ∀ i d, ρ[i]? = some (some d) → i ∉ O → ∃ v, σ[i]? = some (some v) ∧ Rep K H d (FA P0 O σ) v
  own : ∀ i d, ρ[i]? = some (some d) → i ∈ O → ∃ v, σ[i]? = some (some v) ∧ RepO K H d (FA P0 O σ) v
  sep : ∀ i j a, i ∈ O → j ∈ O → σ[i]? = some (some (.ref a)) → σ[j]? = some (some (.ref a)) → i = j
  sep0 : ∀ a, OA O σ a → ¬ P0 a
/-- what an expression may do to the heap -/
structure Keep (O : List Nat) (σ : St) (H H' : Hp) : Prop where
  keep : ∀ b o, H b = some o → ¬ OA O σ b → H' b = some o
  some : ∀ b, H b ≠ none → H' b ≠ none
theorem Keep.refl {W : List Nat} {σ : St} {H : Hp} : Keep W σ H H := ⟨fun _ _ e _ => e, fun _ e => e⟩
theorem Keep.trans {W : List Nat} {σ : St} {H H1 H2 : Hp} (a : Keep W σ H H1) (b : Keep W σ H1 H2) : Keep W σ H H2 :=
  ⟨fun c o e n => b.keep c o (a.keep c o e n) n, fun c e => b.some c (a.some c e)⟩
theorem Keep.same {W : List Nat} {σ : St} {H H' : Hp} (k : Same H H') : Keep W σ H H' := ⟨fun b o e _ => k b o e, fun b e => by
  cases q : H b with
  | none => exact absurd q e
  | some o => rw [k b o q]; intro z; cases z⟩
section
variable {K : PySem.W.Frag} {P0 : Pr} {O W : List Nat} {ρ ρ' : Env} {σ : St} {H H' : Hp}
theorem Sim.oaw (S : Sim K P0 O W ρ σ H) {b : Addr} (z : OA W σ b) : OA O σ b := let ⟨i, hi, e⟩ := z; ⟨i, S.sub i hi, e⟩
theorem Sim.rep (S : Sim K P0 O W ρ σ H) (k : Keep W σ H H') {d : D} {v : V} (h : Rep K H d (FA P0 O σ) v) : Rep K H' d (FA P0 O σ) v :=
  h.of_same S.dom fun b o e n => k.keep b o e fun z => n (.inr (S.oaw z))
/-- all that stood stands -/
theorem Sim.same (S : Sim K P0 O W ρ σ H) (k : Same H H') : Sim K P0 O W ρ σ H' where
  sub := S.sub
  len := S.len
  dom := fun b z => by
    have q := S.dom b z
    cases e : H b with
    | none => rw [e] at q; exact q.elim
    | some o => rw [k b o e, ← e]; exact q
  val := fun i d e n => let ⟨v, h1, h2⟩ := S.val i d e n; ⟨v, h1, h2.same S.dom k⟩
  own := fun i d e n => by
    obtain ⟨v, h1, h2⟩ := S.own i d e n
    refine ⟨v, h1, ?_⟩
    cases d with
    | lst ds => obtain ⟨a, vs, rfl, ht, hr⟩ := h2; exact ⟨a, vs, rfl, k _ _ ht, hr.same S.dom k⟩
    | dik ks ds => obtain ⟨a, vs, rfl, hl, ht, hr⟩ := h2; exact ⟨a, vs, rfl, hl, k _ _ ht, hr.same S.dom k⟩
    | dit ks ds => obtain ⟨a, vs, rfl, hl, ht, hr⟩ := h2; exact ⟨a, vs, rfl, hl, k _ _ ht, hr.same S.dom k⟩
    | non => exact h2
    | bl _ => exact h2
    | int _ => exact h2
    | str _ => exact h2
    | tup _ => exact h2
    | arg _ => exact h2
    | ftu _ => exact h2
    | tab p q => obtain ⟨a, rfl, ht⟩ := h2; exact ⟨a, rfl, ht.ext k⟩
  sep := S.sep
  sep0 := S.sep0
/-- what lies in a slot, for reading -/
theorem Sim.look (S : Sim K P0 O W ρ σ H) {i : Nat} {d : D} (h : look i ρ = .ok d) : ∃ v, σ[i]? = some (some v) ∧ RepW K H d (FA P0 O σ) v := by
  unfold Y.look at h
  split at h
  · rename_i d' e
    cases h
    by_cases hi : i ∈ O
    · obtain ⟨v, h1, h2⟩ := S.own i d e hi
      exact ⟨v, h1, h2.weak⟩
    · obtain ⟨v, h1, h2⟩ := S.val i d e hi
      exact ⟨v, h1, h2.weak S.dom⟩
  · cases h
end
/-- what a handle says of a value; Hs: the heap ahead -/
def HdR (K : PySem.W.Frag) (P0 : Pr) (O : List Nat) (Hs : Hp) (σ : St) (H : Hp) : Hd → V → Prop
  | .fr d, v => Rep K H d (FA P0 O σ) v ∧ (d.isMu = true → ∀ a, v = .ref a → Hs a = none)
  | .vl d, v => Rep K H d (FA P0 O σ) v
  | .ow i, v => i ∈ O ∧ σ[i]? = some (some v)
section
variable {K : PySem.W.Frag} {P0 : Pr} {O W : List Nat} {ρ ρ' : Env} {σ : St} {Hs Hs' H H' : Hp}
theorem HdR.keep (S : Sim K P0 O W ρ σ H) (k : Keep W σ H H') {h : Hd} {v : V} (r : HdR K P0 O Hs σ H h v) : HdR K P0 O Hs σ H' h v := by
  cases h with
  | fr d => exact ⟨S.rep k r.1, r.2⟩
  | vl d => exact S.rep k r
  | ow i => exact r
/-- ahead of that -/
theorem HdR.back (k : ∀ b, Hs' b ≠ none → Hs b ≠ none) {h : Hd} {v : V} (r : HdR K P0 O Hs σ H h v) : HdR K P0 O Hs' σ H h v := by
  cases h with
  | fr d => exact ⟨r.1, fun m a e => Classical.byContradiction fun z => k a z (r.2 m a e)⟩
  | vl d => exact r
  | ow i => exact r
theorem HdR.d (S : Sim K P0 O W ρ σ H) {h : Hd} {v : V} {d : D} (r : HdR K P0 O Hs σ H h v) (e : h.d ρ = .ok d) : RepW K H d (FA P0 O σ) v := by
  cases h with
  | fr d' => cases e; exact r.1.weak S.dom
  | vl d' => cases e; exact Rep.weak S.dom r
  | ow i =>
    obtain ⟨w, h1, h2⟩ := S.look e
    have q : σ[i]? = some (some v) := r.2
    rw [q] at h1; cases h1
    exact h2
theorem HdR.v {h : Hd} {v : V} {d : D} (r : HdR K P0 O Hs σ H h v) (e : h.v = .ok d) : Rep K H d (FA P0 O σ) v := by
  cases h with
  | fr d' => cases e; exact r.1
  | vl d' => cases e; exact r
  | ow i => cases e
end
end Y

set_option Elab.async false
set_option linter.all false
set_option maxRecDepth 100000
namespace Y
open PySem PySem.Spec PyProof.Rows L2

/-- no exception is told on -/
def R.nox {α : Type} : R α → R α
  | .er _ _ => .stk
  | x => x
@[simp] theorem R.nox_ok {α : Type} (a : α) : (R.ok a).nox = .ok a := id rfl
@[simp] theorem R.nox_stk {α : Type} : (R.stk : R α).nox = .stk := id rfl
abbrev EK := Str → List D → Hp → Prop
def Res (E : EK) (W : List Nat) (σ : St) (H : Hp) {α : Type} (r : R α) (k : α → Prop) : Prop := match r with
  | .ok a => k a
  | .er c ds => ∀ H', Keep W σ H H' → E c ds H'
  | .stk => False
section
variable {E : EK} {O W : List Nat} {σ : St} {H H1 : Hp} {α β : Type}
theorem Res.of_bind {r : R α} {f : α → R β} {k : β → Prop} (h : Res E W σ H (r >>= f) k) : Res E W σ H r fun a => Res E W σ H (f a) k := by cases r <;> exact h
theorem Res.mono {r : R α} {k k' : α → Prop} (h : Res E W σ H r k) (i : ∀ a, k a → k' a) : Res E W σ H r k' := by
  cases r with
  | ok a => exact i a h
  | er c ds => exact h
  | stk => exact h
theorem Res.keep {r : R α} {k : α → Prop} (h : Res E W σ H r k) (kp : Keep W σ H H1) : Res E W σ H1 r k := by
  cases r with
  | ok a => exact h
  | er c ds => exact fun H' k2 => h H' (kp.trans k2)
  | stk => exact h
theorem Res.of_nox {r : R α} {f : α → R β} {k : β → Prop} (h : Res E W σ H (r.nox >>= f) k) : ∃ a, r = .ok a ∧ Res E W σ H (f a) k := by
  cases r with
  | ok a => exact ⟨a, rfl, h⟩
  | er c ds => exact h.elim
  | stk => exact h.elim
end

def tM (K : PySem.W.Frag) (P0 : Pr) (O W : List Nat) (E : EK) (m : EM) : TE := fun σ H Q => ∃ ρ, Sim K P0 O W ρ σ H ∧
  Res E W σ H (m ρ) fun a => ∀ v H', Sim K P0 O W a.2 σ H' → Keep W σ H H' → HdR K P0 O H σ H' a.1 v → Q v H'
/-- several, from the left -/
def HdRs (K : PySem.W.Frag) (P0 : Pr) (O : List Nat) (Hs : Hp) (σ : St) (H : Hp) : List Hd → List V → Prop
  | [], vs => vs = []
  | h :: hs, vs => ∃ v ws, vs = v :: ws ∧ HdR K P0 O Hs σ H h v ∧ HdRs K P0 O Hs σ H hs ws
abbrev AM := Env → R (List Hd × Env)
def tMs (K : PySem.W.Frag) (P0 : Pr) (O W : List Nat) (E : EK) (m : AM) : TA := fun σ H Q => ∃ ρ, Sim K P0 O W ρ σ H ∧
  Res E W σ H (m ρ) fun a => ∀ vs H', Sim K P0 O W a.2 σ H' → Keep W σ H H' → HdRs K P0 O H σ H' a.1 vs → Q vs H'
abbrev BM := Env → R (Bool × Env)
def tMt (K : PySem.W.Frag) (P0 : Pr) (O W : List Nat) (E : EK) (m : BM) : TT := fun σ H Q => ∃ ρ, Sim K P0 O W ρ σ H ∧
  Res E W σ H (m ρ) fun a => ∀ H', Sim K P0 O W a.2 σ H' → Keep W σ H H' → Q a.1 H'
theorem PE.imp {X : Cx} {e : Expr} {t t' : TE} (h : PE X e t) (i : ∀ σ H Q, t' σ H Q → t σ H Q) : PE X e t' := ⟨fun pins s σ H Q I q => h.run pins s σ H Q I (i σ H Q q)⟩
theorem PT.imp {X : Cx} {e : Expr} {t t' : TT} (h : PT X e t) (i : ∀ σ H Q, t' σ H Q → t σ H Q) : PT X e t' := ⟨fun pins s σ H Q I q => h.run pins s σ H Q I (i σ H Q q)⟩
theorem PW.imp {X : Cx} {e : Expr} {t t' : TT} (h : PW X e t) (i : ∀ σ H Q, t' σ H Q → t σ H Q) : PW X e t' := ⟨fun w pins s σ H Q I q => h.run w pins s σ H Q I (i σ H Q q)⟩
theorem PA.imp {X : Cx} {e : List Expr} {t t' : TA} (h : PA X e t) (i : ∀ σ H Q, t' σ H Q → t σ H Q) : PA X e t' := ⟨fun p pins s σ H Q I q => h.run p pins s σ H Q I (i σ H Q q)⟩
theorem PS.imp {X : Cx} {e : Stmt} {t t' : TS} (h : PS X e t) (i : ∀ D σ H, t' D σ H → t D σ H) : PS X e t' := ⟨fun pins s σ H D I q => h.run pins s σ H D I (i D σ H q)⟩
theorem PSs.imp {X : Cx} {e : List Stmt} {t t' : TS} (h : PSs X e t) (i : ∀ D σ H, t' D σ H → t D σ H) : PSs X e t' := ⟨fun pins s σ H D I q => h.run pins s σ H D I (i D σ H q)⟩
theorem PE.or {X : Cx} {e : Expr} {t t' : TE} (h : PE X e t) (h' : PE X e t') : PE X e fun σ H Q => t σ H Q ∨ t' σ H Q :=
  ⟨fun pins s σ H Q I q => q.elim (h.run pins s σ H Q I) (h'.run pins s σ H Q I)⟩
section
variable {K : PySem.W.Frag} {P0 : Pr} {O W : List Nat} {ρ ρ' : Env} {σ : St} {Hs Hs' H H' : Hp}
theorem HdRs.keep (S : Sim K P0 O W ρ σ H) (k : Keep W σ H H') : ∀ {hs : List Hd} {vs : List V}, HdRs K P0 O Hs σ H hs vs → HdRs K P0 O Hs σ H' hs vs
  | [], _, r => r
  | h :: hs, _, ⟨v, ws, e, r1, r2⟩ => ⟨v, ws, e, r1.keep S k, HdRs.keep S k r2⟩
theorem HdRs.back (k : ∀ b, Hs' b ≠ none → Hs b ≠ none) : ∀ {hs : List Hd} {vs : List V}, HdRs K P0 O Hs σ H hs vs → HdRs K P0 O Hs' σ H hs vs
  | [], _, r => r
  | h :: hs, _, ⟨v, ws, e, r1, r2⟩ => ⟨v, ws, e, r1.back k, HdRs.back k r2⟩
end

def cVar (i : Nat) : EM := fun ρ => do
  let d ← (look i ρ).nox
  pure (.vl d, ρ)
def cOwn (i : Nat) : EM := fun ρ => do
  let _ ← (look i ρ).nox
  pure (.ow i, ρ)
def cC (d : D) : EM := fun ρ => .ok (.fr d, ρ)
theorem look_some {i : Nat} {ρ : Env} {d : D} (h : look i ρ = .ok d) : ρ[i]? = some (some d) := by
  unfold look at h
  split at h
  · rename_i e; cases h; exact e
  · cases h
section
variable {X : Cx} {P0 : Pr} {O W : List Nat} {E : EK} {pos : Pos}
abbrev CEx (X : Cx) (P0 : Pr) (O W : List Nat) (E : EK) (e : Expr) (m : EM) : Prop := PE X e (tM X.K P0 O W E m)
theorem ce_var (i : Nat) {x : Str} (ho : i ∉ O := by decide) (hN : X.N[i]? = some x := by rfl) (hv : Vis X.env.scope x := by first | exact Or.inl rfl | exact Or.inr (Or.inl rfl) | exact Or.inr (Or.inr rfl)) (hd : (x == ("__debug__" : Str)) = false := by decide)
    (hcd : (x == ("__classdict__" : Str)) = false := by decide) : CEx X P0 O W E (.Name x pos) (cVar i) := PE.imp (pe_var (i := i) hN hv hd hcd) fun σ H Q ⟨ρ, S, h⟩ => by
  obtain ⟨d, e, h⟩ := h.of_nox
  obtain ⟨v, h1, h2⟩ := S.val i d (look_some e) ho
  exact ⟨v, h1, h v H S .refl h2⟩
theorem ce_own (i : Nat) {x : Str} (ho : i ∈ O := by decide) (hN : X.N[i]? = some x := by rfl) (hv : Vis X.env.scope x := by first | exact Or.inl rfl | exact Or.inr (Or.inl rfl) | exact Or.inr (Or.inr rfl)) (hd : (x == ("__debug__" : Str)) = false := by decide)
    (hcd : (x == ("__classdict__" : Str)) = false := by decide) : CEx X P0 O W E (.Name x pos) (cOwn i) := PE.imp (pe_var (i := i) hN hv hd hcd) fun σ H Q ⟨ρ, S, h⟩ => by
  obtain ⟨d, e, h⟩ := h.of_nox
  obtain ⟨v, h1, h2⟩ := S.own i d (look_some e) ho
  exact ⟨v, h1, h v H S .refl ⟨ho, h1⟩⟩
theorem c_of {v : V} {d : D} (h : ∀ H P, Rep X.K H d P v) (hm : d.isMu = false) : ∀ σ H Q, tM X.K P0 O W E (cC d) σ H Q → tC v σ H Q := fun σ H Q ⟨ρ, S, q⟩ =>
  q v H S .refl ⟨h _ _, fun z => by rw [hm] at z; cases z⟩
theorem ce_int {i j} : CEx X P0 O W E (.Constant (.int i) j pos) (cC (.int i)) := PE.imp pe_int (c_of (fun _ _ => by unfold Rep; rfl) rfl)
theorem ce_bl {i j} : CEx X P0 O W E (.Constant (.bool i) j pos) (cC (.bl i)) := PE.imp pe_bl (c_of (fun _ _ => by unfold Rep; rfl) rfl)
theorem ce_str {i j} : CEx X P0 O W E (.Constant (.str i) j pos) (cC (.str i)) := PE.imp pe_str (c_of (fun _ _ => by unfold Rep; rfl) rfl)
theorem ce_non {j} : CEx X P0 O W E (.Constant .none j pos) (cC .non) := PE.imp pe_non (c_of (fun _ _ => by unfold Rep; rfl) rfl)
/-- a module's constant: a number, a text, True, None -/
theorem ce_glob {x : Str} {v : V} {d : D} {u : Value} (h : ∀ H P, Rep X.K H d P v) (hm : d.isMu = false) (r : RelV v u) (hx : X.mg x = some u) (hg : Gl X x := by rfl) (hd : (x == ("__debug__" : Str)) = false := by decide) : CEx X P0 O W E (.Name x pos) (cC d) :=
  PE.imp (pe_glob hg hx r hd) (c_of h hm)
end

def cOp (f : D → D → R D) (a b : EM) : EM := fun ρ => do
  let (h1, ρ1) ← a ρ
  let (h2, ρ2) ← b ρ1
  let x ← (h1.d ρ2).nox
  let y ← (h2.d ρ2).nox
  let z ← (f x y).nox
  pure (.fr z, ρ2)
/-- what is told on of an operation: new data -/
def Out (K : PySem.W.Frag) (P : Pr) (H : Hp) (d : D) (Q : VK) : Prop := ∀ v H', Same H H' → Rep K H' d P v → (d.isMu = true → ∀ a, v = .ref a → H a = none) → Q v H'
def rD (K : PySem.W.Frag) (f : D → D → R D) : R2 := fun x y H Q => ∃ (P : Pr) (dx dy dz : D), (∀ b, P b → isMut (H b)) ∧ RepW K H dx P x ∧ RepW K H dy P y ∧ f dx dy = .ok dz ∧ Out K P H dz Q
theorem Same.some {H H' : Hp} (k : Same H H') : ∀ b, H b ≠ none → H' b ≠ none := fun b e => by
  cases q : H b with
  | none => exact absurd q e
  | some o => rw [k b o q]; intro z; cases z
section
variable {K : PySem.W.Frag} {P0 : Pr} {O W : List Nat} {E : EK}
/-- an operation's end, told to what follows -/
theorem out_of {ρ : Env} {σ : St} {H H1 : Hp} {Q : VK} {d : D} (S : Sim K P0 O W ρ σ H1) (k : Keep W σ H H1)
    (h : ∀ v H', Sim K P0 O W ρ σ H' → Keep W σ H H' → HdR K P0 O H σ H' (.fr d) v → Q v H') : Out K (FA P0 O σ) H1 d Q := fun v H' sm r fr =>
  h v H' (S.same sm) (k.trans (Keep.same sm)) ⟨r, fun m a e => Classical.byContradiction fun z => k.some a z (fr m a e)⟩
theorem tM_op {f : D → D → R D} {a b : EM} (σ : St) (H : Hp) (Q : VK) (h : tM K P0 O W E (cOp f a b) σ H Q) : tOp (rD K f) (tM K P0 O W E a) (tM K P0 O W E b) σ H Q := by
  obtain ⟨ρ, S, h⟩ := h
  refine ⟨ρ, S, h.of_bind.mono fun ⟨h1, ρ1⟩ q x H1 S1 k1 r1 => ⟨ρ1, S1, (q.keep k1).of_bind.mono fun ⟨h2, ρ2⟩ q2 y H2 S2 k2 r2 => ?_⟩⟩
  obtain ⟨dx, e1, q3⟩ := q2.of_nox
  obtain ⟨dy, e2, q4⟩ := q3.of_nox
  obtain ⟨dz, e3, q5⟩ := q4.of_nox
  exact ⟨FA P0 O σ, dx, dy, dz, S2.dom, (r1.keep S1 k2).d S2 e1, r2.d S2 e2, e3, out_of S2 (k1.trans k2) q5⟩
/-- new data of no object -/
theorem Out.flat {P : Pr} {H : Hp} {d : D} {v : V} {Q : VK} (h : Out K P H d Q) (r : Rep K H d P v) (hm : d.isMu = false) : Q v H := h v H (fun _ _ e => e) r fun z => by rw [hm] at z; cases z
theorem Out.int {P : Pr} {H : Hp} {i : Int} {Q : VK} (h : Out K P H (.int i) Q) : Q (.int i) H := h.flat (by unfold Rep; rfl) rfl
theorem Out.bl {P : Pr} {H : Hp} {i : Bool} {Q : VK} (h : Out K P H (.bl i) Q) : Q (.bl i) H := h.flat (by unfold Rep; rfl) rfl
theorem Out.str {P : Pr} {H : Hp} {i : Str} {Q : VK} (h : Out K P H (.str i) Q) : Q (.str i) H := h.flat (by unfold Rep; rfl) rfl
theorem Out.non {P : Pr} {H : Hp} {Q : VK} (h : Out K P H .non Q) : Q .non H := h.flat (by unfold Rep; rfl) rfl
theorem Out.newL {P : Pr} {H : Hp} {ds : List D} {vs : List V} {Q : VK} (h : Out K P H (.lst ds) Q) (hm : ∀ b, P b → isMut (H b)) (r : Reps K H ds P vs) {p : Addr} (hp : H p = none) : Q (.ref p) (upd H p (.lst vs)) :=
  h _ _ (Same.new hp) (Rep.newL hm r hp) fun _ a e => by cases e; exact hp
theorem Out.newT {P : Pr} {H : Hp} {ds : List D} {vs : List V} {Q : VK} (h : Out K P H (.tup ds) Q) (hm : ∀ b, P b → isMut (H b)) (r : Reps K H ds P vs) {p : Addr} (hp : H p = none) : Q (.ref p) (upd H p (.tup vs)) :=
  h _ _ (Same.new hp) (Rep.newT hm r hp) fun z => by cases z
/-- reading a datum's form -/
theorem RepW.int {H : Hp} {i : Int} {P : Pr} {v : V} (h : RepW K H (.int i) P v) : v = .int i := by unfold RepW Rep at h; exact h
theorem RepW.bl {H : Hp} {i : Bool} {P : Pr} {v : V} (h : RepW K H (.bl i) P v) : v = .bl i := by unfold RepW Rep at h; exact h
theorem RepW.str {H : Hp} {i : Str} {P : Pr} {v : V} (h : RepW K H (.str i) P v) : v = .str i := by unfold RepW Rep at h; exact h
theorem RepW.non {H : Hp} {P : Pr} {v : V} (h : RepW K H .non P v) : v = .non := by unfold RepW Rep at h; exact h
theorem RepW.tup {H : Hp} {ds : List D} {P : Pr} {v : V} (h : RepW K H (.tup ds) P v) : ∃ a vs, v = .ref a ∧ H a = some (.tup vs) ∧ Reps K H ds P vs := by unfold RepW Rep at h; exact h
theorem RepW.ftu {H : Hp} {ds : List D} {P : Pr} {v : V} (h : RepW K H (.ftu ds) P v) : ∃ a vs o, v = .ref a ∧ H a = some (.frz o (.tup vs)) ∧ o.dict = none ∧ Reps K H ds P vs := by unfold RepW Rep at h; exact h
theorem SqT.fz {H : Hp} {a : Addr} {o : Obj} {vs : List V} (h : H a = some (.frz o (.tup vs))) : SqT K H a vs := .inl (.inr ⟨o, h⟩)
theorem RepW.lst {H : Hp} {ds : List D} {P : Pr} {v : V} (h : RepW K H (.lst ds) P v) : ∃ a vs, v = .ref a ∧ H a = some (.lst vs) ∧ Reps K H ds P vs := h
theorem RepW.arg {H : Hp} {ds : List Int} {P : Pr} {v : V} (h : RepW K H (.arg ds) P v) : ∃ a, v = .ref a ∧ SqL K H a (ds.map V.int) := h
theorem Rep.ftu_of {H : Hp} {ds : List D} {P : Pr} {a : Addr} {o : Obj} {vs : List V} (h : H a = some (.frz o (.tup vs))) (hd : o.dict = none) (r : Reps K H ds P vs) : Rep K H (.ftu ds) P (.ref a) := by unfold Rep; exact ⟨a, vs, o, rfl, h, hd, r⟩
theorem Rep.tup_of {H : Hp} {ds : List D} {P : Pr} {a : Addr} {vs : List V} (h : H a = some (.tup vs)) (r : Reps K H ds P vs) : Rep K H (.tup ds) P (.ref a) := by unfold Rep; exact ⟨a, vs, rfl, h, r⟩
/-- a list or a tuple, for reading -/
def seqOf : D → Option (List D)
  | .lst ds => some ds
  | .tup ds => some ds
  | .arg ns => some (ns.map D.int)
  | .ftu ds => some ds
  | _ => none
theorem reps_ints {H : Hp} {P : Pr} : ∀ ns : List Int, Reps K H (ns.map D.int) P (ns.map V.int)
  | [] => Reps.nil
  | n :: ns => Reps.cons (by unfold Rep; rfl) (reps_ints ns)
theorem RepW.seq {H : Hp} {d : D} {ds : List D} {P : Pr} {v : V} (h : RepW K H d P v) (e : seqOf d = some ds) : ∃ a vs, v = .ref a ∧ (SqL K H a vs ∨ SqT K H a vs) ∧ Reps K H ds P vs := by
  cases d <;> simp only [seqOf, Option.some.injEq, reduceCtorEq] at e
  · subst e; obtain ⟨a, vs, rfl, h1, h2⟩ := h.tup; exact ⟨a, vs, rfl, .inr (SqT.of h1), h2⟩
  · subst e; obtain ⟨a, vs, rfl, h1, h2⟩ := h.lst; exact ⟨a, vs, rfl, .inl (SqL.of h1), h2⟩
  · subst e; obtain ⟨a, rfl, h1⟩ := h.arg; exact ⟨a, _, rfl, .inl h1, reps_ints _⟩
  · subst e; obtain ⟨a, vs, o, rfl, h1, _, h2⟩ := h.ftu; exact ⟨a, vs, rfl, .inr (SqT.fz h1), h2⟩
end

/-- sizes that the machine bears -/
def szOk (n : Nat) : Bool := decide (n ≤ sizeLine)
def addD : D → D → R D
  | .int i, .int j => .ok (.int (i + j))
  | .str x, .str y => if szOk (x.length + y.length) = true then .ok (.str (x ++ y)) else .stk
  | .tup x, .tup y => if szOk (x.length + y.length) = true then .ok (.tup (x ++ y)) else .stk
  | .lst x, .lst y => if szOk (x.length + y.length) = true then .ok (.lst (x ++ y)) else .stk
  | _, _ => .stk
/-- either factor is small, or both are of at most 2 ^ 26 bits -/
def mulOk (i j : Int) : Bool := decide (i.natAbs < 2 ^ 64) || decide (j.natAbs < 2 ^ 64) || decide (i.natAbs.log2 < 2 ^ 26 - 8 ∧ j.natAbs.log2 < 2 ^ 26 - 8)
/-- a text as many times as told -/
def repS (k : Int) (x : Str) : Str := if k < 1 then Str.empty else if (k == 1 || x.length == 0) = true then x else ⟨(List.replicate k.toNat x.cps).foldl (· ++ ·) #[]⟩
def mulD : D → D → R D
  | .int i, .int j => if mulOk i j = true then .ok (.int (i * j)) else .stk
  | .lst x, .int k => if k < 2 ^ 20 ∧ -(2 ^ 20) < k ∧ szOk (x.length * k.toNat) = true then .ok (.lst (List.replicate k.toNat x).flatten) else .stk
  | .str x, .int k => if k < 2 ^ 20 ∧ -(2 ^ 20) < k ∧ szOk (x.length * k.toNat) = true then .ok (.str (repS k x)) else .stk
  | .tup x, .int k => if x.isEmpty = false ∧ -(2 ^ 20) < k ∧ k ≤ 1000 ∧ x.length ≤ 1000 then .ok (.tup (List.replicate k.toNat x).flatten) else .stk
  | _, _ => .stk
def smallPos (j : Int) : Bool := decide (0 < j ∧ j < 1073741824)
def fdivD : D → D → R D
  | .int i, .int j => if smallPos j = true then .ok (.int (i / j)) else .stk
  | _, _ => .stk
def modD : D → D → R D
  | .int i, .int j => if 0 < j then .ok (.int (i % j)) else .stk
  | _, _ => .stk
theorem mulOk_ok {i j : Int} (h : mulOk i j = true) : IntMulOk i j := by
  unfold mulOk at h
  simp only [Bool.or_eq_true, decide_eq_true_eq] at h
  rcases h with (h | h) | ⟨h1, h2⟩
  · exact IntMulOk.of_left (intBits_le_64 (by omega) (by omega))
  · exact IntMulOk.of_right (intBits_le_64 (by omega) (by omega))
  · have b : ∀ x : Int, Builtin.Int.intBits x ≤ x.natAbs.log2 + 1 := fun x => by
      unfold Builtin.Int.intBits
      split <;> omega
    have h3 := b i
    have h4 := b j
    have e : bitsLine = 134217728 := by decide
    unfold IntMulOk
    intro z
    rw [Bool.and_eq_true] at z
    have z2 := z.2
    unfold Builtin.Int.intTooBig at z2
    have z3 := of_decide_eq_true z2
    rw [e] at z3
    omega
section
variable {X : Cx}
theorem od_int {f : Value → Value → Sem Value} {g : D → D → R D} {C : Int → Int → Prop} {h : Int → Int → Int} (ho : OpR X f (rI C fun i j => .int (h i j))) (hg : ∀ x y z, g x y = .ok z → ∃ i j, x = .int i ∧ y = .int j ∧ z = .int (h i j) ∧ C i j) : OpR X f (rD X.K g) := by
  intro pins s σ H x y v u Q I rx ry ⟨P, dx, dy, dz, hm, r1, r2, e, out⟩
  obtain ⟨i, j, rfl, rfl, rfl, c⟩ := hg dx dy dz e
  obtain rfl := r1.int
  obtain rfl := r2.int
  exact ho pins s σ H _ _ v u Q I rx ry ⟨i, j, rfl, rfl, c, out.int⟩
theorem od_fdiv : OpR X (binaryOp .FloorDiv) (rD X.K fdivD) := od_int op_fdiv fun x y z e => by
  cases x <;> cases y <;> simp only [fdivD, R.ok.injEq, reduceCtorEq] at e
  split at e
  · rename_i c; cases e; exact ⟨_, _, rfl, rfl, rfl, by unfold smallPos at c; have c := of_decide_eq_true c; exact c⟩
  · cases e
theorem od_mod : OpR X (binaryOp .Mod) (rD X.K modD) := od_int op_mod fun x y z e => by
  cases x <;> cases y <;> simp only [modD, R.ok.injEq, reduceCtorEq] at e
  split at e
  · rename_i c; cases e; exact ⟨_, _, rfl, rfl, rfl, c⟩
  · cases e
theorem od_add : OpR X (binaryOp .Add) (rD X.K addD) := by
  intro pins s σ H x y v u Q I rx ry ⟨P, dx, dy, dz, hm, r1, r2, e, out⟩
  cases dx <;> cases dy <;> simp only [addD, R.ok.injEq, reduceCtorEq] at e
  · subst e
    obtain rfl := r1.int
    obtain rfl := r2.int
    exact op_add pins s σ H _ _ v u Q I rx ry ⟨_, _, rfl, rfl, out.int⟩
  · split at e
    · rename_i c; cases e
      obtain rfl := r1.str
      obtain rfl := r2.str
      exact op_add_str pins s σ H _ _ v u Q I rx ry ⟨_, _, rfl, rfl, of_decide_eq_true c, out.str⟩
    · cases e
  · split at e
    · rename_i c; cases e
      obtain ⟨a, vs, rfl, h1, h2⟩ := r1.tup
      obtain ⟨b, ws, rfl, h3, h4⟩ := r2.tup
      refine op_catA pins s σ H _ _ v u Q I rx ry ⟨a, b, vs, ws, rfl, rfl, SqT.of h1, SqT.of h3, by rw [h2.length, h4.length]; exact of_decide_eq_true c, fun z => ?_, fun _ z => ?_, fun _ _ p hp => out.newT hm (h2.append h4) hp⟩
      · subst z
        have z := h2.length
        have z := List.length_eq_zero_iff.mp (show _ = 0 from z.symm)
        subst z
        rw [List.nil_append] at out
        exact out.flat (Rep.tup_of h3 h4) rfl
      · subst z
        have z := h4.length
        have z := List.length_eq_zero_iff.mp (show _ = 0 from z.symm)
        subst z
        rw [List.append_nil] at out
        exact out.flat (Rep.tup_of h1 h2) rfl
    · cases e
  · split at e
    · rename_i c; cases e
      obtain ⟨a, vs, rfl, h1, h2⟩ := r1.lst
      obtain ⟨b, ws, rfl, h3, h4⟩ := r2.lst
      exact op_cat pins s σ H _ _ v u Q I rx ry ⟨a, b, vs, ws, rfl, rfl, h1, h3, by rw [h2.length, h4.length]; exact of_decide_eq_true c, fun p hp => out.newL hm (h2.append h4) hp⟩
    · cases e
end
end Y

set_option Elab.async false
set_option linter.all false
set_option maxRecDepth 100000
namespace Y
open PySem PySem.Spec PyProof.Rows L2

section
open PySem.AutoSeq1 (wpAny_loadPart')
theorem tuple_mulS (l : Addr) (items : Array Value) (n : Nat) (dd : Option Addr) (sl : Array (Option Value)) (x : Int) (u : Tok) (c0 : (decide (x < -(2 ^ 63)) || decide (x ≥ 2 ^ 63)) = false) (c1 : (items.isEmpty || x == 1) = true) :
    Meets (Builtin.«tuple.__mul__» ⟨[.ref l, .int x u], []⟩) (fun _ R s => s.heap.get? l = some { cls := .type "tuple", dict := dd, data := .seq items n, slots := sl } ∧
      R (.ok (.ret (Value.ref l))) s) :=
  .of_wp fun prog w A R s h => by
    obtain ⟨hp, g, d, tk, os⟩ := s
    obtain ⟨hl, h⟩ := h
    have f1 := AutoSeq1.idx_int
    wp_walk using wpAny_loadPart' hl
    repeat (first
      | (refine wpAny_ite_false (decide_eq_false (by rw [c0]; exact Bool.false_ne_true)) ?_; wp_walk using wpAny_loadPart' hl)
      | (refine wpAny_ite_true (decide_eq_true c1) ?_; wp_walk using wpAny_loadPart' hl))
    exact ⟨_, rfl, h⟩
theorem tuple_mulE (l : Addr) (items : Array Value) (n : Nat) (dd : Option Addr) (sl : Array (Option Value)) (x : Int) (u : Tok) (c0 : (decide (x < -(2 ^ 63)) || decide (x ≥ 2 ^ 63)) = false) (c1 : (items.isEmpty || x == 1) = false) (c2 : (decide (x ≤ 0) || items.isEmpty) = true) :
    Meets (Builtin.«tuple.__mul__» ⟨[.ref l, .int x u], []⟩) (fun _ R s => s.heap.get? l = some { cls := .type "tuple", dict := dd, data := .seq items n, slots := sl } ∧
      R (.ok (.ret (Value.ref s.heap.objs.size))) { s with heap := s.heap.push { cls := Value.type "tuple", data := Data.seq #[] }, toks := s.toks }) :=
  .of_wp fun prog w A R s h => by
    obtain ⟨hp, g, d, tk, os⟩ := s
    obtain ⟨hl, h⟩ := h
    have f1 := AutoSeq1.idx_int
    wp_walk using wpAny_loadPart' hl
    repeat (first
      | (refine wpAny_ite_false (decide_eq_false (by rw [c0]; exact Bool.false_ne_true)) ?_; wp_walk using wpAny_loadPart' hl)
      | (refine wpAny_ite_false (decide_eq_false (by rw [c1]; exact Bool.false_ne_true)) ?_; wp_walk using wpAny_loadPart' hl)
      | (refine wpAny_ite_true (decide_eq_true c2) ?_; wp_walk using wpAny_loadPart' hl))
    exact ⟨_, rfl, h⟩
end
/-- a tuple times an int: once is the tuple itself -/
theorem op_repT1 {X : Cx} : OpR X (binaryOp .Mult) (fun x y H Q => ∃ l xs, x = .ref l ∧ y = .int 1 ∧ SqT X.K H l xs ∧ Q (.ref l) H) := by
  intro pins s σ H x y v u Q I rx ry h
  obtain ⟨l, xs, rfl, rfl, hT, q⟩ := h
  cases rx
  obtain ⟨t, rfl⟩ := ry
  obtain ⟨its, r, ⟨⟨cls, dd, data, sl⟩, ho, hc, n, hd⟩, hs⟩ := I.tuple hT
  simp only at hc hd
  subst hc hd
  have c0 : (decide ((1 : Int) < -(2 ^ 63)) || decide ((1 : Int) ≥ 2 ^ 63)) = false := by decide
  refine wpAny_binaryOp_repeat_ref (T := "tuple") (U := "int") (by decide) ⟨_, ho, rfl⟩ (fun s' => typeIs_int s' 1 t) noFill_tuple_mul F.fills_int_mul F.slot_int_rmul repeat_tuple F.slot_int_index.lookup
    (call_meets F.slot_int_rmul (typeIs_int s 1 t) F.entry_int_rmul (F.args_int_rmul_2 _ _) (int_rmul_tuple 1 t l its.toArray n dd sl)
      ⟨ho, rfl, ⟨_, ho, rfl⟩, call_meets F.slot_tuple_mul ⟨_, ho, rfl⟩ F.entry_tuple_mul (F.args_tuple_mul_2 _ _) (tuple_mulS l its.toArray n dd sl 1 t c0 (by simp)) ⟨ho, ?_⟩⟩)
  exact ⟨.ref l, H, I, rfl, q⟩
/-- no time or fewer: an empty tuple -/
theorem op_repT0 {X : Cx} : OpR X (binaryOp .Mult) (fun x y H Q => ∃ l k xs, x = .ref l ∧ y = .int k ∧ SqT X.K H l xs ∧ xs ≠ [] ∧ k ≤ 0 ∧ -(2 ^ 20) < k ∧ ∀ p, H p = none → Q (.ref p) (upd H p (.tup []))) := by
  intro pins s σ H x y v u Q I rx ry h
  obtain ⟨l, k, xs, rfl, rfl, hT, hne, h1, h2, q⟩ := h
  cases rx
  obtain ⟨t, rfl⟩ := ry
  obtain ⟨its, r, ⟨⟨cls, dd, data, sl⟩, ho, hc, n, hd⟩, hs⟩ := I.tuple hT
  simp only at hc hd
  subst hc hd
  have hi : its.toArray.isEmpty = false := by
    cases its with
    | nil => exact absurd (List.eq_nil_of_length_eq_zero r.length) hne
    | cons a b => rfl
  have c0 : (decide (k < -(2 ^ 63)) || decide (k ≥ 2 ^ 63)) = false := by
    rw [decide_eq_false (by omega), decide_eq_false (by omega)] <;> rfl
  have c1 : (its.toArray.isEmpty || k == 1) = false := by
    rw [hi, Bool.false_or]
    exact beq_eq_false_iff_ne.mpr (by omega)
  have c2 : (decide (k ≤ 0) || its.toArray.isEmpty) = true := by
    rw [decide_eq_true h1, Bool.true_or]
  refine wpAny_binaryOp_repeat_ref (T := "tuple") (U := "int") (by decide) ⟨_, ho, rfl⟩ (fun s' => typeIs_int s' k t) noFill_tuple_mul F.fills_int_mul F.slot_int_rmul repeat_tuple F.slot_int_index.lookup
    (call_meets F.slot_int_rmul (typeIs_int s k t) F.entry_int_rmul (F.args_int_rmul_2 _ _) (int_rmul_tuple k t l its.toArray n dd sl)
      ⟨ho, rfl, ⟨_, ho, rfl⟩, call_meets F.slot_tuple_mul ⟨_, ho, rfl⟩ F.entry_tuple_mul (F.args_tuple_mul_2 _ _) (tuple_mulE l its.toArray n dd sl k t c0 c1 c2) ⟨ho, ?_⟩⟩)
  refine ⟨.ref s.heap.objs.size, _, I.laid (t' := s.toks) (o := .tup []) (fun b ob q => Heap.get?_push_of_some _ q) (Nat.le_refl _) ?_, rfl, q _ (I.hok.fresh (Nat.le_refl _))⟩
  exact ⟨Nat.zero_le _, [], .nil, IsTup.new _ _⟩
theorem rep_all {K : PySem.W.Frag} {H : Hp} {P : Pr} {ds : List D} {vs : List V} (h : Reps K H ds P vs) : ∀ k : Nat, Reps K H (List.replicate k ds).flatten P (List.replicate k vs).flatten
  | 0 => Reps.nil
  | k + 1 => by rw [List.replicate_succ, List.replicate_succ, List.flatten_cons, List.flatten_cons]; exact h.append (rep_all h k)
noncomputable instance : DecidableEq (List D) := fun _ _ => Classical.propDecidable _
noncomputable instance : DecidableEq D := fun _ _ => Classical.propDecidable _
section
variable {X : Cx}
theorem repS_len (k : Int) (x : Str) : (⟨(List.replicate k.toNat x.cps).foldl (· ++ ·) #[]⟩ : Str).length = x.length * k.toNat := by
  show Array.size _ = _
  have h : ∀ (m : Nat) (a : Array Nat), ((List.replicate m x.cps).foldl (· ++ ·) a).size = a.size + x.cps.size * m := by
    intro m
    induction m with
    | zero => intro a; simp
    | succ m ih => intro a; rw [List.replicate_succ, List.foldl_cons, ih, Array.size_append, Nat.mul_succ]; omega
  rw [h, Array.size_empty, Nat.zero_add]
  rfl
/-- a text times an int -/
theorem op_repS : OpR X (binaryOp .Mult) (fun x y H Q => ∃ i k, x = .str i ∧ y = .int k ∧ -(2 ^ 20) < k ∧ k < 2 ^ 20 ∧ i.length * k.toNat ≤ sizeLine ∧ Q (.str (repS k i)) H) := by
  intro pins s σ H x y v u Q I rx ry h
  obtain ⟨i, k, rfl, rfl, h1, h2, hz, q⟩ := h
  obtain ⟨t, rfl⟩ := rx
  obtain ⟨t', rfl⟩ := ry
  have hs : sizeLine ≤ 2 ^ 40 := by decide
  refine PySem.P.mul_str ?_ (fun c _ => ?_) (fun _ _ => decide_eq_false (by omega)) ?_
  · rw [decide_eq_false (by omega), decide_eq_false (by omega)]; rfl
  · have e : ((i.length * k.toNat : Nat) : Int) = (i.length : Int) * k := by rw [Int.natCast_mul, Int.toNat_of_nonneg (by omega)]
    have := (Int.le_ediv_iff_mul_le (a := (i.length : Int)) (b := 2 ^ 63 - 1) (c := k) (by omega)).mpr (by rw [← e]; omega)
    omega
  · unfold repS at q
    by_cases c1 : k < 1
    · rw [if_pos c1] at q ⊢
      exact ⟨by decide, ⟨.str _, H, I.tok _, ⟨_, rfl⟩, q⟩⟩
    · rw [if_neg c1] at q ⊢
      by_cases c2 : (k == 1 || i.length == 0) = true
      · rw [if_pos c2] at q ⊢
        exact ⟨.str _, H, I, ⟨_, rfl⟩, q⟩
      · rw [if_neg c2] at q ⊢
        exact ⟨by rw [repS_len]; exact hz, ⟨.str _, H, I.tok _, ⟨_, rfl⟩, q⟩⟩
theorem od_mul : OpR X (binaryOp .Mult) (rD X.K mulD) := by
  intro pins s σ H x y v u Q I rx ry ⟨P, dx, dy, dz, hm, r1, r2, e, out⟩
  cases dx <;> cases dy <;> simp only [mulD, R.ok.injEq, reduceCtorEq] at e
  case int.int =>
    split at e
    · rename_i c; cases e
      obtain rfl := r1.int
      obtain rfl := r2.int
      obtain ⟨t, rfl⟩ := rx
      obtain ⟨t', rfl⟩ := ry
      exact mul_int ⟨.int _, H, I.tok _, ⟨_, rfl⟩, out.int⟩ (mulOk_ok c)
    · cases e
  case str.int =>
    split at e
    · rename_i c; cases e
      obtain rfl := r1.str
      obtain rfl := r2.int
      exact op_repS pins s σ H _ _ v u Q I rx ry ⟨_, _, rfl, rfl, by omega, by omega, of_decide_eq_true c.2.2, out.str⟩
    · cases e
  case tup.int =>
    split at e
    · rename_i c; cases e
      obtain ⟨a, vs, rfl, h1, h2⟩ := r1.tup
      obtain rfl := r2.int
      rename_i ds k
      have hne : vs ≠ [] := fun z => by
        have z2 := h2.length
        rw [z] at z2
        have z3 := List.length_eq_zero_iff.mp z2.symm
        rw [z3] at c
        exact absurd c.1 (by decide)
      by_cases c1 : k = 1
      · subst c1
        have e1 : (List.replicate (1 : Int).toNat ds).flatten = ds := by
          show ds ++ [] = ds
          exact List.append_nil _
        rw [e1] at out
        exact op_repT1 pins s σ H _ _ v u Q I rx ry ⟨a, vs, rfl, rfl, SqT.of h1, out.flat (Rep.tup_of h1 h2) rfl⟩
      · by_cases c2 : k ≤ 0
        · have e1 : (List.replicate k.toNat ds).flatten = [] := by
            have : k.toNat = 0 := by omega
            rw [this]; rfl
          rw [e1] at out
          exact op_repT0 pins s σ H _ _ v u Q I rx ry ⟨a, _, vs, rfl, rfl, SqT.of h1, hne, c2, c.2.1, fun p hp => out.newT hm Reps.nil hp⟩
        · exact op_repT pins s σ H _ _ v u Q I rx ry ⟨a, _, vs, rfl, rfl, SqT.of h1, hne, by omega, c.2.2.1, by rw [h2.length]; exact c.2.2.2, fun p hp => out.newT hm (rep_all h2 _) hp⟩
    · cases e
  case lst.int =>
    split at e
    · rename_i c
      have c : _ ∧ _ ∧ _ := c
      cases e
      obtain ⟨a, vs, rfl, h1, h2⟩ := r1.lst
      obtain rfl := r2.int
      exact op_rep pins s σ H _ _ v u Q I rx ry ⟨a, _, vs, rfl, rfl, h1, by omega, by omega, by rw [h2.length]; exact of_decide_eq_true c.2.2, fun p hp => out.newL hm (rep_all h2 _) hp⟩
    · cases e
end

mutual
def toPy : D → PyData
  | .non => .none
  | .bl b => .bool b
  | .int i => .int i
  | .str x => .str x
  | .tup ds => .tuple (toPys ds)
  | .lst ds => .list (toPys ds)
  | .arg ns => .list (ns.map .int)
  | .dik _ _ => .dict []
  | .dit _ _ => .dict []
  | .ftu ds => .tuple (toPys ds)
  | .tab _ _ => .dict []
def toPys : List D → List PyData
  | [] => []
  | d :: ds => toPy d :: toPys ds
end
def dOk (d : D) : Bool := SeqAt.shaped (toPy d)
def eqP (x y : D) : Bool := PyData.eqv (toPy x) (toPy y)
theorem dp_ints {K : PySem.W.Frag} {H : Hp} : ∀ ns : List Int, DpAll K H (ns.map V.int) (ns.map PyData.int)
  | [] => .nil
  | n :: ns => .cons (.int n) (dp_ints ns)
mutual
theorem Rep.dp {K : PySem.W.Frag} {H : Hp} : ∀ (d : D) {P : Pr} {v : V}, (toPy d).canLay0 = true → Rep K H d P v → Dp K H v (toPy d)
  | .non, _, _, _, h => by unfold Rep at h; subst h; exact .non
  | .bl b, _, _, _, h => by unfold Rep at h; subst h; exact .bl b
  | .int i, _, _, _, h => by unfold Rep at h; subst h; exact .int i
  | .str i, _, _, _, h => by unfold Rep at h; subst h; exact .str i
  | .tup ds, P, v, c, h => by
    unfold Rep at h
    obtain ⟨a, vs, rfl, h1, h2⟩ := h
    unfold toPy at c ⊢
    exact .tup (SqT.of h1) (Reps.dp ds (by simpa [PyData.canLay0] using c) h2)
  | .lst ds, P, v, c, h => by
    unfold Rep at h
    obtain ⟨a, vs, rfl, _, h1, h2⟩ := h
    unfold toPy at c ⊢
    exact .lst (SqL.of h1) (Reps.dp ds (by simpa [PyData.canLay0] using c) h2)
  | .arg ns, P, v, c, h => by
    unfold Rep at h
    unfold toPy
    obtain ⟨a, rfl, h⟩ := h
    rcases h with ⟨_, h⟩ | h
    · exact .lst (.inl h) (dp_ints ns)
    · refine .lst (.inr ?_) (dp_ints ns)
      rcases h with h | h
      · rcases h with e | ⟨o, e⟩ <;> cases e
      · exact h
  | .dik _ _, _, _, c, _ => by simp [toPy, PyData.canLay0] at c
  | .dit _ _, _, _, c, _ => by simp [toPy, PyData.canLay0] at c
  | .tab _ _, _, _, c, _ => by simp [toPy, PyData.canLay0] at c
  | .ftu ds, P, v, c, h => by
    unfold Rep at h
    obtain ⟨a, vs, o, rfl, h1, _, h2⟩ := h
    unfold toPy at c ⊢
    exact .tup (SqT.fz h1) (Reps.dp ds (by simpa [PyData.canLay0] using c) h2)
theorem Reps.dp {K : PySem.W.Frag} {H : Hp} : ∀ (ds : List D) {P : Pr} {vs : List V}, PyData.canLayAll0 (toPys ds) = true → Reps K H ds P vs → DpAll K H vs (toPys ds)
  | [], _, _, _, h => by rw [h.nil_iff]; exact .nil
  | d :: ds, P, vs, c, h => by
    obtain ⟨v, ws, rfl, h1, h2⟩ := h.cons_iff
    unfold toPys at c ⊢
    have c := Bool.and_eq_true_iff.mp (show (PyData.canLay0 (toPy d) && PyData.canLayAll0 (toPys ds)) = true by simpa [PyData.canLayAll0] using c)
    exact .cons (Rep.dp d c.1 h1) (Reps.dp ds c.2 h2)
end
theorem RepW.dp {K : PySem.W.Frag} {H : Hp} {d : D} {P : Pr} {v : V} (c : dOk d = true) (h : RepW K H d P v) : Dp K H v (toPy d) := by
  have c := SeqAt.canLay_of_shaped c
  cases d with
  | lst ds =>
    obtain ⟨a, vs, rfl, h1, h2⟩ := h
    unfold toPy at c ⊢
    exact .lst (SqL.of h1) (Reps.dp ds (by simpa [PyData.canLay0] using c) h2)
  | arg ns =>
    obtain ⟨a, rfl, h1⟩ := h
    unfold toPy
    exact .lst h1 (dp_ints ns)
  | dik _ _ => simp [toPy, PyData.canLay0] at c
  | dit _ _ => simp [toPy, PyData.canLay0] at c
  | tab _ _ => simp [toPy, PyData.canLay0] at c
  | non => exact Rep.dp (P := P) _ c h
  | bl _ => exact Rep.dp (P := P) _ c h
  | int _ => exact Rep.dp (P := P) _ c h
  | str _ => exact Rep.dp (P := P) _ c h
  | tup _ => exact Rep.dp (P := P) _ c h
  | ftu _ => exact Rep.dp (P := P) _ c h
def eqD (x y : D) : R D := if (dOk x && dOk y) = true then .ok (.bl (eqP x y)) else .stk
def neD (x y : D) : R D := if (dOk x && dOk y) = true then .ok (.bl (!eqP x y)) else .stk
def ltD : D → D → R D
  | .int i, .int j => .ok (.bl (decide (i < j)))
  | .str x, .str y => .ok (.bl (decide (x.cps.toList < y.cps.toList)))
  | _, _ => .stk
def leD : D → D → R D
  | .int i, .int j => .ok (.bl (decide (i ≤ j)))
  | _, _ => .stk
def gtD : D → D → R D
  | .int i, .int j => .ok (.bl (decide (j < i)))
  | _, _ => .stk
def geD : D → D → R D
  | .int i, .int j => .ok (.bl (decide (j ≤ i)))
  | _, _ => .stk
def isNon : D → Bool
  | .non => true
  | _ => false
def isD : D → D → R D
  | x, .non => .ok (.bl (isNon x))
  | .bl a, .bl b => .ok (.bl (decide (a = b)))
  | _, _ => .stk
def isNotD : D → D → R D
  | x, .non => .ok (.bl (!isNon x))
  | .bl a, .bl b => .ok (.bl (!decide (a = b)))
  | _, _ => .stk
def flatD : D → Bool
  | .non => true
  | .bl _ => true
  | .int _ => true
  | .str _ => true
  | _ => false
/-- in a text of one sign, a list of data, a tuple of flat data -/
def inB : D → D → Option Bool
  | .str a, .str b => if a.length = 1 then some (decide (a.cps.getD 0 0 ∈ b.cps.toList)) else none
  | x, .lst ds => if (dOk x && dOk (.lst ds)) = true then some (ds.any fun z => eqP z x) else none
  | x, .tup ds => if (flatD x && ds.all flatD) = true then some (ds.any fun z => eqP z x) else none
  | _, _ => none
def inD (x y : D) : R D := match inB x y with | some b => .ok (.bl b) | none => .stk
def ninD (x y : D) : R D := match inB x y with | some b => .ok (.bl (!b)) | none => .stk
section
variable {K : PySem.W.Frag} {H : Hp} {P : Pr}
theorem RepW.isNon {d : D} {v : V} (h : RepW K H d P v) : decide (v = .non) = isNon d := by
  cases d with
  | non => rw [h.non]; rfl
  | bl _ => rw [h.bl]; rfl
  | int _ => rw [h.int]; rfl
  | str _ => rw [h.str]; rfl
  | tup _ => obtain ⟨a, vs, rfl, _⟩ := h.tup; rfl
  | lst _ => obtain ⟨a, vs, rfl, _⟩ := h.lst; rfl
  | arg _ => obtain ⟨a, rfl, _⟩ := h.arg; rfl
  | ftu _ => obtain ⟨a, vs, o, rfl, _⟩ := h.ftu; rfl
  | dik _ _ => obtain ⟨a, vs, rfl, _⟩ := h; rfl
  | dit _ _ => obtain ⟨a, vs, rfl, _⟩ := h; rfl
  | tab _ _ => obtain ⟨a, rfl, _⟩ := h; rfl
theorem flat_rep {d : D} {v : V} (f : flatD d = true) (h : Rep K H d P v) : flatV v = true := by
  cases d <;> unfold Rep at h <;> first | (subst h; rfl) | (simp [flatD] at f)
theorem flat_eq {d e : D} {v w : V} (f : flatD d = true) (g : flatD e = true) (h : Rep K H d P v) (h2 : Rep K H e P w) : eqV v w = eqP d e := by
  cases d <;> unfold Rep at h <;> first | (simp [flatD] at f; done) | skip
  all_goals (cases e <;> unfold Rep at h2 <;> first | (simp [flatD] at g; done) | skip)
  all_goals (subst h; subst h2; simp [eqV, eqP, toPy, PyData.eqv])
theorem flats_rep : ∀ {ds : List D} {vs : List V}, ds.all flatD = true → Reps K H ds P vs → vs.all flatV = true
  | [], _, _, h => by rw [h.nil_iff]; rfl
  | d :: ds, vs, f, h => by
    obtain ⟨v, ws, rfl, h1, h2⟩ := h.cons_iff
    rw [List.all_cons, Bool.and_eq_true] at f ⊢
    exact ⟨flat_rep f.1 h1, flats_rep f.2 h2⟩
theorem inV_rep {x : D} {v : V} (g : flatD x = true) (hx : Rep K H x P v) : ∀ {ds : List D} {vs : List V}, ds.all flatD = true → Reps K H ds P vs → inV v vs = ds.any fun z => eqP z x
  | [], _, _, h => by rw [h.nil_iff]; rfl
  | d :: ds, vs, f, h => by
    obtain ⟨w, ws, rfl, h1, h2⟩ := h.cons_iff
    rw [List.all_cons, Bool.and_eq_true] at f
    have ih := inV_rep g hx f.2 h2
    unfold inV at ih ⊢
    rw [List.any_cons, List.any_cons, ih, flat_eq f.1 g h1 hx]
theorem flatW {d : D} {v : V} (f : flatD d = true) (h : RepW K H d P v) : Rep K H d P v := by
  cases d <;> first | exact h | (simp [flatD] at f)
theorem dp_any {x : D} : ∀ ds : List D, ((toPys ds).any fun z => PyData.eqv z (toPy x)) = ds.any fun z => eqP z x
  | [] => rfl
  | d :: ds => by unfold toPys; rw [List.any_cons, List.any_cons, dp_any ds]; rfl
end
section
variable {X : Cx}
theorem od_eq (hu : X.A.units + 64 < cLine) : OpR X (compareOp .Eq) (rD X.K eqD) := by
  intro pins s σ H x y v u Q I rx ry ⟨P, dx, dy, dz, hm, r1, r2, e, out⟩
  unfold eqD at e
  split at e
  · rename_i c; cases e
    rw [Bool.and_eq_true] at c
    exact op_eqD hu pins s σ H x y v u Q I rx ry ⟨_, _, r1.dp c.1, r2.dp c.2, c.1, c.2, out.bl⟩
  · cases e
theorem od_ne (hu : X.A.units + 64 < cLine) : OpR X (compareOp .NotEq) (rD X.K neD) := by
  intro pins s σ H x y v u Q I rx ry ⟨P, dx, dy, dz, hm, r1, r2, e, out⟩
  unfold neD at e
  split at e
  · rename_i c; cases e
    rw [Bool.and_eq_true] at c
    exact op_neD hu pins s σ H x y v u Q I rx ry ⟨_, _, r1.dp c.1, r2.dp c.2, c.1, c.2, out.bl⟩
  · cases e
theorem od_cmp {op : CmpOp} {f : D → D → R D} {p : Int → Int → Bool} (ho : OpR X (compareOp op) (rI0 fun i j => .bl (p i j))) (hf : ∀ x y z, f x y = .ok z → ∃ i j, x = .int i ∧ y = .int j ∧ z = .bl (p i j)) : OpR X (compareOp op) (rD X.K f) := by
  intro pins s σ H x y v u Q I rx ry ⟨P, dx, dy, dz, hm, r1, r2, e, out⟩
  obtain ⟨i, j, rfl, rfl, rfl⟩ := hf _ _ _ e
  obtain rfl := r1.int
  obtain rfl := r2.int
  exact ho pins s σ H _ _ v u Q I rx ry ⟨_, _, rfl, rfl, out.bl⟩
theorem od_le : OpR X (compareOp .LtE) (rD X.K leD) := od_cmp op_le fun x y z e => by
  cases x <;> cases y <;> simp only [leD, R.ok.injEq, reduceCtorEq] at e
  exact ⟨_, _, rfl, rfl, e.symm⟩
theorem od_gt : OpR X (compareOp .Gt) (rD X.K gtD) := od_cmp op_gt fun x y z e => by
  cases x <;> cases y <;> simp only [gtD, R.ok.injEq, reduceCtorEq] at e
  exact ⟨_, _, rfl, rfl, e.symm⟩
theorem od_ge : OpR X (compareOp .GtE) (rD X.K geD) := od_cmp op_ge fun x y z e => by
  cases x <;> cases y <;> simp only [geD, R.ok.injEq, reduceCtorEq] at e
  exact ⟨_, _, rfl, rfl, e.symm⟩
theorem od_lt : OpR X (compareOp .Lt) (rD X.K ltD) := by
  intro pins s σ H x y v u Q I rx ry ⟨P, dx, dy, dz, hm, r1, r2, e, out⟩
  cases dx <;> cases dy <;> simp only [ltD, R.ok.injEq, reduceCtorEq] at e
  · subst e
    obtain rfl := r1.int
    obtain rfl := r2.int
    exact op_lt pins s σ H _ _ v u Q I rx ry ⟨_, _, rfl, rfl, out.bl⟩
  · subst e
    obtain rfl := r1.str
    obtain rfl := r2.str
    exact op_lt_str pins s σ H _ _ v u Q I rx ry ⟨_, _, rfl, rfl, out.bl⟩
theorem od_is : OpR X (compareOp .Is) (rD X.K isD) := by
  intro pins s σ H x y v u Q I rx ry ⟨P, dx, dy, dz, hm, r1, r2, e, out⟩
  unfold isD at e
  split at e
  · cases e
    obtain rfl := r2.non
    exact op_isN pins s σ H _ _ v u Q I rx ry ⟨rfl, by rw [r1.isNon]; exact out.bl⟩
  · cases e
    obtain rfl := r1.bl
    obtain rfl := r2.bl
    exact op_is_bl pins s σ H _ _ v u Q I rx ry ⟨_, _, rfl, rfl, out.bl⟩
  · cases e
theorem od_isnot : OpR X (compareOp .IsNot) (rD X.K isNotD) := by
  intro pins s σ H x y v u Q I rx ry ⟨P, dx, dy, dz, hm, r1, r2, e, out⟩
  unfold isNotD at e
  split at e
  · cases e
    obtain rfl := r2.non
    exact op_notN pins s σ H _ _ v u Q I rx ry ⟨rfl, by rw [r1.isNon]; exact out.bl⟩
  · cases e
    obtain rfl := r1.bl
    obtain rfl := r2.bl
    exact op_isnot_bl pins s σ H _ _ v u Q I rx ry ⟨_, _, rfl, rfl, out.bl⟩
  · cases e
theorem one_sign {a : Str} (h : a.length = 1) : a = ⟨#[a.cps.getD 0 0]⟩ := by
  refine Str.ext' ?_
  have h : a.cps.size = 1 := h
  apply Array.ext
  · simpa using h
  · intro i h1 h2
    have : i = 0 := by simp at h2; omega
    subst this
    simp [Array.getD, h]
theorem od_in (hu : X.A.units + 65 < cLine) : OpR X (compareOp .In) (rD X.K inD) := by
  intro pins s σ H x y v u Q I rx ry ⟨P, dx, dy, dz, hm, r1, r2, e, out⟩
  unfold inD at e
  split at e
  · rename_i b eb
    cases e
    unfold inB at eb
    split at eb
    · split at eb
      · rename_i c; cases eb
        obtain rfl := r1.str
        obtain rfl := r2.str
        refine op_in_sign pins s σ H _ _ v u Q I rx ry ⟨_, _, congrArg V.str (one_sign c), rfl, out.bl⟩
      · cases eb
    · split at eb
      · rename_i c; cases eb
        rw [Bool.and_eq_true] at c
        refine op_inD hu pins s σ H _ _ v u Q I rx ry ⟨_, toPys _, r1.dp c.1, by have q := r2.dp c.2; unfold toPy at q; exact q, c.1, by have q := c.2; unfold dOk toPy at q; exact q, ?_⟩
        rw [dp_any]
        exact out.bl
      · cases eb
    · split at eb
      · rename_i c; cases eb
        rw [Bool.and_eq_true] at c
        obtain ⟨a, vs, rfl, h1, h2⟩ := r2.tup
        refine op_in_seq pins s σ H _ _ v u Q I rx ry ⟨a, vs, rfl, .inr (SqT.of h1), flat_rep c.1 (flatW c.1 r1), flats_rep c.2 h2, ?_⟩
        rw [if_neg (by decide), inV_rep c.1 (flatW c.1 r1) c.2 h2]
        exact out.bl
      · cases eb
    · cases eb
  · cases e
theorem od_nin (hu : X.A.units + 65 < cLine) : OpR X (compareOp .NotIn) (rD X.K ninD) := by
  intro pins s σ H x y v u Q I rx ry ⟨P, dx, dy, dz, hm, r1, r2, e, out⟩
  unfold ninD at e
  split at e
  · rename_i b eb
    cases e
    unfold inB at eb
    split at eb
    · split at eb
      · rename_i c; cases eb
        obtain rfl := r1.str
        obtain rfl := r2.str
        refine op_notIn_sign pins s σ H _ _ v u Q I rx ry ⟨_, _, congrArg V.str (one_sign c), rfl, out.bl⟩
      · cases eb
    · split at eb
      · rename_i c; cases eb
        rw [Bool.and_eq_true] at c
        refine op_notInD hu pins s σ H _ _ v u Q I rx ry ⟨_, toPys _, r1.dp c.1, by have q := r2.dp c.2; unfold toPy at q; exact q, c.1, by have q := c.2; unfold dOk toPy at q; exact q, ?_⟩
        rw [dp_any]
        exact out.bl
      · cases eb
    · split at eb
      · rename_i c; cases eb
        rw [Bool.and_eq_true] at c
        obtain ⟨a, vs, rfl, h1, h2⟩ := r2.tup
        refine op_notIn_seq pins s σ H _ _ v u Q I rx ry ⟨a, vs, rfl, .inr (SqT.of h1), flat_rep c.1 (flatW c.1 r1), flats_rep c.2 h2, ?_⟩
        rw [if_pos rfl, inV_rep c.1 (flatW c.1 r1) c.2 h2]
        exact out.bl
      · cases eb
    · cases eb
  · cases e
end
end Y

set_option Elab.async false
set_option linter.all false
set_option maxRecDepth 100000
namespace Y
open PySem PySem.Spec PyProof.Rows L2

section
variable {X : Cx} {P0 : Pr} {O W : List Nat} {E : EK} {a b c : Expr} {ma mb mc : EM} {pos : Pos}
theorem ce_bin {op : Operator} {f : D → D → R D} (ho : OpR X (binaryOp op) (rD X.K f)) (ha : CEx X P0 O W E a ma) (hb : CEx X P0 O W E b mb) : CEx X P0 O W E (.BinOp a op b pos) (cOp f ma mb) := PE.imp (pe_op ho ha hb) tM_op
theorem ce_cmp {op : CmpOp} {f : D → D → R D} (ho : OpR X (compareOp op) (rD X.K f)) (ha : CEx X P0 O W E a ma) (hb : CEx X P0 O W E b mb) (hm : behindInMarks op b = false := by rfl) : CEx X P0 O W E (.Compare a [op] [b] pos) (cOp f ma mb) := PE.imp (pe_cmpR ho ha hb hm) tM_op
/-- a handle's truth -/
def truD : D → R Bool
  | .non => .ok false
  | .bl b => .ok b
  | .int i => .ok (i != 0)
  | .str x => if szOk x.length = true then .ok (x.length != 0) else .stk
  | .tup ds => .ok (!ds.isEmpty)
  | .lst ds => .ok (!ds.isEmpty)
  | .arg ns => .ok (!ns.isEmpty)
  | .dik _ _ => .stk
  | .dit _ _ => .stk
  | .ftu ds => .ok (!ds.isEmpty)
  | .tab _ _ => .stk
theorem truD_ok {K : PySem.W.Frag} {H : Hp} {P : Pr} {d : D} {v : V} {k : Bool} (h : truD d = .ok k) (r : RepW K H d P v) : TruV K v H k := by
  cases d <;> simp only [truD, R.ok.injEq, reduceCtorEq] at h
  · rw [r.non]; exact h.symm
  · rw [r.bl]; exact h.symm
  · rw [r.int]; exact h.symm
  · split at h
    · rename_i c; cases h
      rw [r.str]
      exact ⟨of_decide_eq_true c, by
        show (_ != _) = (_ != _)
        simp only [bne, Nat.beq_eq_true_eq]
        congr 1
        exact Bool.eq_iff_iff.mpr (by simp)⟩
    · cases h
  · obtain ⟨a, vs, rfl, h1, h2⟩ := r.tup
    refine .inr (.inl ⟨vs, SqT.of h1, ?_⟩)
    rw [← h]
    rename_i ds
    have := h2.length
    cases vs <;> cases ds <;> simp at this ⊢
  · obtain ⟨a, vs, rfl, h1, h2⟩ := r.lst
    refine .inl ⟨vs, SqL.of h1, ?_⟩
    rw [← h]
    rename_i ds
    have := h2.length
    cases vs <;> cases ds <;> simp at this ⊢
  · obtain ⟨a, rfl, h1⟩ := r.arg
    refine .inl ⟨_, h1, ?_⟩
    rw [← h]
    rename_i ns
    cases ns <;> rfl
  · obtain ⟨a, vs, o, rfl, h1, hdn, h2⟩ := r.ftu
    clear hdn
    refine .inr (.inl ⟨vs, SqT.fz h1, ?_⟩)
    rw [← h]
    rename_i ds
    have := h2.length
    cases vs <;> cases ds <;> simp at this ⊢
abbrev CT (X : Cx) (P0 : Pr) (O W : List Nat) (E : EK) (e : Expr) (m : BM) : Prop := PT X e (tMt X.K P0 O W E m)
def cTru (m : EM) : BM := fun ρ => do
  let (h, ρ1) ← m ρ
  let d ← (h.d ρ1).nox
  let b ← (truD d).nox
  pure (b, ρ1)
theorem ct_val (ha : CEx X P0 O W E a ma) (he : ∀ whole, isTrue a X.env whole = (do let v ← whole; standAt a.pos; holding [v] (truthy v)) := by intro _; rfl) : CT X P0 O W E a (cTru ma) := PT.imp (pt_truth ha he) fun σ H Q ⟨ρ, S, h⟩ =>
  ⟨ρ, S, h.of_bind.mono fun ⟨h1, ρ1⟩ q v H1 S1 k1 r1 => by
    obtain ⟨d, e1, q⟩ := q.of_nox
    obtain ⟨k, e2, q⟩ := q.of_nox
    exact ⟨k, truD_ok e2 (r1.d S1 e1), q H1 S1 k1⟩⟩
/-- a comparison as a test -/
def cBl (m : EM) : BM := fun ρ => do
  let (h, ρ1) ← m ρ
  let d ← h.v.nox
  match d with
  | .bl k => pure (k, ρ1)
  | _ => .stk
theorem tM_bl {m : EM} (σ : St) (H : Hp) (Q : Bool → Hp → Prop) (h : tMt X.K P0 O W E (cBl m) σ H Q) : tTest (tM X.K P0 O W E m) σ H Q := by
  obtain ⟨ρ, S, h⟩ := h
  refine ⟨ρ, S, h.of_bind.mono fun ⟨h1, ρ1⟩ q v H1 S1 k1 r1 => ?_⟩
  obtain ⟨d, e1, q⟩ := q.of_nox
  have r := r1.v e1
  cases d <;> first | (exact q.elim) | skip
  unfold Rep at r
  exact ⟨_, r, q H1 S1 k1⟩
theorem tTest_imp {t t' : TE} (i : ∀ σ H Q, t' σ H Q → t σ H Q) {σ : St} {H : Hp} {Q : Bool → Hp → Prop} (h : tTest t' σ H Q) : tTest t σ H Q := i σ H _ h
theorem ct_cmp {op : CmpOp} {f : D → D → R D} (ho : OpR X (compareOp op) (rD X.K f)) (ha : CEx X P0 O W E a ma) (hb : CEx X P0 O W E b mb) (hm : behindInMarks op b = false := by rfl) : CT X P0 O W E (.Compare a [op] [b] pos) (cBl (cOp f ma mb)) := PT.imp (pt_cmpR ho ha hb hm) fun σ H Q h => tTest_imp tM_op (tM_bl σ H Q h)
def cNotT (m : BM) : BM := fun ρ => do
  let (b, ρ1) ← m ρ
  pure (!b, ρ1)
theorem ct_not {m : BM} (h : CT X P0 O W E a m) : CT X P0 O W E (.UnaryOp .Not a pos) (cNotT m) := PT.imp (pt_not h) fun σ H Q ⟨ρ, S, h⟩ => ⟨ρ, S, h.of_bind.mono fun ⟨b, ρ1⟩ q => q⟩
abbrev CW (X : Cx) (P0 : Pr) (O W : List Nat) (E : EK) (e : Expr) (m : BM) : Prop := PW X e (tMt X.K P0 O W E m)
def cAndT (a b : BM) : BM := fun ρ => do
  let (k, ρ1) ← a ρ
  if k = true then b ρ1 else pure (false, ρ1)
def cOrT (a b : BM) : BM := fun ρ => do
  let (k, ρ1) ← a ρ
  if k = true then pure (true, ρ1) else b ρ1
theorem cw_and1 {m : BM} (h : CT X P0 O W E a m) : CW X P0 O W E (.BoolOp .And [a] pos) m := pw_and1 h
theorem cw_or1 {m : BM} (h : CT X P0 O W E a m) : CW X P0 O W E (.BoolOp .Or [a] pos) m := pw_or1 h
theorem cw_and {rest : List Expr} {m n : BM} (h : CT X P0 O W E a m) (h2 : CW X P0 O W E (.BoolOp .And (b :: rest) pos) n) : CW X P0 O W E (.BoolOp .And (a :: b :: rest) pos) (cAndT m n) := PW.imp (pw_and h h2) fun σ H Q ⟨ρ, S, h⟩ =>
  ⟨ρ, S, h.of_bind.mono fun ⟨k, ρ1⟩ q H1 S1 k1 => by
    cases k with
    | true => exact ⟨ρ1, S1, (q.keep k1).mono fun ⟨k2, ρ2⟩ q2 H2 S2 k3 => q2 H2 S2 (k1.trans k3)⟩
    | false => exact q H1 S1 k1⟩
theorem cw_or {rest : List Expr} {m n : BM} (h : CT X P0 O W E a m) (h2 : CW X P0 O W E (.BoolOp .Or (b :: rest) pos) n) : CW X P0 O W E (.BoolOp .Or (a :: b :: rest) pos) (cOrT m n) := PW.imp (pw_or h h2) fun σ H Q ⟨ρ, S, h⟩ =>
  ⟨ρ, S, h.of_bind.mono fun ⟨k, ρ1⟩ q H1 S1 k1 => by
    cases k with
    | false => exact ⟨ρ1, S1, (q.keep k1).mono fun ⟨k2, ρ2⟩ q2 H2 S2 k3 => q2 H2 S2 (k1.trans k3)⟩
    | true => exact q H1 S1 k1⟩
theorem ct_w {m : BM} (h : CW X P0 O W E a m) : CT X P0 O W E a m := h.pt
theorem HdR.then {K : PySem.W.Frag} {ρ : Env} {σ : St} {H H1 H2 : Hp} {hd : Hd} {v : V} (k : Keep W σ H H1) (r : HdR K P0 O H1 σ H2 hd v) : HdR K P0 O H σ H2 hd v := r.back k.some
def cAnd (a b : EM) : EM := fun ρ => do
  let (h, ρ1) ← a ρ
  let d ← (h.d ρ1).nox
  let k ← (truD d).nox
  if k = true then b ρ1 else pure (h, ρ1)
def cNot (m : EM) : EM := fun ρ => do
  let (h, ρ1) ← m ρ
  let d ← (h.d ρ1).nox
  let k ← (truD d).nox
  pure (.fr (.bl (!k)), ρ1)
theorem ce_one {op : BoolOp} (h : CEx X P0 O W E a ma) : CEx X P0 O W E (.BoolOp op [a] pos) ma := pe_one h
theorem ce_and {rest : List Expr} (h : CEx X P0 O W E a ma) (h2 : CEx X P0 O W E (.BoolOp .And (b :: rest) pos) mb) : CEx X P0 O W E (.BoolOp .And (a :: b :: rest) pos) (cAnd ma mb) := PE.imp (pe_andT h h2) fun σ H Q ⟨ρ, S, h⟩ =>
  ⟨ρ, S, h.of_bind.mono fun ⟨h1, ρ1⟩ q v H1 S1 k1 r1 => by
    obtain ⟨d, e1, q⟩ := q.of_nox
    obtain ⟨k, e2, q⟩ := q.of_nox
    refine ⟨k, truD_ok e2 (r1.d S1 e1), ?_⟩
    cases k with
    | true => exact ⟨ρ1, S1, (q.keep k1).mono fun ⟨h2, ρ2⟩ q2 w H2 S2 k2 r2 => q2 w H2 S2 (k1.trans k2) (r2.back k1.some)⟩
    | false => exact q v H1 S1 k1 r1⟩
theorem ce_not (h : CEx X P0 O W E a ma) : CEx X P0 O W E (.UnaryOp .Not a pos) (cNot ma) := PE.imp (pe_notT h) fun σ H Q ⟨ρ, S, h⟩ =>
  ⟨ρ, S, h.of_bind.mono fun ⟨h1, ρ1⟩ q v H1 S1 k1 r1 => by
    obtain ⟨d, e1, q⟩ := q.of_nox
    obtain ⟨k, e2, q⟩ := q.of_nox
    exact ⟨k, truD_ok e2 (r1.d S1 e1), (out_of S1 k1 q).bl⟩⟩
def cChain2 (g : D → D → R D) (c : EM) (h2 : Hd) : EM := fun ρ2 => do
  let (h3, ρ3) ← c ρ2
  let y ← (h2.d ρ3).nox
  let w ← (h3.d ρ3).nox
  let z ← (g y w).nox
  pure (.fr z, ρ3)
def cChain (f g : D → D → R D) (a b c : EM) : EM := fun ρ => do
  let (h1, ρ1) ← a ρ
  let (h2, ρ2) ← b ρ1
  let x ← (h1.d ρ2).nox
  let y ← (h2.d ρ2).nox
  let z ← (f x y).nox
  match z with
  | .bl k => if k = true then cChain2 g c h2 ρ2 else .ok (.fr (.bl false), ρ2)
  | _ => .stk
theorem tM_chain {f g : D → D → R D} (σ : St) (H : Hp) (Q : VK) (h : tM X.K P0 O W E (cChain f g ma mb mc) σ H Q) : tChain (rD X.K f) (rD X.K g) (tM X.K P0 O W E ma) (tM X.K P0 O W E mb) (tM X.K P0 O W E mc) σ H Q := by
  obtain ⟨ρ, S, h⟩ := h
  refine ⟨ρ, S, h.of_bind.mono fun ⟨h1, ρ1⟩ q x H1 S1 k1 r1 => ⟨ρ1, S1, (q.keep k1).of_bind.mono fun ⟨h2, ρ2⟩ q2 y H2 S2 k2 r2 => ?_⟩⟩
  obtain ⟨dx, e1, q3⟩ := q2.of_nox
  obtain ⟨dy, e2, q4⟩ := q3.of_nox
  obtain ⟨dz, e3, q5⟩ := q4.of_nox
  refine ⟨FA P0 O σ, dx, dy, dz, S2.dom, (r1.keep S1 k2).d S2 e1, r2.d S2 e2, e3, fun v H3 sm r fr => ?_⟩
  cases dz <;> first | (exact q5.elim) | skip
  rename_i bb
  unfold Rep at r
  refine ⟨bb, r, ?_⟩
  have k3 : Keep W σ H2 H3 := Keep.same sm
  have S3 := S2.same sm
  cases bb with
  | false =>
    refine (if_neg Bool.false_ne_true).mpr ?_
    exact (q5 : ∀ v H', _) (.bl false) H3 S3 ((k1.trans k2).trans k3) ⟨by unfold Rep; rfl, fun z => by cases z⟩
  | true =>
    have q5 : Res E W σ H1 (cChain2 g mc h2 ρ2) _ := q5
    unfold cChain2 at q5
    refine (if_pos rfl).mpr ⟨ρ2, S3, (q5.keep (k2.trans k3)).of_bind.mono fun ⟨h3, ρ3⟩ q6 w H4 S4 k4 r4 => ?_⟩
    obtain ⟨dy2, e5, q7⟩ := q6.of_nox
    obtain ⟨dw, e6, q8⟩ := q7.of_nox
    obtain ⟨du, e7, q9⟩ := q8.of_nox
    exact ⟨FA P0 O σ, dy2, dw, du, S4.dom, ((r2.keep S2 k3).keep S3 k4).d S4 e5, r4.d S4 e6, e7, out_of S4 (((k1.trans k2).trans k3).trans k4) q9⟩
theorem ce_chain {op op' : CmpOp} {f g : D → D → R D} (ho : OpR X (compareOp op) (rD X.K f)) (ho' : OpR X (compareOp op') (rD X.K g)) (ha : CEx X P0 O W E a ma) (hb : CEx X P0 O W E b mb) (hc : CEx X P0 O W E c mc)
    (hm : lastMarks [op, op'] [b, c] = false := by with_unfolding_all rfl) : CEx X P0 O W E (.Compare a [op, op'] [b, c] pos) (cChain f g ma mb mc) := PE.imp (pe_chain ho ho' ha hb hc hm) tM_chain
theorem ct_chain {op op' : CmpOp} {f g : D → D → R D} (ho : OpR X (compareOp op) (rD X.K f)) (ho' : OpR X (compareOp op') (rD X.K g)) (ha : CEx X P0 O W E a ma) (hb : CEx X P0 O W E b mb) (hc : CEx X P0 O W E c mc)
    (hm : lastMarks [op, op'] [b, c] = false := by with_unfolding_all rfl) : CT X P0 O W E (.Compare a [op, op'] [b, c] pos) (cBl (cChain f g ma mb mc)) := PT.imp (pt_chain ho ho' ha hb hc hm) fun σ H Q h => tTest_imp tM_chain (tM_bl σ H Q h)
def cNeg (m : EM) : EM := fun ρ => do
  let (h, ρ1) ← m ρ
  let d ← h.v.nox
  match d with
  | .int i => pure (.fr (.int (-i)), ρ1)
  | _ => .stk
theorem ce_neg (h : CEx X P0 O W E a ma) : CEx X P0 O W E (.UnaryOp .USub a pos) (cNeg ma) := PE.imp (pe_un un_neg h) fun σ H Q ⟨ρ, S, h⟩ =>
  ⟨ρ, S, h.of_bind.mono fun ⟨h1, ρ1⟩ q v H1 S1 k1 r1 => by
    obtain ⟨d, e1, q⟩ := q.of_nox
    have r := r1.v e1
    cases d <;> first | (exact q.elim) | skip
    unfold Rep at r
    exact ⟨_, r, (out_of S1 k1 q).int⟩⟩
end
end Y

set_option Elab.async false
set_option linter.all false
set_option maxRecDepth 100000
namespace Y
open PySem PySem.Spec PyProof.Rows L2

def cNil : AM := fun ρ => .ok ([], ρ)
def cCons (a : EM) (as : AM) : AM := fun ρ => do
  let (h, ρ1) ← a ρ
  let (hs, ρ2) ← as ρ1
  pure (h :: hs, ρ2)
def vsOf : List Hd → R (List D)
  | [] => .ok []
  | h :: hs => do
    let d ← h.v.nox
    let ds ← vsOf hs
    pure (d :: ds)
def dsOf : List Hd → Env → R (List D)
  | [], _ => .ok []
  | h :: hs, ρ => do
    let d ← (h.d ρ).nox
    let ds ← dsOf hs ρ
    pure (d :: ds)
def RepWs (K : PySem.W.Frag) (H : Hp) : List D → Pr → List V → Prop
  | [], _, vs => vs = []
  | d :: ds, P, vs => ∃ v ws, vs = v :: ws ∧ RepW K H d P v ∧ RepWs K H ds P ws
theorem R.ok_of {α β : Type} {r : R α} {f : α → R β} {b : β} (h : (r >>= f) = .ok b) : ∃ a, r = .ok a ∧ f a = .ok b := by
  cases r with
  | ok a => exact ⟨a, rfl, h⟩
  | er c ds => cases h
  | stk => cases h
theorem R.nox_of {α : Type} {r : R α} {a : α} (h : r.nox = .ok a) : r = .ok a := by cases r <;> first | exact h | cases h
theorem RepWs.get1 {K : PySem.W.Frag} {H : Hp} {d : D} {P : Pr} {vs : List V} (h : RepWs K H [d] P vs) : ∃ v, vs = [v] ∧ RepW K H d P v := by
  obtain ⟨v, ws, rfl, h1, h2⟩ := h
  have h2 : ws = [] := h2
  subst h2
  exact ⟨v, rfl, h1⟩
theorem RepWs.get2 {K : PySem.W.Frag} {H : Hp} {d e : D} {P : Pr} {vs : List V} (h : RepWs K H [d, e] P vs) : ∃ v w, vs = [v, w] ∧ RepW K H d P v ∧ RepW K H e P w := by
  obtain ⟨v, ws, rfl, h1, h2⟩ := h
  obtain ⟨w, rfl, h3⟩ := RepWs.get1 h2
  exact ⟨v, w, rfl, h1, h3⟩
section
variable {K : PySem.W.Frag} {P0 : Pr} {O W : List Nat} {ρ : Env} {σ : St} {Hs H : Hp}
theorem HdRs.vs : ∀ {hs : List Hd} {vs : List V} {ds : List D}, HdRs K P0 O Hs σ H hs vs → vsOf hs = .ok ds → Reps K H ds (FA P0 O σ) vs
  | [], _, _, r, e => by cases e; have r : _ = [] := r; subst r; exact Reps.nil
  | h :: hs, _, _, ⟨v, ws, e, r1, r2⟩, q => by
    obtain ⟨d, e1, q⟩ := R.ok_of q
    obtain ⟨ds, e2, q⟩ := R.ok_of q
    cases q
    subst e
    exact Reps.cons (r1.v (R.nox_of e1)) (HdRs.vs r2 e2)
theorem HdRs.ds (S : Sim K P0 O W ρ σ H) : ∀ {hs : List Hd} {vs : List V} {ds : List D}, HdRs K P0 O Hs σ H hs vs → dsOf hs ρ = .ok ds → RepWs K H ds (FA P0 O σ) vs
  | [], _, _, r, e => by cases e; exact r
  | h :: hs, _, _, ⟨v, ws, e, r1, r2⟩, q => by
    obtain ⟨d, e1, q⟩ := R.ok_of q
    obtain ⟨ds, e2, q⟩ := R.ok_of q
    cases q
    subst e
    exact ⟨v, ws, rfl, r1.d S (R.nox_of e1), HdRs.ds S r2 e2⟩
end
section
variable {X : Cx} {P0 : Pr} {O W : List Nat} {E : EK} {a b c e : Expr} {es : List Expr} {ma mb mc : EM} {ms : AM} {pos : Pos}
abbrev CA (X : Cx) (P0 : Pr) (O W : List Nat) (E : EK) (es : List Expr) (m : AM) : Prop := PA X es (tMs X.K P0 O W E m)
theorem ca_nil : CA X P0 O W E [] cNil := PA.imp pa_nil fun σ H Q ⟨ρ, S, h⟩ => h [] H S .refl rfl
theorem ca_cons (h : CEx X P0 O W E e ma) (hs : CA X P0 O W E es ms) (hst : starEach (e :: es) X.env = (false, eval e X.env) :: starEach es X.env := by rfl) : CA X P0 O W E (e :: es) (cCons ma ms) := PA.imp (pa_cons h hs hst) fun σ H Q ⟨ρ, S, h⟩ =>
  ⟨ρ, S, h.of_bind.mono fun ⟨h1, ρ1⟩ q v H1 S1 k1 r1 => ⟨ρ1, S1, (q.keep k1).of_bind.mono fun ⟨hs, ρ2⟩ q2 vs H2 S2 k2 r2 => q2 _ H2 S2 (k1.trans k2) ⟨v, vs, rfl, r1.keep S1 k2, HdRs.back k1.some r2⟩⟩⟩
def cTup (m : AM) : EM := fun ρ => do
  let (hs, ρ1) ← m ρ
  let ds ← (vsOf hs).nox
  if szOk ds.length = true then pure (.fr (.tup ds), ρ1) else .stk
def cLst (m : AM) : EM := fun ρ => do
  let (hs, ρ1) ← m ρ
  let ds ← (vsOf hs).nox
  if szOk ds.length = true then pure (.fr (.lst ds), ρ1) else .stk
theorem ce_tup {x1} (h : CA X P0 O W E es ms) : CEx X P0 O W E (.Tuple es x1 pos) (cTup ms) := PE.imp (pe_tup h) fun σ H Q ⟨ρ, S, h⟩ =>
  ⟨ρ, S, h.of_bind.mono fun ⟨hs, ρ1⟩ q vs H1 S1 k1 r1 => by
    obtain ⟨ds, e1, q⟩ := q.of_nox
    have rr := HdRs.vs r1 e1
    by_cases c : szOk ds.length = true
    · rw [if_pos c] at q
      exact ⟨by rw [rr.length]; exact of_decide_eq_true c, fun p hp => (out_of S1 k1 q).newT S1.dom rr hp⟩
    · rw [if_neg c] at q
      exact q.elim⟩
theorem ce_lst (h : CA X P0 O W E es ms) : CEx X P0 O W E (.List es pos) (cLst ms) := PE.imp (pe_lst h) fun σ H Q ⟨ρ, S, h⟩ =>
  ⟨ρ, S, h.of_bind.mono fun ⟨hs, ρ1⟩ q vs H1 S1 k1 r1 => by
    obtain ⟨ds, e1, q⟩ := q.of_nox
    have rr := HdRs.vs r1 e1
    by_cases c : szOk ds.length = true
    · rw [if_pos c] at q
      exact ⟨by rw [rr.length]; exact of_decide_eq_true c, fun p hp => (out_of S1 k1 q).newL S1.dom rr hp⟩
    · rw [if_neg c] at q
      exact q.elim⟩

def cCall (f : List D → R D) (m : AM) : EM := fun ρ => do
  let (hs, ρ1) ← m ρ
  let ds ← (dsOf hs ρ1).nox
  let z ← (f ds).nox
  pure (.fr z, ρ1)
def rDs (K : PySem.W.Frag) (f : List D → R D) : List V → Hp → VK → Prop := fun xs H Q => ∃ (P : Pr) (ds : List D) (dz : D), (∀ b, P b → isMut (H b)) ∧ RepWs K H ds P xs ∧ f ds = .ok dz ∧ Out K P H dz Q
theorem tM_call {f : List D → R D} (σ : St) (H : Hp) (Q : VK) (h : tM X.K P0 O W E (cCall f ms) σ H Q) : tCB (rDs X.K f) (tMs X.K P0 O W E ms) σ H Q := by
  obtain ⟨ρ, S, h⟩ := h
  refine ⟨ρ, S, h.of_bind.mono fun ⟨hs, ρ1⟩ q vs H1 S1 k1 r1 => ?_⟩
  obtain ⟨ds, e1, q⟩ := q.of_nox
  obtain ⟨z, e2, q⟩ := q.of_nox
  exact ⟨FA P0 O σ, ds, z, S1.dom, HdRs.ds S1 r1 e1, e2, out_of S1 k1 q⟩
theorem ce_callB {f : List D → R D} {id : String} {x : Str} {p : Pos} (hc : CallR X (.builtin id) (rDs X.K f)) (hm : X.mg x = none) (hv : bootBuiltins x = some (.builtin id)) (ha : CA X P0 O W E (e :: es) ms) (hg : Gl X x := by rfl) (hn : x ≠ "__name__" := by decide) (hdb : (x == ("__debug__" : Str)) = false := by decide)
    (he : starEach (e :: es) X.env = (false, eval e X.env) :: starEach es X.env := by rfl) (hpl : (backTo pos (starEach es X.env)).any (·.1) = false := by rfl) : CEx X P0 O W E (.Call (.Name x p) (e :: es) [] pos) (cCall f ms) := PE.imp (pe_callB hc hg hm hv ha hn hdb he hpl) tM_call
theorem ce_callT {f : List D → R D} {T : String} {x : Str} {p : Pos} (hc : CallR X (.type T) (rDs X.K f)) (hm : X.mg x = none) (hv : bootBuiltins x = some (.type T)) (ha : CA X P0 O W E (e :: es) ms) (hg : Gl X x := by rfl) (hn : x ≠ "__name__" := by decide) (hdb : (x == ("__debug__" : Str)) = false := by decide)
    (he : starEach (e :: es) X.env = (false, eval e X.env) :: starEach es X.env := by rfl) (hpl : (backTo pos (starEach es X.env)).any (·.1) = false := by rfl) : CEx X P0 O W E (.Call (.Name x p) (e :: es) [] pos) (cCall f ms) := PE.imp (pe_callTy hc hg hm hv ha hn hdb he hpl) tM_call
def lenD : List D → R D
  | [.str x] => if szOk x.length = true then .ok (.int x.length) else .stk
  | [.tup ds] => .ok (.int ds.length)
  | [.lst ds] => .ok (.int ds.length)
  | [.arg ns] => .ok (.int ns.length)
  | [.ftu ds] => .ok (.int ds.length)
  | _ => .stk
def max2D : List D → R D
  | [.int i, .int j] => .ok (.int (max i j))
  | _ => .stk
def min2D : List D → R D
  | [.int i, .int j] => .ok (.int (min i j))
  | _ => .stk
/-- the ints of a list -/
def intsOf : List D → Option (List Int)
  | [] => some []
  | .int i :: ds => (intsOf ds).map (i :: ·)
  | _ => none
def blsOf : List D → Option (List Bool)
  | [] => some []
  | .bl i :: ds => (blsOf ds).map (i :: ·)
  | _ => none
def strsOf : List D → Option (List Str)
  | [] => some []
  | .str i :: ds => (strsOf ds).map (i :: ·)
  | _ => none
def sumD : List D → R D
  | [.lst ds] => match intsOf ds with
    | some ns => .ok (.int ns.sum)
    | none => .stk
  | _ => .stk
def allD : List D → R D
  | [.lst ds] => match blsOf ds with
    | some bs => .ok (.bl (bs.all id))
    | none => .stk
  | _ => .stk
/-- tuple(x), list(x) -/
def tupleD : List D → R D
  | [.lst ds] => .ok (.tup ds)
  | [.tup ds] => .ok (.tup ds)
  | [.ftu ds] => .ok (.ftu ds)
  | _ => .stk
def intOfD : List D → R D
  | [.int i] => .ok (.int i)
  | [.bl k] => .ok (.int (if k then 1 else 0))
  | [.str x] => if x.length = 1 ∧ 48 ≤ x.cps.getD 0 0 ∧ x.cps.getD 0 0 < 58 then .ok (.int ((x.cps.getD 0 0 : Nat) - 48)) else .stk
  | _ => .stk
theorem ints_rep {K : PySem.W.Frag} {H : Hp} {P : Pr} : ∀ {ds : List D} {ns : List Int} {vs : List V}, intsOf ds = some ns → Reps K H ds P vs → vs = ns.map V.int
  | [], ns, vs, e, h => by simp [intsOf] at e; subst e; exact h.nil_iff
  | d :: ds, ns, vs, e, h => by
    cases d <;> simp [intsOf] at e
    obtain ⟨ms, e1, rfl⟩ := e
    obtain ⟨v, ws, rfl, h1, h2⟩ := h.cons_iff
    unfold Rep at h1
    rw [h1, ints_rep e1 h2]
    rfl
theorem bls_rep {K : PySem.W.Frag} {H : Hp} {P : Pr} : ∀ {ds : List D} {ns : List Bool} {vs : List V}, blsOf ds = some ns → Reps K H ds P vs → vs = ns.map V.bl
  | [], ns, vs, e, h => by simp [blsOf] at e; subst e; exact h.nil_iff
  | d :: ds, ns, vs, e, h => by
    cases d <;> simp [blsOf] at e
    obtain ⟨ms, e1, rfl⟩ := e
    obtain ⟨v, ws, rfl, h1, h2⟩ := h.cons_iff
    unfold Rep at h1
    rw [h1, bls_rep e1 h2]
    rfl
theorem strs_rep {K : PySem.W.Frag} {H : Hp} {P : Pr} : ∀ {ds : List D} {ns : List Str} {vs : List V}, strsOf ds = some ns → Reps K H ds P vs → vs = ns.map V.str
  | [], ns, vs, e, h => by simp [strsOf] at e; subst e; exact h.nil_iff
  | d :: ds, ns, vs, e, h => by
    cases d <;> simp [strsOf] at e
    obtain ⟨ms, e1, rfl⟩ := e
    obtain ⟨v, ws, rfl, h1, h2⟩ := h.cons_iff
    unfold Rep at h1
    rw [h1, strs_rep e1 h2]
    rfl
theorem int2_of {f : Int → Int → D} {g : List D → R D} {ds : List D} {z : D} (hg : ∀ ds, g ds = match ds with | [.int i, .int j] => .ok (f i j) | _ => .stk) (h : g ds = .ok z) : ∃ i j, ds = [.int i, .int j] ∧ z = f i j := by
  rw [hg] at h
  split at h
  · cases h; exact ⟨_, _, rfl, rfl⟩
  · cases h
theorem cd_len : CallR X (.builtin "len") (rDs X.K lenD) := by
  intro pins s σ H xs us Q I r ⟨P, ds, dz, hm, rs, e, out⟩
  unfold lenD at e
  split at e
  · split at e
    · rename_i c; cases e
      obtain ⟨v, rfl, r1⟩ := rs.get1
      obtain rfl := r1.str
      exact call_len pins s σ H _ us Q I r ⟨_, _, rfl, ⟨of_decide_eq_true c, rfl⟩, out.int⟩
    · cases e
  · cases e
    obtain ⟨v, rfl, r1⟩ := rs.get1
    obtain ⟨a, vs, rfl, h1, h2⟩ := r1.tup
    rw [← h2.length] at out
    exact call_len pins s σ H _ us Q I r ⟨_, _, rfl, .inr ⟨vs, SqT.of h1, rfl⟩, out.int⟩
  · cases e
    obtain ⟨v, rfl, r1⟩ := rs.get1
    obtain ⟨a, vs, rfl, h1, h2⟩ := r1.lst
    rw [← h2.length] at out
    exact call_len pins s σ H _ us Q I r ⟨_, _, rfl, .inl ⟨vs, SqL.of h1, rfl⟩, out.int⟩
  · cases e
    obtain ⟨v, rfl, r1⟩ := rs.get1
    obtain ⟨a, rfl, h1⟩ := r1.arg
    refine call_len pins s σ H _ us Q I r ⟨_, _, rfl, .inl ⟨_, h1, rfl⟩, ?_⟩
    rw [List.length_map]
    exact out.int
  · cases e
    obtain ⟨v, rfl, r1⟩ := rs.get1
    obtain ⟨a, vs, o, rfl, h1, _, h2⟩ := r1.ftu
    rw [← h2.length] at out
    exact call_len pins s σ H _ us Q I r ⟨_, _, rfl, .inr ⟨vs, SqT.fz h1, rfl⟩, out.int⟩
  · cases e
theorem cd_max (hc : X.calm = true) : CallR X (.builtin "max") (rDs X.K max2D) := by
  intro pins s σ H xs us Q I r ⟨P, ds, dz, hm, rs, e, out⟩
  obtain ⟨i, j, rfl, rfl⟩ := int2_of (f := fun i j => .int (max i j)) (fun ds => by unfold max2D; rfl) e
  obtain ⟨v, w, rfl, r1, r2⟩ := rs.get2
  obtain rfl := r1.int
  obtain rfl := r2.int
  refine call_max2 hc pins s σ H _ us Q I r ⟨i, j, rfl, ?_⟩
  rw [show (if j > i then j else i) = max i j by omega]
  exact out.int
theorem cd_min (hc : X.calm = true) : CallR X (.builtin "min") (rDs X.K min2D) := by
  intro pins s σ H xs us Q I r ⟨P, ds, dz, hm, rs, e, out⟩
  obtain ⟨i, j, rfl, rfl⟩ := int2_of (f := fun i j => .int (min i j)) (fun ds => by unfold min2D; rfl) e
  obtain ⟨v, w, rfl, r1, r2⟩ := rs.get2
  obtain rfl := r1.int
  obtain rfl := r2.int
  refine call_min2 hc pins s σ H _ us Q I r ⟨i, j, rfl, ?_⟩
  rw [show (if j < i then j else i) = min i j by omega]
  exact out.int
theorem cd_all (hc : X.calm = true) : CallR X (.builtin "all") (rDs X.K allD) := by
  intro pins s σ H xs us Q I r ⟨P, ds, dz, hm, rs, e, out⟩
  unfold allD at e
  split at e
  · split at e
    · rename_i ns c; cases e
      obtain ⟨v, rfl, r1⟩ := rs.get1
      obtain ⟨a, vs, rfl, h1, h2⟩ := r1.lst
      obtain rfl := bls_rep c h2
      exact cr_all hc pins s σ H _ us Q I r ⟨a, ns, rfl, SqL.of h1, out.bl⟩
    · cases e
  · cases e
theorem cd_tuple : CallR X (.type "tuple") (rDs X.K tupleD) := by
  intro pins s σ H xs us Q I r ⟨P, ds, dz, hm, rs, e, out⟩
  unfold tupleD at e
  split at e
  · cases e
    obtain ⟨v, rfl, r1⟩ := rs.get1
    obtain ⟨a, vs, rfl, h1, h2⟩ := r1.lst
    exact call_tuple_of pins s σ H _ us Q I r ⟨a, vs, rfl, .inl ⟨SqL.of h1, fun l hl => out.newT hm h2 hl⟩⟩
  · cases e
    obtain ⟨v, rfl, r1⟩ := rs.get1
    obtain ⟨a, vs, rfl, h1, h2⟩ := r1.tup
    exact call_tuple_of pins s σ H _ us Q I r ⟨a, vs, rfl, .inr ⟨SqT.of h1, out.flat (Rep.tup_of h1 h2) rfl⟩⟩
  · cases e
    obtain ⟨v, rfl, r1⟩ := rs.get1
    obtain ⟨a, vs, o, rfl, h1, hd, h2⟩ := r1.ftu
    exact call_tuple_of pins s σ H _ us Q I r ⟨a, vs, rfl, .inr ⟨SqT.fz h1, out.flat (Rep.ftu_of h1 hd h2) rfl⟩⟩
  · cases e
theorem digit_text : ∀ c : Nat, 48 ≤ c → c < 58 → PySem.intText? ⟨#[c]⟩ = some ((c : Int) - 48) := by
  intro c h1 h2
  have : c = 48 ∨ c = 49 ∨ c = 50 ∨ c = 51 ∨ c = 52 ∨ c = 53 ∨ c = 54 ∨ c = 55 ∨ c = 56 ∨ c = 57 := by omega
  rcases this with rfl | rfl | rfl | rfl | rfl | rfl | rfl | rfl | rfl | rfl <;> decide +kernel
theorem cd_int : CallR X (.type "int") (rDs X.K intOfD) := by
  intro pins s σ H xs us Q I r ⟨P, ds, dz, hm, rs, e, out⟩
  unfold intOfD at e
  split at e
  · cases e
    obtain ⟨v, rfl, r1⟩ := rs.get1
    obtain rfl := r1.int
    exact call_int1 pins s σ H _ us Q I r (.inl ⟨_, rfl, out.int⟩)
  · cases e
    obtain ⟨v, rfl, r1⟩ := rs.get1
    obtain rfl := r1.bl
    exact call_int1 pins s σ H _ us Q I r (.inr ⟨_, rfl, out.int⟩)
  · split at e
    · rename_i x c; cases e
      obtain ⟨v, rfl, r1⟩ := rs.get1
      obtain rfl := r1.str
      refine call_int_str pins s σ H _ us Q I r ⟨x, _, rfl, ?_, by rw [c.1]; decide, out.int⟩
      have q := digit_text _ c.2.1 c.2.2
      rw [one_sign c.1]
      exact q
    · cases e
  · cases e
end
end Y

set_option Elab.async false
set_option linter.all false
set_option maxRecDepth 100000
namespace Y
open PySem PySem.Spec PyProof.Rows L2

def ixD : D → D → R D
  | .str x, .int i => match atI x.cps.toList i with
    | some c => if szOk x.length = true then .ok (.str ⟨#[c]⟩) else .stk
    | none => .stk
  | .tup ds, .int i => match atI ds i with | some d => .ok d | none => .stk
  | .lst ds, .int i => match atI ds i with | some d => .ok d | none => .stk
  | .arg ns, .int i => match atI ns i with | some n => .ok (.int n) | none => .stk
  | .ftu ds, .int i => match atI ds i with | some d => .ok d | none => .stk
  | _, _ => .stk
def cIx (a b : EM) : EM := fun ρ => do
  let (h1, ρ1) ← a ρ
  let (h2, ρ2) ← b ρ1
  let x ← (h1.d ρ2).nox
  let y ← (h2.d ρ2).nox
  let z ← (ixD x y).nox
  pure (.vl z, ρ2)
theorem Reps.atI {K : PySem.W.Frag} {H : Hp} {P : Pr} {ds : List D} {vs : List V} {i : Int} {d : D} (h : Reps K H ds P vs) (e : L2.atI ds i = some d) : ∃ v, L2.atI vs i = some v ∧ Rep K H d P v := by
  unfold L2.atI at e ⊢
  rw [h.length]
  cases q : ixN ds.length i with
  | none => rw [q] at e; cases e
  | some j => rw [q] at e; exact h.get e
theorem ints_atI {ns : List Int} {i n : Int} (e : atI ns i = some n) : atI (ns.map V.int) i = some (.int n) := by
  unfold atI at e ⊢
  rw [List.length_map]
  cases q : ixN ns.length i with
  | none => rw [q] at e; cases e
  | some j =>
    rw [q] at e
    show (ns.map V.int)[j]? = _
    rw [List.getElem?_map, show ns[j]? = some n from e]
    rfl
/-- the items of ds[lo:hi] -/
def cutD (ds : List D) (lo hi : Option Int) : List D := (ds.drop (HT.sIx ds.length 0 lo)).take (HT.sIx ds.length ds.length hi - HT.sIx ds.length 0 lo)
theorem Reps.drop {K : PySem.W.Frag} {H : Hp} {P : Pr} : ∀ (n : Nat) {ds : List D} {vs : List V}, Reps K H ds P vs → Reps K H (ds.drop n) P (vs.drop n)
  | 0, _, _, h => h
  | n + 1, [], _, h => by rw [h.nil_iff]; exact Reps.nil
  | n + 1, d :: ds, _, h => by
    obtain ⟨v, ws, rfl, _, h2⟩ := h.cons_iff
    exact Reps.drop n h2
theorem Reps.take {K : PySem.W.Frag} {H : Hp} {P : Pr} : ∀ (n : Nat) {ds : List D} {vs : List V}, Reps K H ds P vs → Reps K H (ds.take n) P (vs.take n)
  | 0, _, _, h => Reps.nil
  | n + 1, [], _, h => by rw [h.nil_iff]; exact Reps.nil
  | n + 1, d :: ds, _, h => by
    obtain ⟨v, ws, rfl, h1, h2⟩ := h.cons_iff
    exact Reps.cons h1 (Reps.take n h2)
theorem Reps.cut {K : PySem.W.Frag} {H : Hp} {P : Pr} {ds : List D} {vs : List V} (h : Reps K H ds P vs) (lo hi : Option Int) : Reps K H (cutD ds lo hi) P (cutV vs lo hi) := by
  unfold cutD cutV
  rw [h.length]
  exact (h.drop _).take _
def sliceD : D → Option Int → Option Int → R D
  | .str x, lo, hi => if szOk x.length = true then .ok (.str (cutS x lo hi)) else .stk
  | .tup ds, lo, hi => .ok (.tup (cutD ds lo hi))
  | .lst ds, lo, hi => .ok (.lst (cutD ds lo hi))
  | _, _, _ => .stk
abbrev OM := Env → R (Option Int × Env)
def cNoPart : OM := fun ρ => .ok (none, ρ)
def cPart (m : EM) : OM := fun ρ => do
  let (h, ρ1) ← m ρ
  let d ← h.v.nox
  match d with
  | .int i => pure (some i, ρ1)
  | _ => .stk
def cSlice (a : EM) (lo hi : OM) : EM := fun ρ => do
  let (h, ρ1) ← a ρ
  let (l, ρ2) ← lo ρ1
  let (u, ρ3) ← hi ρ2
  let d ← (h.d ρ3).nox
  let z ← (sliceD d l u).nox
  pure (.fr z, ρ3)
def tMo (K : PySem.W.Frag) (P0 : Pr) (O W : List Nat) (E : EK) (m : OM) : TO := fun σ H Q => ∃ ρ, Sim K P0 O W ρ σ H ∧ Res E W σ H (m ρ) fun a => ∀ H', Sim K P0 O W a.2 σ H' → Keep W σ H H' → Q a.1 H'
theorem PO.imp {X : Cx} {e : Option Expr} {t t' : TO} (h : PO X e t) (i : ∀ σ H Q, t' σ H Q → t σ H Q) : PO X e t' := by
  cases h with
  | mk h => exact ⟨fun pins s σ H Q I q => h pins s σ H Q I (i σ H Q q)⟩
section
variable {X : Cx} {P0 : Pr} {O W : List Nat} {E : EK} {a b c e : Expr} {es : List Expr} {ma mb mc : EM} {ms : AM} {pos : Pos}
abbrev CO (X : Cx) (P0 : Pr) (O W : List Nat) (E : EK) (e : Option Expr) (m : OM) : Prop := PO X e (tMo X.K P0 O W E m)
theorem co_none : CO X P0 O W E none cNoPart := PO.imp po_none fun σ H Q ⟨ρ, S, h⟩ => h H S .refl
theorem co_some (h : CEx X P0 O W E e ma) : CO X P0 O W E (some e) (cPart ma) := PO.imp (po_some h) fun σ H Q ⟨ρ, S, h⟩ =>
  ⟨ρ, S, h.of_bind.mono fun ⟨h1, ρ1⟩ q v H1 S1 k1 r1 => by
    obtain ⟨d, e1, q⟩ := q.of_nox
    have r := r1.v e1
    cases d <;> first | (exact q.elim) | skip
    unfold Rep at r
    exact ⟨_, r, q H1 S1 k1⟩⟩
theorem ce_ix (ha : CEx X P0 O W E a ma) (hb : CEx X P0 O W E b mb) (hs : PlainIx b := by intro _ _; rfl) : CEx X P0 O W E (.Subscript a b pos) (cIx ma mb) := PE.imp (pe_ix ix_seq ha hb hs) fun σ H Q ⟨ρ, S, h⟩ => by
  refine ⟨ρ, S, h.of_bind.mono fun ⟨h1, ρ1⟩ q x H1 S1 k1 r1 => ⟨ρ1, S1, (q.keep k1).of_bind.mono fun ⟨h2, ρ2⟩ q2 y H2 S2 k2 r2 => ?_⟩⟩
  obtain ⟨dx, e1, q3⟩ := q2.of_nox
  obtain ⟨dy, e2, q4⟩ := q3.of_nox
  obtain ⟨dz, e3, q5⟩ := q4.of_nox
  have rx := (r1.keep S1 k2).d S2 e1
  have ry := r2.d S2 e2
  have fin : ∀ v, Rep X.K H2 dz (FA P0 O σ) v → Q v H2 := fun v r => q5 v H2 S2 (k1.trans k2) r
  unfold ixD at e3
  split at e3
  · split at e3
    · split at e3
      · rename_i c' hc z; cases e3
        obtain rfl := rx.str
        obtain rfl := ry.int
        exact .inr (.inr ⟨_, _, _, rfl, rfl, of_decide_eq_true z, hc, fin _ (by unfold Rep; rfl)⟩)
      · cases e3
    · cases e3
  · split at e3
    · rename_i d hd; cases e3
      obtain ⟨p, vs, rfl, t1, t2⟩ := rx.tup
      obtain rfl := ry.int
      obtain ⟨v, e4, r4⟩ := t2.atI hd
      exact .inr (.inl ⟨p, vs, _, v, rfl, rfl, SqT.of t1, e4, fin v r4⟩)
    · cases e3
  · split at e3
    · rename_i d hd; cases e3
      obtain ⟨p, vs, rfl, t1, t2⟩ := rx.lst
      obtain rfl := ry.int
      obtain ⟨v, e4, r4⟩ := t2.atI hd
      exact .inl ⟨p, vs, _, v, rfl, rfl, SqL.of t1, e4, fin v r4⟩
    · cases e3
  · split at e3
    · rename_i d hd; cases e3
      obtain ⟨p, rfl, t1⟩ := rx.arg
      obtain rfl := ry.int
      exact .inl ⟨p, _, _, _, rfl, rfl, t1, ints_atI hd, fin _ (by unfold Rep; rfl)⟩
    · cases e3
  · split at e3
    · rename_i d hd; cases e3
      obtain ⟨p, vs, o, rfl, t1, _, t2⟩ := rx.ftu
      obtain rfl := ry.int
      obtain ⟨v, e4, r4⟩ := t2.atI hd
      exact .inr (.inl ⟨p, vs, _, v, rfl, rfl, SqT.fz t1, e4, fin v r4⟩)
    · cases e3
  · cases e3
theorem ce_slice {lo hi : Option Expr} {ml mh : OM} {p2 : Pos} (ha : CEx X P0 O W E a ma) (hl : CO X P0 O W E lo ml) (hh : CO X P0 O W E hi mh) : CEx X P0 O W E (.Subscript a (.Slice lo hi none p2) pos) (cSlice ma ml mh) := PE.imp (pe_slice (sl_list.or (sl_tupA.or sl_str)) ha hl hh) fun σ H Q ⟨ρ, S, h⟩ => by
  refine ⟨ρ, S, h.of_bind.mono fun ⟨h1, ρ1⟩ q x H1 S1 k1 r1 => ⟨ρ1, S1, (q.keep k1).of_bind.mono fun ⟨l, ρ2⟩ q2 H2 S2 k2 => ⟨ρ2, S2, (q2.keep k2).of_bind.mono fun ⟨u, ρ3⟩ q3 H3 S3 k3 => ?_⟩⟩⟩
  obtain ⟨dx, e1, q4⟩ := q3.of_nox
  obtain ⟨dz, e3, q5⟩ := q4.of_nox
  have rx := (r1.keep S1 (k2.trans k3)).d S3 e1
  have out := out_of S3 ((k1.trans k2).trans k3) q5
  unfold sliceD at e3
  split at e3
  · split at e3
    · rename_i z; cases e3
      obtain rfl := rx.str
      exact .inr (.inr ⟨_, rfl, of_decide_eq_true z, out.str⟩)
    · cases e3
  · cases e3
    obtain ⟨p, vs, rfl, t1, t2⟩ := rx.tup
    have t3 := t2.cut l u
    refine .inr (.inl ⟨p, vs, rfl, SqT.of t1, fun z => ?_, fun _ p hp => out.newT S3.dom t3 hp⟩)
    have e4 : cutV vs l u = vs := by
      unfold cutV
      rw [z.1, z.2, List.drop_zero, Nat.sub_zero, List.take_length]
    rw [e4] at t3
    exact out.flat (Rep.tup_of t1 t3) rfl
  · cases e3
    obtain ⟨p, vs, rfl, t1, t2⟩ := rx.lst
    exact .inl ⟨p, vs, rfl, SqL.of t1, fun p hp => out.newL S3.dom (t2.cut l u) hp⟩
  · cases e3
end

/-- behind a statement or an expression: U: own slots that keep their objects -/
structure Tr (O U : List Nat) (σ : St) (H : Hp) (σ' : St) (H' : Hp) : Prop where
  keep : ∀ b o, H b = some o → ¬ OA O σ b → H' b = some o
  some : ∀ b, H b ≠ none → H' b ≠ none
  own : ∀ b, OA O σ' b → OA O σ b ∨ H b = none
  unch : ∀ i ∈ U, σ'[i]? = σ[i]?
theorem Tr.of {O W U : List Nat} {σ : St} {H H' : Hp} (hs : ∀ i ∈ W, i ∈ O) (k : Keep W σ H H') : Tr O U σ H σ H' := ⟨fun b o e n => k.keep b o e fun ⟨i, hi, z⟩ => n ⟨i, hs i hi, z⟩, k.some, fun _ z => .inl z, fun _ _ => rfl⟩
theorem Tr.refl {O U : List Nat} {σ : St} {H : Hp} : Tr O U σ H σ H := ⟨fun _ _ e _ => e, fun _ e => e, fun _ z => .inl z, fun _ _ => rfl⟩
theorem Tr.trans {O U : List Nat} {σ σ1 σ2 : St} {H H1 H2 : Hp} (a : Tr O U σ H σ1 H1) (b : Tr O U σ1 H1 σ2 H2) : Tr O U σ H σ2 H2 where
  keep := fun c o e n => b.keep c o (a.keep c o e n) fun z => by
    rcases a.own c z with z | z
    · exact n z
    · rw [e] at z; cases z
  some := fun c e => b.some c (a.some c e)
  own := fun c z => by
    rcases b.own c z with z | z
    · exact a.own c z
    · exact .inr (Classical.byContradiction fun q => a.some c q z)
  unch := fun i hi => (b.unch i hi).trans (a.unch i hi)
theorem Tr.less {O U U' : List Nat} {σ σ1 : St} {H H1 : Hp} (a : Tr O U σ H σ1 H1) (h : ∀ i ∈ U', i ∈ U) : Tr O U' σ H σ1 H1 := ⟨a.keep, a.some, a.own, fun i hi => a.unch i (h i hi)⟩
section
variable {K : PySem.W.Frag} {P0 : Pr} {O W U : List Nat} {ρ ρ' : Env} {σ σ' : St} {H H' : Hp}
end
end Y

set_option Elab.async false
set_option linter.all false
set_option maxRecDepth 100000
namespace Y
open PySem PySem.Spec PyProof.Rows L2

/-- v is the datum d that the handle tells, and stays so -/
def Hold (K : PySem.W.Frag) (O : List Nat) (h : Hd) (d : D) (v : V) (P0 : Pr) (ρ : Env) (σ : St) (H : Hp) : Prop := match h with
  | .ow i => i ∈ O ∧ ρ[i]? = some (some d) ∧ σ[i]? = some (some v)
  | _ => Rep K H d (FA P0 O σ) v
def Hd.ws : Hd → List Nat
  | .ow i => [i]
  | _ => []
section
variable {K : PySem.W.Frag} {P0 P1 : Pr} {O W : List Nat} {ρ ρ' : Env} {σ σ' : St} {H H' Hs : Hp} {h : Hd} {d : D} {v : V}
theorem Hold.rep (S : Sim K P0 O W ρ σ H) (o : Hold K O h d v P0 ρ σ H) : RepW K H d (FA P0 O σ) v := by
  cases h with
  | fr d' => exact Rep.weak S.dom o
  | vl d' => exact Rep.weak S.dom o
  | ow i =>
    obtain ⟨w, h1, h2⟩ := S.own i d o.2.1 o.1
    rw [o.2.2] at h1; cases h1
    exact h2.weak
theorem HdR.hold (r : HdR K P0 O Hs σ H h v) (e : h.d ρ = .ok d) : Hold K O h d v P0 ρ σ H := by
  cases h with
  | fr d' => cases e; exact r.1
  | vl d' => cases e; exact r
  | ow i => exact ⟨r.1, look_some e, r.2⟩
theorem Hold.keep (S : Sim K P0 O W ρ σ H) (o : Hold K O h d v P0 ρ σ H) (k : ∀ b o, H b = some o → ¬ FA P0 O σ b → H' b = some o) (w : ∀ b, FA P0 O σ' b → FA P0 O σ b ∨ H b = none)
    (hw : ∀ w ∈ h.ws, σ'[w]? = σ[w]? ∧ ρ'[w]? = ρ[w]?) : Hold K O h d v P0 ρ' σ' H' := by
  cases h with
  | fr d' => exact Rep.mono d S.dom k w o
  | vl d' => exact Rep.mono d S.dom k w o
  | ow i =>
    obtain ⟨h1, h2⟩ := hw i (by simp [Hd.ws])
    exact ⟨o.1, h2.trans o.2.1, h1.trans o.2.2⟩
theorem Hold.grow (S : Sim K P0 O W ρ σ H) (o : Hold K O h d v P0 ρ σ H) (w : ∀ b, P1 b → P0 b ∨ H b = none) (k : Same H H') : Hold K O h d v P1 ρ σ H' := by
  have q : ∀ b, FA P1 O σ b → FA P0 O σ b ∨ H b = none := fun b z => by
    rcases z with z | z
    · rcases w b z with z | z
      · exact .inl (.inl z)
      · exact .inr z
    · exact .inl (.inr z)
  cases h with
  | fr d' => exact Rep.mono d S.dom (fun b o e _ => k b o e) q o
  | vl d' => exact Rep.mono d S.dom (fun b o e _ => k b o e) q o
  | ow i => exact o
end
theorem Hold.mem {K : PySem.W.Frag} {P0 : Pr} {O : List Nat} {ρ : Env} {σ : St} {H : Hp} {h : Hd} {d : D} {v : V} (o : Hold K O h d v P0 ρ σ H) : ∀ w ∈ h.ws, w ∈ O := by
  cases h with
  | fr _ => exact fun w z => nomatch z
  | vl _ => exact fun w z => nomatch z
  | ow i =>
    intro w z
    have z : w = i := by simpa [Hd.ws] using z
    rw [z]; exact o.1
/-- an iterator gives ds; ws: own slots that it reads from; Ok: what must stay -/
structure Src (K : PySem.W.Frag) (O W : List Nat) (ds : List D) (ws : List Nat) (J : It) (Ok : Pr → Env → St → Hp → Prop) : Prop where
  go : ∀ P0 i ρ σ H, Sim K P0 O W ρ σ H → Ok P0 ρ σ H → i < ds.length → J.go i H
  stop : ∀ P0 ρ σ H, Sim K P0 O W ρ σ H → Ok P0 ρ σ H → J.stop ds.length H
  yld : ∀ P0 (i : Nat) ρ σ H x H' d, Sim K P0 O W ρ σ H → Ok P0 ρ σ H → ds[i]? = some d → J.yld i H x H' → Same H H' ∧ Rep K H' d (FA P0 O σ) x
  keep : ∀ P0 ρ σ H ρ' σ' H', Sim K P0 O W ρ σ H → (∀ b o, H b = some o → ¬ FA P0 O σ b → H' b = some o) → (∀ b, FA P0 O σ' b → FA P0 O σ b ∨ H b = none) → (∀ w ∈ ws, σ'[w]? = σ[w]? ∧ ρ'[w]? = ρ[w]?) → Ok P0 ρ σ H → Ok P0 ρ' σ' H'
  mem : ∀ P0 ρ σ H, Ok P0 ρ σ H → ∀ w ∈ ws, w ∈ O
  grow : ∀ P0 P1 ρ σ H H', Sim K P0 O W ρ σ H → (∀ b, P1 b → P0 b ∨ H b = none) → Same H H' → Ok P0 ρ σ H → Ok P1 ρ σ H'
abbrev IM := Env → R ((List D × List Nat) × Env)
def tMi (K : PySem.W.Frag) (P0 : Pr) (O W : List Nat) (E : EK) (m : IM) : TI := fun σ H R => ∃ ρ, Sim K P0 O W ρ σ H ∧
  Res E W σ H (m ρ) fun a => ∀ J H' Ok, Sim K P0 O W a.2 σ H' → Keep W σ H H' → Src K O W a.1.1 a.1.2 J Ok → Ok P0 a.2 σ H' → a.1.1.length ≤ sizeLine → R J H'
theorem PI.imp {X : Cx} {tg e : Expr} {t t' : TI} (h : PI X tg e t) (i : ∀ σ H R, t' σ H R → t σ H R) : PI X tg e t' := ⟨fun pins s σ H R I q => h.run pins s σ H R I (i σ H R q)⟩
theorem PI.or {X : Cx} {tg e : Expr} {t t' : TI} (h : PI X tg e t) (h' : PI X tg e t') : PI X tg e fun σ H R => t σ H R ∨ t' σ H R :=
  ⟨fun pins s σ H R I q => q.elim (h.run pins s σ H R I) (h'.run pins s σ H R I)⟩
section
variable {K : PySem.W.Frag} {O W : List Nat} {h h2 : Hd}
/-- over a list that a handle tells -/
theorem src_list {a : Addr} {ds : List D} : Src K O W ds h.ws (Itl K a) (Hold K O h (.lst ds) (.ref a)) where
  go := fun P0 i ρ σ H S ok hi => by
    obtain ⟨p, vs, e, t1, t2⟩ := (ok.rep S).lst
    cases e
    exact walk_list.goes i H (by rw [t2.length]; exact hi) (SqL.of t1)
  stop := fun P0 ρ σ H S ok => by
    obtain ⟨p, vs, e, t1, t2⟩ := (ok.rep S).lst
    cases e
    rw [← t2.length]
    exact walk_list.stops H (SqL.of t1)
  yld := fun P0 i ρ σ H x H' d S ok hd y => by
    obtain ⟨p, vs, e, t1, t2⟩ := (ok.rep S).lst
    cases e
    obtain ⟨v, e1, r⟩ := t2.get hd
    obtain ⟨e2, e3⟩ := walk_list.yields i H x H' (by rw [t2.length]; exact (List.getElem?_eq_some_iff.mp hd).1) (SqL.of t1) y
    subst e2
    rw [e1] at e3; cases e3
    exact ⟨fun _ _ z => z, r⟩
  keep := fun P0 ρ σ H ρ' σ' H' S k w hw ok => ok.keep S k w hw
  mem := fun P0 ρ σ H ok => ok.mem
  grow := fun P0 P1 ρ σ H H' S w k ok => ok.grow S w k
theorem src_tup {a : Addr} {ds : List D} : Src K O W ds h.ws (Itt K a) (Hold K O h (.tup ds) (.ref a)) where
  go := fun P0 i ρ σ H S ok hi => by
    obtain ⟨p, vs, e, t1, t2⟩ := (ok.rep S).tup
    cases e
    exact walk_tup.goes i H (by rw [t2.length]; exact hi) (SqT.of t1)
  stop := fun P0 ρ σ H S ok => by
    obtain ⟨p, vs, e, t1, t2⟩ := (ok.rep S).tup
    cases e
    rw [← t2.length]
    exact walk_tup.stops H (SqT.of t1)
  yld := fun P0 i ρ σ H x H' d S ok hd y => by
    obtain ⟨p, vs, e, t1, t2⟩ := (ok.rep S).tup
    cases e
    obtain ⟨v, e1, r⟩ := t2.get hd
    obtain ⟨e2, e3⟩ := walk_tup.yields i H x H' (by rw [t2.length]; exact (List.getElem?_eq_some_iff.mp hd).1) (SqT.of t1) y
    subst e2
    rw [e1] at e3; cases e3
    exact ⟨fun _ _ z => z, r⟩
  keep := fun P0 ρ σ H ρ' σ' H' S k w hw ok => ok.keep S k w hw
  mem := fun P0 ρ σ H ok => ok.mem
  grow := fun P0 P1 ρ σ H H' S w k ok => ok.grow S w k
theorem src_ftu {a : Addr} {ds : List D} : Src K O W ds h.ws (Itt K a) (Hold K O h (.ftu ds) (.ref a)) where
  go := fun P0 i ρ σ H S ok hi => by
    obtain ⟨p, vs, o, e, t1, _, t2⟩ := (ok.rep S).ftu
    cases e
    exact walk_tup.goes i H (by rw [t2.length]; exact hi) (SqT.fz t1)
  stop := fun P0 ρ σ H S ok => by
    obtain ⟨p, vs, o, e, t1, _, t2⟩ := (ok.rep S).ftu
    cases e
    rw [← t2.length]
    exact walk_tup.stops H (SqT.fz t1)
  yld := fun P0 i ρ σ H x H' d S ok hd y => by
    obtain ⟨p, vs, o, e, t1, _, t2⟩ := (ok.rep S).ftu
    cases e
    obtain ⟨v, e1, r⟩ := t2.get hd
    obtain ⟨e2, e3⟩ := walk_tup.yields i H x H' (by rw [t2.length]; exact (List.getElem?_eq_some_iff.mp hd).1) (SqT.fz t1) y
    subst e2
    rw [e1] at e3; cases e3
    exact ⟨fun _ _ z => z, r⟩
  keep := fun P0 ρ σ H ρ' σ' H' S k w hw ok => ok.keep S k w hw
  mem := fun P0 ρ σ H ok => ok.mem
  grow := fun P0 P1 ρ σ H H' S w k ok => ok.grow S w k
theorem src_arg {a : Addr} {ns : List Int} : Src K O W (ns.map D.int) h.ws (Itl K a) (Hold K O h (.arg ns) (.ref a)) where
  go := fun P0 i ρ σ H S ok hi => by
    obtain ⟨p, e, t1⟩ := (ok.rep S).arg
    cases e
    exact walk_list.goes i H (by simpa using hi) t1
  stop := fun P0 ρ σ H S ok => by
    obtain ⟨p, e, t1⟩ := (ok.rep S).arg
    cases e
    have := walk_list.stops H t1
    simpa using this
  yld := fun P0 i ρ σ H x H' d S ok hd y => by
    obtain ⟨p, e, t1⟩ := (ok.rep S).arg
    cases e
    obtain ⟨e2, e3⟩ := walk_list.yields i H x H' (by have := (List.getElem?_eq_some_iff.mp hd).1; simpa using this) t1 y
    subst e2
    rw [List.getElem?_map] at e3 hd
    cases q : ns[i]? with
    | none => rw [q] at hd; cases hd
    | some n => rw [q] at hd e3; cases hd; cases e3; exact ⟨fun _ _ z => z, by unfold Rep; rfl⟩
  keep := fun P0 ρ σ H ρ' σ' H' S k w hw ok => ok.keep S k w hw
  mem := fun P0 ρ σ H ok => ok.mem
  grow := fun P0 P1 ρ σ H H' S w k ok => ok.grow S w k
theorem src_range {lo : Int} {n : Nat} : Src K O W ((List.range n).map fun i => D.int (lo + (i : Nat))) [] (Itr lo n) (fun _ _ _ _ => True) where
  go := fun P0 i ρ σ H S ok hi => by simpa [Itr] using hi
  stop := fun P0 ρ σ H S ok => by simp [Itr]
  yld := fun P0 i ρ σ H x H' d S ok hd y => by
    obtain ⟨e1, e2⟩ := y
    subst e1
    rw [List.getElem?_map] at hd
    cases q : (List.range n)[i]? with
    | none => rw [q] at hd; cases hd
    | some j =>
      rw [q] at hd; cases hd
      have : j = i := by
        obtain ⟨h1, h2⟩ := List.getElem?_eq_some_iff.mp q
        simpa using h2.symm
      subst this
      exact ⟨fun _ _ z => z, by unfold Rep; exact e2⟩
  keep := fun _ _ _ _ _ _ _ _ _ _ _ _ => trivial
  mem := fun _ _ _ _ _ w z => nomatch z
  grow := fun _ _ _ _ _ _ _ _ _ _ => trivial
theorem src_str {z : Str} : Src K O W (z.cps.toList.map fun c => D.str ⟨#[c]⟩) [] (Its z) (fun _ _ _ _ => True) where
  go := fun P0 i ρ σ H S ok hi => by simpa [Its] using hi
  stop := fun P0 ρ σ H S ok => by simp [Its]
  yld := fun P0 i ρ σ H x H' d S ok hd y => by
    obtain ⟨e1, c, e2, e3⟩ := y
    subst e1
    rw [List.getElem?_map, Array.getElem?_toList, e2] at hd
    cases hd
    exact ⟨fun _ _ z => z, by unfold Rep; exact e3⟩
  keep := fun _ _ _ _ _ _ _ _ _ _ _ _ => trivial
  mem := fun _ _ _ _ _ w z => nomatch z
  grow := fun _ _ _ _ _ _ _ _ _ _ => trivial
theorem Src.anyw {ds : List D} {J : It} {Ok : Pr → Env → St → Hp → Prop} (q : Src K O W ds [] J Ok) : Src K O W ds h.ws J (fun P0 ρ σ H => Ok P0 ρ σ H ∧ ∀ w ∈ h.ws, w ∈ O) where
  go := fun P0 i ρ σ H S ok => q.go P0 i ρ σ H S ok.1
  stop := fun P0 ρ σ H S ok => q.stop P0 ρ σ H S ok.1
  yld := fun P0 i ρ σ H x H' d S ok => q.yld P0 i ρ σ H x H' d S ok.1
  keep := fun P0 ρ σ H ρ' σ' H' S k w _ ok => ⟨q.keep P0 ρ σ H ρ' σ' H' S k w (fun _ z => nomatch z) ok.1, ok.2⟩
  mem := fun P0 ρ σ H ok => ok.2
  grow := fun P0 P1 ρ σ H H' S w k ok => ⟨q.grow P0 P1 ρ σ H H' S w k ok.1, ok.2⟩
end
section
variable {K : PySem.W.Frag} {O W : List Nat} {h h2 : Hd}
end
section
variable {X : Cx} {P0 : Pr} {O W : List Nat} {E : EK} {a b c e tg : Expr} {es : List Expr} {ma mb mc : EM} {ms : AM} {pos : Pos}
abbrev CI (X : Cx) (P0 : Pr) (O W : List Nat) (E : EK) (tg e : Expr) (m : IM) : Prop := PI X tg e (tMi X.K P0 O W E m)
/-- over a list, a tuple, a text, the script -/
def itD : D → R (List D)
  | .lst ds => .ok ds
  | .tup ds => .ok ds
  | .arg ns => .ok (ns.map D.int)
  | .str z => .ok (z.cps.toList.map fun c => D.str ⟨#[c]⟩)
  | .ftu ds => .ok ds
  | _ => .stk
def cIter (m : EM) : IM := fun ρ => do
  let (h, ρ1) ← m ρ
  let d ← (h.d ρ1).nox
  let ds ← (itD d).nox
  if szOk ds.length = true then pure ((ds, h.ws), ρ1) else .stk
theorem ci_any (ha : CEx X P0 O W E a ma) : CI X P0 O W E tg a (cIter ma) := PI.imp (PI.or (pi_list ha) (PI.or (pi_tup ha) (pi_str ha))) fun σ H _ ⟨ρ, S, h⟩ => by
  unfold cIter at h
  cases em : ma ρ with
  | er c ds =>
    rw [em] at h
    exact .inl ⟨ρ, S, by rw [em]; exact h⟩
  | stk => rw [em] at h; exact h.elim
  | ok p =>
    obtain ⟨h1, ρ1⟩ := p
    rw [em] at h
    obtain ⟨d, ed, h⟩ := Res.of_nox (show Res E W σ H ((h1.d ρ1).nox >>= _) _ from h)
    obtain ⟨ds, ei, h⟩ := h.of_nox
    by_cases c : szOk ds.length = true
    · rw [if_pos c] at h
      have hz := of_decide_eq_true c
      cases d <;> simp only [itD, R.ok.injEq, reduceCtorEq] at ei
      · subst ei
        refine .inr (.inr ⟨ρ, S, ?_⟩)
        rw [em]
        intro v H1 S1 k1 r1
        obtain rfl := (r1.d S1 ed).str
        exact ⟨_, rfl, h _ H1 _ S1 k1 src_str.anyw ⟨trivial, (r1.hold ed).mem⟩ hz⟩
      · subst ei
        refine .inr (.inl ⟨ρ, S, ?_⟩)
        rw [em]
        intro v H1 S1 k1 r1
        obtain ⟨p, vs, rfl, t1, t2⟩ := (r1.d S1 ed).tup
        exact ⟨p, rfl, ⟨vs, SqT.of t1⟩, h _ H1 _ S1 k1 src_tup (r1.hold ed) hz⟩
      · subst ei
        refine .inl ⟨ρ, S, ?_⟩
        rw [em]
        intro v H1 S1 k1 r1
        obtain ⟨p, vs, rfl, t1, t2⟩ := (r1.d S1 ed).lst
        exact ⟨p, rfl, ⟨vs, SqL.of t1⟩, h _ H1 _ S1 k1 src_list (r1.hold ed) hz⟩
      · subst ei
        refine .inl ⟨ρ, S, ?_⟩
        rw [em]
        intro v H1 S1 k1 r1
        obtain ⟨p, rfl, t1⟩ := (r1.d S1 ed).arg
        exact ⟨p, rfl, ⟨_, t1⟩, h _ H1 _ S1 k1 src_arg (r1.hold ed) hz⟩
      · subst ei
        refine .inr (.inl ⟨ρ, S, ?_⟩)
        rw [em]
        intro v H1 S1 k1 r1
        obtain ⟨p, vs, o, rfl, t1, _, t2⟩ := (r1.d S1 ed).ftu
        exact ⟨p, rfl, ⟨vs, SqT.fz t1⟩, h _ H1 _ S1 k1 src_ftu (r1.hold ed) hz⟩
    · rw [if_neg c] at h
      exact h.elim
def rngOk (i : Int) : Bool := decide (-(2 ^ 62) ≤ i ∧ i < 2 ^ 62)
def rng1D : List D → R (List D)
  | [.int j] => if rngOk j = true then .ok ((List.range j.toNat).map fun i => D.int (0 + (i : Nat))) else .stk
  | _ => .stk
def cRange (f : List D → R (List D)) (m : AM) : IM := fun ρ => do
  let (hs, ρ1) ← m ρ
  let ds ← (vsOf hs).nox
  let xs ← (f ds).nox
  if szOk xs.length = true then pure ((xs, []), ρ1) else .stk
theorem ci_range1 {p : Pos} (hm : X.mg "range" = none) (ha : CA X P0 O W E [a] ms) (hg : Gl X "range" := by rfl) (hs : starEach [a] X.env = [(false, eval a X.env)] := by rfl) : CI X P0 O W E tg (.Call (.Name "range" p) [a] [] pos) (cRange rng1D ms) := PI.imp (pi_range1 hg hm ha hs) fun σ H R ⟨ρ, S, h⟩ => by
  refine ⟨ρ, S, h.of_bind.mono fun ⟨hs, ρ1⟩ q vs H1 S1 k1 r1 => ?_⟩
  obtain ⟨ds, e1, q⟩ := q.of_nox
  obtain ⟨xs, e2, q⟩ := q.of_nox
  have rr := HdRs.vs r1 e1
  by_cases c : szOk xs.length = true
  · rw [if_pos c] at q
    unfold rng1D at e2
    split at e2
    · split at e2
      · rename_i j z; cases e2
        obtain ⟨v, ws, rfl, h1, h2⟩ := rr.cons_iff
        have h2 := h2.nil_iff
        subst h2
        unfold Rep at h1
        subst h1
        unfold rngOk at z
        have z := of_decide_eq_true z
        exact ⟨_, rfl, z.1, z.2, q _ H1 _ S1 k1 src_range trivial (of_decide_eq_true c)⟩
      · cases e2
    · cases e2
  · rw [if_neg c] at q
    exact q.elim
end
end Y

set_option Elab.async false
set_option linter.all false
set_option maxRecDepth 100000
namespace Y
open PySem PySem.Spec PyProof.Rows L2

theorem OA_of {O : List Nat} {σ σ' : St} (h : ∀ i ∈ O, σ'[i]? = σ[i]?) (b : Addr) : OA O σ' b ↔ OA O σ b := by
  constructor
  · rintro ⟨i, hi, e⟩; exact ⟨i, hi, (h i hi).symm.trans e⟩
  · rintro ⟨i, hi, e⟩; exact ⟨i, hi, (h i hi).trans e⟩
section
variable {K : PySem.W.Frag} {P0 P1 : Pr} {O W : List Nat} {ρ ρ' : Env} {σ σ' : St} {H H' : Hp} {d : D} {v : V}
theorem FA_of (h : ∀ i ∈ O, σ'[i]? = σ[i]?) (b : Addr) : FA P0 O σ' b ↔ FA P0 O σ b := or_congr Iff.rfl (OA_of h b)
/-- other slots, less known -/
theorem Sim.move (S : Sim K P0 O W ρ σ H) (hl : ρ'.length ≤ σ'.length) (ho : ∀ i ∈ O, σ'[i]? = σ[i]?) (hρ : ∀ i ∈ O, ∀ d, ρ'[i]? = some (some d) → ρ[i]? = some (some d))
    (hv : ∀ (i : Nat) d, ρ'[i]? = some (some d) → i ∉ O → ∃ v, σ'[i]? = some (some v) ∧ Rep K H d (FA P0 O σ) v) : Sim K P0 O W ρ' σ' H where
  sub := S.sub
  len := hl
  dom := fun b z => S.dom b ((FA_of ho b).mp z)
  val := fun i d e n => by
    obtain ⟨v, h1, h2⟩ := hv i d e n
    exact ⟨v, h1, h2.less S.dom fun b z => (FA_of ho b).mp z⟩
  own := fun i d e n => by
    obtain ⟨v, h1, h2⟩ := S.own i d (hρ i n d e) n
    refine ⟨v, (ho i n).trans h1, ?_⟩
    have fa : ∀ b, FA P0 O σ' b → FA P0 O σ b := fun b z => (FA_of ho b).mp z
    cases d with
    | lst ds => obtain ⟨a, vs, rfl, ht, hr⟩ := h2; exact ⟨a, vs, rfl, ht, hr.less S.dom fa⟩
    | dik ks ds => obtain ⟨a, vs, rfl, hl, ht, hr⟩ := h2; exact ⟨a, vs, rfl, hl, ht, hr.less S.dom fa⟩
    | dit ks ds => obtain ⟨a, vs, rfl, hl, ht, hr⟩ := h2; exact ⟨a, vs, rfl, hl, ht, hr.less S.dom fa⟩
    | non => exact h2
    | bl _ => exact h2
    | int _ => exact h2
    | str _ => exact h2
    | tup _ => exact h2
    | arg _ => exact h2
    | ftu _ => exact h2
    | tab p q => exact h2
  sep := fun i j a hi hj e1 e2 => S.sep i j a hi hj ((ho i hi).symm.trans e1) ((ho j hj).symm.trans e2)
  sep0 := fun a z => S.sep0 a ((OA_of ho a).mp z)
theorem Sim.set (S : Sim K P0 O W ρ σ H) {i : Nat} (hi : i ∉ O) (r : Rep K H d (FA P0 O σ) v) : Sim K P0 O W (ρ.set i (some d)) (σ.set i (some v)) H := by
  refine S.move (by simpa using S.len) (fun j hj => ?_) (fun j hj d' e => ?_) fun j d' e n => ?_
  · exact List.getElem?_set_ne (fun (e : i = j) => hi (by rw [e]; exact hj))
  · rwa [List.getElem?_set_ne (fun (e : i = j) => hi (by rw [e]; exact hj))] at e
  · by_cases hj : i = j
    · subst hj
      have h1 : i < ρ.length := by
        have := (List.getElem?_eq_some_iff.mp e).1
        simpa using this
      rw [List.getElem?_set_self h1] at e
      cases e
      exact ⟨v, List.getElem?_set_self (Nat.lt_of_lt_of_le h1 S.len), r⟩
    · rw [List.getElem?_set_ne hj] at e ⊢
      exact S.val j d' e n
/-- forgetting -/
def wipeE (ρ : Env) : List Nat → Env
  | [] => ρ
  | i :: is => (wipeE ρ is).set i none
theorem wipeE_length (ρ : Env) : ∀ is, (wipeE ρ is).length = ρ.length
  | [] => rfl
  | i :: is => by unfold wipeE; rw [List.length_set, wipeE_length ρ is]
theorem wipeE_some : ∀ {is : List Nat} {j : Nat} {d : D}, (wipeE ρ is)[j]? = some (some d) → ρ[j]? = some (some d) ∧ j ∉ is
  | [], j, d, e => ⟨e, by simp⟩
  | i :: is, j, d, e => by
    unfold wipeE at e
    by_cases hj : i = j
    · subst hj
      by_cases hl : i < (wipeE ρ is).length
      · rw [List.getElem?_set_self hl] at e; cases e
      · rw [List.getElem?_eq_none (by simpa using hl)] at e; cases e
    · rw [List.getElem?_set_ne hj] at e
      obtain ⟨h1, h2⟩ := wipeE_some e
      exact ⟨h1, by simp only [List.mem_cons, not_or]; exact ⟨fun z => hj z.symm, h2⟩⟩
theorem Sim.wipe (S : Sim K P0 O W ρ σ H) (is : List Nat) : Sim K P0 O W (wipeE ρ is) σ H :=
  S.move (by rw [wipeE_length]; exact S.len) (fun _ _ => rfl) (fun i _ d e => (wipeE_some e).1) fun i d e n => S.val i d (wipeE_some e).1 n
theorem wipe_ne {is : List Nat} {j : Nat} (h : j ∉ is) : (L2.wipe σ is)[j]? = σ[j]? := wipe_out h
/-- a comprehension's own names -/
theorem Sim.wipe2 (S : Sim K P0 O W ρ σ H) {is : List Nat} (h : ∀ i ∈ is, i ∉ O) : Sim K P0 O W (wipeE ρ is) (L2.wipe σ is) H := by
  refine S.move (by rw [wipeE_length, L2.wipe_length]; exact S.len) (fun i hi => wipe_ne fun z => h i z hi) (fun i _ d e => (wipeE_some e).1) fun i d e n => ?_
  obtain ⟨e1, e2⟩ := wipeE_some e
  rw [wipe_ne e2]
  exact S.val i d e1 n
/-- back from the block: the wiped slots are not told -/
theorem Sim.out {is : List Nat} (S : Sim K P0 O W ρ (L2.wipe σ is) H) (h : ∀ i ∈ is, i ∉ O) (hρ : ∀ i ∈ is, ∀ d, ρ[i]? ≠ some (some d)) : Sim K P0 O W ρ σ H := by
  refine S.move (by have := S.len; rwa [L2.wipe_length] at this) (fun i hi => (wipe_ne fun z => h i z hi).symm) (fun i _ d e => e) fun i d e n => ?_
  obtain ⟨v, h1, h2⟩ := S.val i d e n
  rw [wipe_ne fun z => hρ i z d e] at h1
  exact ⟨v, h1, h2⟩
/-- one more object is forbidden -/
theorem Sim.more (S : Sim K P0 O W ρ σ H) {q : Addr} {vs : List V} (hq : H q = none) : Sim K (fun b => P0 b ∨ b = q) O W ρ σ (upd H q (.lst vs)) := by
  have S' := S.same (Same.new (o := .lst vs) hq)
  have fa : ∀ b, FA (fun b => P0 b ∨ b = q) O σ b → FA P0 O σ b ∨ H b = none := fun b z => by
    rcases z with (z | z) | z
    · exact .inl (.inl z)
    · rw [z]; exact .inr hq
    · exact .inl (.inr z)
  refine ⟨S.sub, S.len, fun b z => ?_, fun i d e n => ?_, fun i d e n => ?_, S.sep, fun a z => ?_⟩
  · rcases z with (z | z) | z
    · exact S'.dom b (.inl z)
    · rw [z, upd_same]; trivial
    · exact S'.dom b (.inr z)
  · obtain ⟨v, h1, h2⟩ := S.val i d e n
    exact ⟨v, h1, h2.mono d S.dom (fun b o e _ => Same.new hq b o e) fa⟩
  · obtain ⟨v, h1, h2⟩ := S.own i d e n
    refine ⟨v, h1, ?_⟩
    cases d with
    | lst ds => obtain ⟨a, vs, rfl, ht, hr⟩ := h2; exact ⟨a, vs, rfl, Same.new hq _ _ ht, hr.mono ds S.dom (fun b o e _ => Same.new hq b o e) fa⟩
    | dik ks ds => obtain ⟨a, vs, rfl, hl, ht, hr⟩ := h2; exact ⟨a, vs, rfl, hl, Same.new hq _ _ ht, hr.mono ds S.dom (fun b o e _ => Same.new hq b o e) fa⟩
    | dit ks ds => obtain ⟨a, vs, rfl, hl, ht, hr⟩ := h2; exact ⟨a, vs, rfl, hl, Same.new hq _ _ ht, hr.mono ds S.dom (fun b o e _ => Same.new hq b o e) fa⟩
    | non => exact h2
    | bl _ => exact h2
    | int _ => exact h2
    | str _ => exact h2
    | tup _ => exact h2
    | arg _ => exact h2
    | ftu _ => exact h2
    | tab p q => obtain ⟨a, rfl, ht⟩ := h2; exact ⟨a, rfl, ht.ext (Same.new hq)⟩
  · rintro (y | y)
    · exact S.sep0 a z y
    · subst y
      exact (S.dom a (.inr z)).some hq
theorem Sim.lessP (S : Sim K P1 O W ρ σ H) (h : ∀ b, P0 b → P1 b) : Sim K P0 O W ρ σ H := by
  have fa : ∀ b, FA P0 O σ b → FA P1 O σ b := fun b z => z.imp (h b) id
  refine ⟨S.sub, S.len, fun b z => S.dom b (fa b z), fun i d e n => ?_, fun i d e n => ?_, S.sep, fun a z y => S.sep0 a z (h a y)⟩
  · obtain ⟨v, h1, h2⟩ := S.val i d e n
    exact ⟨v, h1, h2.less S.dom fa⟩
  · obtain ⟨v, h1, h2⟩ := S.own i d e n
    refine ⟨v, h1, ?_⟩
    cases d with
    | lst ds => obtain ⟨a, vs, rfl, ht, hr⟩ := h2; exact ⟨a, vs, rfl, ht, hr.less S.dom fa⟩
    | dik ks ds => obtain ⟨a, vs, rfl, hl, ht, hr⟩ := h2; exact ⟨a, vs, rfl, hl, ht, hr.less S.dom fa⟩
    | dit ks ds => obtain ⟨a, vs, rfl, hl, ht, hr⟩ := h2; exact ⟨a, vs, rfl, hl, ht, hr.less S.dom fa⟩
    | non => exact h2
    | bl _ => exact h2
    | int _ => exact h2
    | str _ => exact h2
    | tup _ => exact h2
    | arg _ => exact h2
    | ftu _ => exact h2
    | tab p q => exact h2
/-- a forbidden object is written -/
theorem Sim.wr (S : Sim K P0 O W ρ σ H) {q : Addr} {o : HO} (hq : P0 q) (ho : isMut (some o)) : Sim K P0 O W ρ σ (upd H q o) := by
  have k : ∀ b u, H b = some u → ¬ FA P0 O σ b → upd H q o b = some u := fun b u e n => by rw [upd_ne fun (z : b = q) => n (.inl (by rw [z]; exact hq))]; exact e
  have ne : ∀ {i a}, i ∈ O → σ[i]? = some (some (V.ref a)) → a ≠ q := fun {i a} hi e z => S.sep0 a ⟨i, hi, e⟩ (by rw [z]; exact hq)
  refine ⟨S.sub, S.len, fun b z => ?_, fun i d e n => ?_, fun i d e n => ?_, S.sep, S.sep0⟩
  · by_cases hb : b = q
    · rw [hb, upd_same]; exact ho
    · rw [upd_ne hb]; exact S.dom b z
  · obtain ⟨v, h1, h2⟩ := S.val i d e n
    exact ⟨v, h1, h2.of_same S.dom k⟩
  · obtain ⟨v, h1, h2⟩ := S.own i d e n
    refine ⟨v, h1, ?_⟩
    cases d with
    | lst ds => obtain ⟨a, vs, rfl, ht, hr⟩ := h2; exact ⟨a, vs, rfl, by rw [upd_ne (ne n h1)]; exact ht, hr.mono ds S.dom k fun _ z => .inl z⟩
    | dik ks ds => obtain ⟨a, vs, rfl, hl, ht, hr⟩ := h2; exact ⟨a, vs, rfl, hl, by rw [upd_ne (ne n h1)]; exact ht, hr.mono ds S.dom k fun _ z => .inl z⟩
    | dit ks ds => obtain ⟨a, vs, rfl, hl, ht, hr⟩ := h2; exact ⟨a, vs, rfl, hl, by rw [upd_ne (ne n h1)]; exact ht, hr.mono ds S.dom k fun _ z => .inl z⟩
    | non => exact h2
    | bl _ => exact h2
    | int _ => exact h2
    | str _ => exact h2
    | tup _ => exact h2
    | arg _ => exact h2
    | ftu _ => exact h2
    | tab p q => obtain ⟨a, rfl, ht⟩ := h2; exact ⟨a, rfl, TabS.mono S.dom k (fun o e => by rw [upd_ne (ne n h1)]; exact e) ht⟩
end

def setAll (ρ : Env) : List Nat → List D → Env
  | i :: is, d :: ds => setAll (ρ.set i (some d)) is ds
  | _, _ => ρ
abbrev GM := D → Env → R Env
def tmName (i : Nat) : GM := fun d ρ => .ok (ρ.set i (some d))
def tmTup (is : List Nat) : GM := fun d ρ => match d with
  | .tup ds => if ds.length = is.length then .ok (setAll ρ is ds) else .stk
  | _ => .stk
def tG (K : PySem.W.Frag) (P0 : Pr) (O W : List Nat) (tm : GM) (is : List Nat) : TG := fun v σ H Q => ∃ ρ d ρ', Sim K P0 O W ρ σ H ∧ Rep K H d (FA P0 O σ) v ∧ tm d ρ = .ok ρ' ∧
  ∀ σ', Sim K P0 O W ρ' σ' H → σ'.length = σ.length → (∀ j, j ∉ is → σ'[j]? = σ[j]?) → Q σ' H
theorem PG.imp {X : Cx} {e : Expr} {t t' : TG} (h : PG X e t) (i : ∀ v σ H Q, t' v σ H Q → t v σ H Q) : PG X e t' := by
  cases h with
  | mk h => exact ⟨fun pins s σ H v u Q I r q => h pins s σ H v u Q I r (i v σ H Q q)⟩
section
variable {X : Cx} {P0 : Pr} {O W : List Nat} {pos : Pos}
abbrev CG (X : Cx) (P0 : Pr) (O W : List Nat) (tg : Expr) (tm : GM) (is : List Nat) : Prop := PG X tg (tG X.K P0 O W tm is)
theorem cg_name (i : Nat) {x : Str} (hN : X.N.Nodup) (ho : i ∉ O := by decide) (hi : X.N[i]? = some x := by rfl) (hx : Loc X.env.scope x := by first | exact Or.inl rfl | exact Or.inr rfl) (hf : X.fn x = true ∨ X.env.scope.names.lookup x = some .local := by first | exact .inl rfl | exact .inr rfl) : CG X P0 O W (.Name x pos) (tmName i) [i] :=
  PG.imp (pg_name hN hi hx hf) fun v σ H Q ⟨ρ, d, ρ', S, r, e, q⟩ => by
    cases e
    exact q _ (S.set ho r) (by simp) fun j hj => List.getElem?_set_ne fun z => hj (by simp [z])
def gNames : List Nat → TGs
  | [] => gNil
  | i :: is => gCons (gName i) (gNames is)
theorem names_ok {K : PySem.W.Frag} {H : Hp} {Q : St → Hp → Prop} : ∀ {is : List Nat} {ds : List D} {vs : List V} {ρ : Env} {σ : St}, (∀ i ∈ is, i ∉ O) → ds.length = is.length → Sim K P0 O W ρ σ H → Reps K H ds (FA P0 O σ) vs →
    (∀ σ', Sim K P0 O W (setAll ρ is ds) σ' H → σ'.length = σ.length → (∀ j, j ∉ is → σ'[j]? = σ[j]?) → Q σ' H) → gNames is vs σ H Q
  | [], [], vs, ρ, σ, _, _, S, r, q => ⟨r.nil_iff, q σ S rfl fun _ _ => rfl⟩
  | [], _ :: _, _, _, _, _, hl, _, _, _ => by simp at hl
  | _ :: _, [], _, _, _, _, hl, _, _, _ => by simp at hl
  | i :: is, d :: ds, vs, ρ, σ, ho, hl, S, r, q => by
    obtain ⟨v, ws, rfl, r1, r2⟩ := r.cons_iff
    have hi : i ∉ O := ho i (by simp)
    have S1 := S.set hi r1
    have fa : ∀ j ∈ O, (σ.set i (some v))[j]? = σ[j]? := fun j hj => List.getElem?_set_ne fun (z : i = j) => hi (by rw [z]; exact hj)
    refine ⟨v, ws, rfl, names_ok (fun j hj => ho j (by simp [hj])) (by simpa using hl) S1 (r2.less S.dom fun b z => (FA_of fa b).mp z) fun σ' S' h1 h2 => ?_⟩
    exact q σ' S' (by rw [h1]; simp) fun j hj => by
      rw [h2 j fun z => hj (by simp [z])]
      exact List.getElem?_set_ne fun z => hj (by simp [z])
theorem cg_tup {es : List Expr} {k : Nat} (is : List Nat) (hc : X.calm = true) (h : PGs X es (gNames is)) (ho : ∀ i ∈ is, i ∉ O := by decide) (hst : (assignEach es X.env).findIdx? (·.1) = none := by rfl) (hn : (assignEach es X.env).length = is.length := by rfl) : CG X P0 O W (.Tuple es k pos) (tmTup is) is :=
  PG.imp (pg_tup hc h hn hst) fun v σ H Q ⟨ρ, d, ρ', S, r, e, q⟩ => by
    unfold tmTup at e
    split at e
    · split at e
      · rename_i hl; cases e
        unfold Rep at r
        obtain ⟨a, vs, rfl, h1, h2⟩ := r
        exact ⟨a, vs, rfl, SqT.of h1, by rw [h2.length, hl], names_ok ho hl S h2 q⟩
      · cases e
    · cases e
theorem cgs_nil : PGs X [] (gNames []) := pgs_nil
theorem cgs_cons {es : List Expr} {is : List Nat} (i : Nat) {x : Str} {p : Pos} (hN : X.N.Nodup) (h2 : PGs X es (gNames is)) (hi : X.N[i]? = some x := by rfl) (hx : Loc X.env.scope x := by first | exact Or.inl rfl | exact Or.inr rfl) (hf : X.fn x = true ∨ X.env.scope.names.lookup x = some .local := by first | exact .inl rfl | exact .inr rfl) :
    PGs X (.Name x p :: es) (gNames (i :: is)) := pgs_cons (pg_name hN hi hx hf) h2
end

open Classical in
/-- the slots that are read from stay -/
noncomputable def chk (ws : List Nat) (ρ ρ' : Env) : R Unit := if ∀ w ∈ ws, ρ'[w]? = ρ[w]? then .ok () else .stk
@[simp] theorem chk_nil {ρ ρ' : Env} : chk [] ρ ρ' = .ok () := by unfold chk; rw [if_pos]; intro w hw; cases hw
theorem chk_ok {ws : List Nat} {ρ ρ' : Env} (h : chk ws ρ ρ' = .ok ()) : ∀ w ∈ ws, ρ'[w]? = ρ[w]? := by
  unfold chk at h
  split at h
  · assumption
  · cases h
noncomputable def cCompL (tm : GM) (t : BM) (e : EM) (vs ws : List Nat) : List D → Env → R (List D × Env)
  | [], ρ => .ok ([], ρ)
  | x :: xs, ρ => do
    let ρ1 ← tm x ρ
    let (k, ρ2) ← t ρ1
    if k = true then do
      let (h, ρ3) ← e ρ2
      let d ← h.v
      let _ ← chk ws ρ (wipeE ρ3 vs)
      let (ys, ρ5) ← cCompL tm t e vs ws xs (wipeE ρ3 vs)
      pure (d :: ys, ρ5)
    else do
      let _ ← chk ws ρ (wipeE ρ2 vs)
      cCompL tm t e vs ws xs (wipeE ρ2 vs)
noncomputable def cComp (im : IM) (tm : GM) (t : BM) (e : EM) (vs : List Nat) : EM := fun ρ => do
  let ((ds, ws), ρ1) ← im ρ
  let (ys, ρ2) ← (cCompL tm t e vs ws ds (wipeE ρ1 vs)).nox
  pure (.fr (.lst ys), ρ2)
def cYes : BM := fun ρ => .ok (true, ρ)
abbrev E00 : EK := fun _ _ _ => False
/-- one turn -/
inductive CStep (tm : GM) (t : BM) (e : EM) (vs ws : List Nat) (x : D) (xs : List D) (ρ : Env) (ys : List D) (ρf : Env) : Prop where
  | yes (ρ1 ρ2 ρ3 : Env) (h : Hd) (d : D) (ys' : List D) (e1 : tm x ρ = .ok ρ1) (e2 : t ρ1 = .ok (true, ρ2)) (e3 : e ρ2 = .ok (h, ρ3)) (e4 : h.v = .ok d) (e5 : chk ws ρ (wipeE ρ3 vs) = .ok ()) (e6 : cCompL tm t e vs ws xs (wipeE ρ3 vs) = .ok (ys', ρf)) (e7 : ys = d :: ys')
  | no (ρ1 ρ2 : Env) (e1 : tm x ρ = .ok ρ1) (e2 : t ρ1 = .ok (false, ρ2)) (e5 : chk ws ρ (wipeE ρ2 vs) = .ok ()) (e6 : cCompL tm t e vs ws xs (wipeE ρ2 vs) = .ok (ys, ρf))
theorem cComp_step {tm : GM} {t : BM} {e : EM} {vs ws : List Nat} {x : D} {xs : List D} {ρ : Env} {ys : List D} {ρf : Env} (h : cCompL tm t e vs ws (x :: xs) ρ = .ok (ys, ρf)) : CStep tm t e vs ws x xs ρ ys ρf := by
  unfold cCompL at h
  obtain ⟨ρ1, e1, h⟩ := R.ok_of h
  obtain ⟨⟨k, ρ2⟩, e2, h⟩ := R.ok_of h
  cases k with
  | true =>
    have h : (e ρ2 >>= _) = R.ok (ys, ρf) := h
    obtain ⟨⟨hd, ρ3⟩, e3, h⟩ := R.ok_of h
    obtain ⟨d, e4, h⟩ := R.ok_of h
    obtain ⟨_, e5, h⟩ := R.ok_of h
    obtain ⟨⟨ys', ρ5⟩, e6, h⟩ := R.ok_of h
    cases h
    exact .yes ρ1 ρ2 ρ3 hd d ys' e1 e2 e3 e4 e5 e6 rfl
  | false =>
    have h : (chk ws ρ (wipeE ρ2 vs) >>= _) = R.ok (ys, ρf) := h
    obtain ⟨_, e5, h⟩ := R.ok_of h
    exact .no ρ1 ρ2 e1 e2 e5 h
end Y

set_option Elab.async false
set_option linter.all false
set_option maxRecDepth 100000
namespace Y
open PySem PySem.Spec PyProof.Rows L2

theorem wipe_same {σ σ' : St} {vs : List Nat} (hl : σ'.length = σ.length) (h : ∀ j, j ∉ vs → σ'[j]? = σ[j]?) : L2.wipe σ' vs = L2.wipe σ vs := by
  apply List.ext_getElem?
  intro j
  by_cases hj : j ∈ vs
  · have q : ∀ (τ : St), (L2.wipe τ vs)[j]? = if j < τ.length then some none else none := fun τ => by
      have hlen := L2.wipe_length τ vs
      cases e : (L2.wipe τ vs)[j]? with
      | none =>
        rw [List.getElem?_eq_none_iff] at e
        rw [if_neg (by omega)]
      | some o =>
        have := (List.getElem?_eq_some_iff.mp e).1
        rw [if_pos (by omega)]
        cases o with
        | none => rfl
        | some v => exact absurd hj (wipe_some e).2
    rw [q, q, hl]
  · rw [wipe_ne hj, wipe_ne hj, h j hj]
theorem wipe_idem {σ : St} {vs : List Nat} : L2.wipe (L2.wipe σ vs) vs = L2.wipe σ vs := wipe_same (L2.wipe_length σ vs) fun j hj => wipe_ne hj
theorem wipeE_none {ρ : Env} {vs : List Nat} : ∀ i ∈ vs, ∀ d, (wipeE ρ vs)[i]? ≠ some (some d) := fun i hi d e => (wipeE_some e).2 hi
section
variable {X : Cx} {P0 : Pr} {O W : List Nat} {E : EK} {a b c e tg : Expr} {es : List Expr} {ma mb mc : EM} {ms : AM} {pos : Pos}
theorem PE.ex {e : Expr} {m : EM} (h : ∀ P0, CEx X P0 O W E e m) : PE X e (fun σ H Q => ∃ P0, tM X.K P0 O W E m σ H Q) := ⟨fun pins s σ H Q I ⟨P0, q⟩ => (h P0).run pins s σ H Q I q⟩
theorem PT.ex {e : Expr} {m : BM} (h : ∀ P0, CT X P0 O W E e m) : PT X e (fun σ H Q => ∃ P0, tMt X.K P0 O W E m σ H Q) := ⟨fun pins s σ H Q I ⟨P0, q⟩ => (h P0).run pins s σ H Q I q⟩
theorem PG.ex {e : Expr} {m : GM} {is : List Nat} (h : ∀ P0, CG X P0 O W e m is) : PG X e (fun v σ H Q => ∃ P0, tG X.K P0 O W m is v σ H Q) := by
  refine ⟨fun pins s σ H v u Q I r ⟨P0, q⟩ => ?_⟩
  cases h P0 with
  | mk h => exact h pins s σ H v u Q I r q
/-- the tests of a comprehension -/
abbrev CTs (X : Cx) (O W : List Nat) (E : EK) (ifs : List Expr) (m : BM) : Prop := PTs X ifs (fun σ H Q => ∃ P0, tMt X.K P0 O W E m σ H Q)
theorem cts_nil : CTs X O W E [] cYes := by
  cases (pts_nil (X := X)) with
  | mk h => exact ⟨fun pins s σ H Q I ⟨P0, ρ, S, q⟩ => h pins s σ H Q I (q H S .refl)⟩
theorem cts_one {m : BM} (h : ∀ P0, CT X P0 O W E c m) : CTs X O W E [c] m := pts_one (PT.ex h)
theorem comp_core {K : PySem.W.Frag} {im : IM} {tm : GM} {t : BM} {me : EM} {is vs : List Nat} (hv : ∀ i ∈ is, i ∈ vs) (ho : ∀ i ∈ vs, i ∉ O) (σ : St) (H : Hp) (Q : VK) (h : tM K P0 O W E (cComp im tm t me vs) σ H Q) :
    tLc (tMi K P0 O W E im) (fun v σ H Q => ∃ P0, tG K P0 O W tm is v σ H Q) (fun σ H Q => ∃ P0, tMt K P0 O W E00 t σ H Q) (fun σ H Q => ∃ P0, tM K P0 O W E00 me σ H Q) vs σ H Q := by
  obtain ⟨ρ, S, h⟩ := h
  refine ⟨ρ, S, h.of_bind.mono fun ⟨⟨ds, ws⟩, ρ1⟩ q J H1 Ok S1 k1 src ok hz Dn hD => ?_⟩
  obtain ⟨⟨ys, ρf⟩, er, q⟩ := q.of_nox
  have src : Src K O W ds ws J Ok := src
  have hz : ds.length ≤ sizeLine := hz
  generalize hP : (fun b => P0 b ∨ b = Dn : Pr) = P1
  have pD : P1 Dn := by subst hP; exact .inr rfl
  have pI : ∀ b, P0 b → P1 b := by subst hP; exact fun b z => .inl z
  have pO : ∀ b, P1 b → P0 b ∨ b = Dn := by subst hP; exact fun b z => z
  have S2 : Sim K P1 O W ρ1 σ (upd H1 Dn (.lst [])) := by subst hP; exact S1.more hD
  have ok2 : Ok P1 ρ1 σ (upd H1 Dn (.lst [])) := src.grow P0 _ ρ1 σ H1 _ S1 (fun b z => (pO b z).elim .inl fun z => .inr (by rw [z]; exact hD)) (Same.new hD) ok
  have wO : ∀ w ∈ ws, w ∉ vs := fun w hw z => ho w z (src.mem _ _ _ _ ok w hw)
  have sO : ∀ i ∈ O, (L2.wipe σ vs)[i]? = σ[i]? := fun i hi => wipe_ne fun y => ho i y hi
  have S3 : Sim K P1 O W (wipeE ρ1 vs) (L2.wipe σ vs) (upd H1 Dn (.lst [])) := S2.wipe2 ho
  have nD : ¬ OA O (L2.wipe σ vs) Dn := fun z => (S1.dom Dn (.inr ((OA_of sO Dn).mp z))).some hD
  have ok3 : Ok P1 (wipeE ρ1 vs) (L2.wipe σ vs) (upd H1 Dn (.lst [])) := src.keep P1 ρ1 σ _ _ _ _ S2 (fun _ _ e _ => e) (fun b z => .inl ((FA_of sO b).mp z)) (fun w hw => ⟨wipe_ne (wO w hw), by
    cases e : (wipeE ρ1 vs)[w]? with
    | none =>
      have : ρ1.length ≤ w := by rw [← wipeE_length ρ1 vs]; exact List.getElem?_eq_none_iff.mp e
      rw [List.getElem?_eq_none this]
    | some o =>
      have q2 : ∀ (is : List Nat), w ∉ is → (wipeE ρ1 is)[w]? = ρ1[w]? := fun is => by
        induction is with
        | nil => intro _; rfl
        | cons i is ih =>
          intro hn
          simp only [List.mem_cons, not_or] at hn
          unfold wipeE
          rw [List.getElem?_set_ne fun z => hn.1 z.symm]
          exact ih hn.2
      rw [← e, q2 vs (wO w hw)]⟩) ok2
  -- the invariant
  let I : Nat → Hp → Prop := fun i Hx => i ≤ ds.length ∧ ∃ (ρx : Env) (acc : List V) (yd rest : List D), Sim K P1 O W ρx (L2.wipe σ vs) Hx ∧ Ok P1 ρx (L2.wipe σ vs) Hx ∧ Hx Dn = some (.lst acc) ∧ Reps K Hx yd (FA P1 O (L2.wipe σ vs)) acc ∧ acc.length ≤ i ∧
    cCompL tm t me vs ws (ds.drop i) ρx = .ok (rest, ρf) ∧ ys = yd ++ rest ∧ (∀ b o, H1 b = some o → ¬ OA W σ b → Hx b = some o) ∧ (∀ b, H1 b ≠ none → Hx b ≠ none) ∧ (∀ j ∈ vs, ∀ d, ρx[j]? ≠ some (some d))
  refine ⟨fun i m Hx => m = ds.length - i ∧ I i Hx, ⟨ds.length, by simp, Nat.zero_le _, wipeE ρ1 vs, [], [], ys, S3, ok3, upd_same, Reps.nil, Nat.le_refl _, er, rfl, fun b o e _ => Same.new hD b o e, fun b e => Same.some (Same.new hD) b e, wipeE_none⟩, ?_⟩
  rintro i m Hx ⟨rfl, hi, ρx, acc, yd, rest, Sx, okx, hDx, hR, hacc, hC, hys, kx, sx, nx⟩
  by_cases hlt : i < ds.length
  · right
    refine ⟨src.go P1 i ρx _ Hx Sx okx hlt, I (i + 1), fun H' p' => ⟨ds.length - (i + 1), by omega, rfl, p'⟩, fun x' H' y => ?_⟩
    obtain ⟨sm, rx⟩ := src.yld P1 i ρx _ Hx x' H' ds[i] Sx okx (List.getElem?_eq_getElem hlt) y
    rw [List.drop_eq_getElem_cons hlt] at hC
    have back : ∀ {σ2 : St}, σ2.length = (L2.wipe σ vs).length → (∀ j, j ∉ is → σ2[j]? = (L2.wipe σ vs)[j]?) → L2.wipe σ2 vs = L2.wipe σ vs ∧ ∀ j ∈ O, σ2[j]? = (L2.wipe σ vs)[j]? := fun {σ2} h1 h2 =>
      ⟨(wipe_same h1 fun j hj => h2 j fun z => hj (hv j z)).trans wipe_idem, fun j hj => h2 j fun z => ho j (hv j z) hj⟩
    -- from the turn's end to the next turn
    have next : ∀ {σ2 : St} {ρ3 : Env} {H4 : Hp} {acc' : List V} {yd' rest' : List D}, σ2.length = (L2.wipe σ vs).length → (∀ j, j ∉ is → σ2[j]? = (L2.wipe σ vs)[j]?) → Sim K P1 O W ρ3 σ2 H4 → Keep W σ2 H' H4 →
        (∀ w ∈ ws, (wipeE ρ3 vs)[w]? = ρx[w]?) → Reps K H4 yd' (FA P1 O σ2) acc' → acc'.length ≤ i + 1 → cCompL tm t me vs ws (ds.drop (i + 1)) (wipeE ρ3 vs) = .ok (rest', ρf) → ys = yd' ++ rest' → I (i + 1) (upd H4 Dn (.lst acc')) := by
      intro σ2 ρ3 H4 acc' yd' rest' h1 h2 S4 k4 hw r' hl' hc' hy'
      obtain ⟨b1, b2⟩ := back h1 h2
      have nD2 : ¬ OA O σ2 Dn := fun z => nD ((OA_of b2 Dn).mp z)
      have S5 := S4.wipe2 (is := vs) ho
      rw [b1] at S5
      have S6 := S5.wr (o := .lst acc') pD trivial
      have kp : ∀ b o, Hx b = some o → ¬ FA P1 O (L2.wipe σ vs) b → upd H4 Dn (.lst acc') b = some o := fun b o e n => by
        rw [upd_ne fun z => n (.inl (by rw [z]; exact pD))]
        exact k4.keep b o (sm b o e) fun z => n (.inr ((OA_of b2 b).mp (S4.oaw z)))
      refine ⟨hlt, wipeE ρ3 vs, acc', yd', rest', S6, src.keep P1 ρx _ Hx _ _ _ Sx kp (fun b z => .inl z) (fun w hw' => ⟨rfl, hw w hw'⟩) okx, upd_same, ?_, hl', hc', hy', fun b o e n => ?_, fun b e => ?_, wipeE_none⟩
      · refine r'.mono yd' S4.dom (fun b o e n => ?_) fun b z => .inl ((FA_of b2 b).mpr z)
        rw [upd_ne fun z => n (.inl (by rw [z]; exact pD))]
        exact e
      · have hb : b ≠ Dn := ne_of_none e hD
        rw [upd_ne hb]
        exact k4.keep b o (sm b o (kx b o e n)) fun z => n ((OA_of (fun i hi => sO i (S1.sub i hi)) b).mp ((OA_of (fun i hi => b2 i (S1.sub i hi)) b).mp z))
      · by_cases hb : b = Dn
        · rw [hb, upd_same]; intro z; cases z
        · rw [upd_ne hb]
          exact k4.some b (Same.some sm b (sx b e))
    cases cComp_step hC with
    | yes ρa ρb ρc hd d ys' e1 e2 e3 e4 e5 e6 e7 =>
      refine ⟨P1, ρx, ds[i], ρa, Sx.same sm, rx, e1, fun σ2 Sa h1 h2 => ⟨(back h1 h2).1, P1, ρa, Sa, ?_⟩⟩
      rw [e2]
      intro H3 Sb k3
      refine (if_pos rfl).mpr ⟨P1, ρb, Sb, ?_⟩
      rw [e3]
      intro y' H4 Sc k4 r4
      have b2 := (back h1 h2).2
      have nD2 : ¬ OA O σ2 Dn := fun z => nD ((OA_of b2 Dn).mp z)
      have k34 : Keep W σ2 H' H4 := k3.trans k4
      refine ⟨acc, k34.keep _ _ (sm _ _ hDx) fun z => nD2 (Sc.oaw z), by omega, ?_⟩
      have r5 : Reps K H4 yd (FA P1 O σ2) acc := hR.mono yd Sx.dom (fun b o e n => k34.keep b o (sm b o e) fun z => n (.inr ((OA_of b2 b).mp (Sc.oaw z)))) fun b z => .inl ((FA_of b2 b).mp z)
      exact next h1 h2 Sc k34 (chk_ok e5) (r5.append (Reps.cons (r4.v e4) Reps.nil)) (by simp; omega) e6 (by rw [hys, e7]; simp)
    | no ρa ρb e1 e2 e5 e6 =>
      refine ⟨P1, ρx, ds[i], ρa, Sx.same sm, rx, e1, fun σ2 Sa h1 h2 => ⟨(back h1 h2).1, P1, ρa, Sa, ?_⟩⟩
      rw [e2]
      intro H3 Sb k3
      refine (if_neg Bool.false_ne_true).mpr ?_
      have b2 := (back h1 h2).2
      have nD2 : ¬ OA O σ2 Dn := fun z => nD ((OA_of b2 Dn).mp z)
      have r5 : Reps K H3 yd (FA P1 O σ2) acc := hR.mono yd Sx.dom (fun b o e n => k3.keep b o (sm b o e) fun z => n (.inr ((OA_of b2 b).mp (Sb.oaw z)))) fun b z => .inl ((FA_of b2 b).mp z)
      have hD3 : H3 Dn = some (.lst acc) := k3.keep _ _ (sm _ _ hDx) fun z => nD2 (Sb.oaw z)
      have fin := next h1 h2 Sb k3 (chk_ok e5) r5 (by omega) e6 hys
      have e : upd H3 Dn (.lst acc) = H3 := by
        funext b
        unfold upd
        split
        · rename_i z; rw [z, hD3]
        · rfl
      rw [e] at fin
      exact fin
  · left
    have ei : i = ds.length := by omega
    subst ei
    refine ⟨src.stop P1 ρx _ Hx Sx okx, ?_⟩
    rw [List.drop_length] at hC
    have hC : (R.ok (([] : List D), ρx)) = R.ok (rest, ρf) := hC
    cases hC
    rw [List.append_nil] at hys
    subst hys
    have kH : Keep W σ H1 Hx := ⟨kx, sx⟩
    refine q (.ref Dn) Hx ((Sx.lessP pI).out ho nx) (k1.trans kH) ⟨?_, fun _ a e => ?_⟩
    · unfold Rep
      refine ⟨Dn, acc, rfl, fun z => (S1.dom Dn z).some hD, hDx, hR.less Sx.dom fun b z => ?_⟩
      rcases z with z | z
      · exact (FA_of sO b).mpr (z.imp (pI b) id)
      · rw [z]; exact .inl pD
    · cases e
      exact Classical.byContradiction fun z => k1.some Dn z hD
theorem ce_comp {elt iter : Expr} {ifs : List Expr} {scope : Scope} {own : List (Str × Nat)} {im : IM} {tm : GM} {t : BM} {me : EM} {is : List Nat} (hc : X.calm = true) (hN : X.N.Nodup) (hi : CI X P0 O W E tg iter im) (ok : BlkOk X.N X.env.scope scope own)
    (hg : ∀ (P0 : Pr) (s : Shared) (H : Hp) (C : Addr) (cl : List (Str × Addr)) (fp : List Addr), CG (X.blk s H scope (compEnvC scope cl C X.env) fp) P0 O W tg tm is)
    (ht : ∀ (s : Shared) (H : Hp) (C : Addr) (cl : List (Str × Addr)) (fp : List Addr), CTs (X.blk s H scope (compEnvC scope cl C X.env) fp) O W E00 ifs t)
    (he : ∀ (P0 : Pr) (s : Shared) (H : Hp) (C : Addr) (cl : List (Str × Addr)) (fp : List Addr), CEx (X.blk s H scope (compEnvC scope cl C X.env) fp) P0 O W E00 elt me)
    (hv : ∀ i ∈ is, i ∈ own.map (·.2) := by decide) (ho : ∀ i ∈ own.map (·.2), i ∉ O := by decide) (hs : ∀ x, foldedSetIterable iter X.env x = pure x := by intro _; rfl) :
    CEx X P0 O W E (.ListComp elt [⟨tg, iter, ifs, 0⟩] scope pos) (cComp im tm t me (own.map (·.2))) :=
  PE.imp (pe_lc hc hN hi ok (fun s H C cl fp => PG.ex fun P0 => hg P0 s H C cl fp) ht (fun s H C cl fp => PE.ex fun P0 => he P0 s H C cl fp) hs) (comp_core hv ho)
end
end Y

set_option Elab.async false
set_option linter.all false
set_option maxRecDepth 100000
namespace Y
open PySem PySem.Spec PyProof.Rows L2

mutual
def D.nl : D → Bool
  | .non => true
  | .bl _ => true
  | .int _ => true
  | .str _ => true
  | .tup ds => nls ds
  | .ftu ds => nls ds
  | _ => false
def nls : List D → Bool
  | [] => true
  | d :: ds => d.nl && nls ds
end
/-- a list, a dict of such -/
def D.shallow : D → Bool
  | .lst ds => nls ds
  | .dik _ ds => nls ds
  | .dit _ ds => nls ds
  | .tab _ _ => true
  | d => d.nl
section
variable {K : PySem.W.Frag} {H : Hp}
mutual
theorem Rep.nl : ∀ {d : D} {P P' : Pr} {v : V}, d.nl = true → Rep K H d P v → Rep K H d P' v
  | .non, _, _, _, _, h => by unfold Rep at h ⊢; exact h
  | .bl _, _, _, _, _, h => by unfold Rep at h ⊢; exact h
  | .int _, _, _, _, _, h => by unfold Rep at h ⊢; exact h
  | .str _, _, _, _, _, h => by unfold Rep at h ⊢; exact h
  | .tup ds, P, P', v, n, h => by
    unfold Rep at h ⊢
    obtain ⟨a, vs, e, h1, h2⟩ := h
    exact ⟨a, vs, e, h1, Reps.nl (by unfold D.nl at n; exact n) h2⟩
  | .ftu ds, P, P', v, n, h => by
    unfold Rep at h ⊢
    obtain ⟨a, vs, o, e, h1, hd, h2⟩ := h
    exact ⟨a, vs, o, e, h1, hd, Reps.nl (by unfold D.nl at n; exact n) h2⟩
  | .tab _ _, _, _, _, n, _ => by simp [D.nl] at n
  | .lst _, _, _, _, n, _ => by simp [D.nl] at n
  | .arg _, _, _, _, n, _ => by simp [D.nl] at n
  | .dik _ _, _, _, _, n, _ => by simp [D.nl] at n
  | .dit _ _, _, _, _, n, _ => by simp [D.nl] at n
theorem Reps.nl : ∀ {ds : List D} {P P' : Pr} {vs : List V}, nls ds = true → Reps K H ds P vs → Reps K H ds P' vs
  | [], _, _, _, _, h => by rw [h.nil_iff]; exact Reps.nil
  | d :: ds, P, P', vs, n, h => by
    obtain ⟨v, ws, rfl, h1, h2⟩ := h.cons_iff
    unfold nls at n
    rw [Bool.and_eq_true] at n
    exact Reps.cons (Rep.nl n.1 h1) (Reps.nl n.2 h2)
end
theorem RepO.shallow {d : D} {P P' : Pr} {v : V} (n : d.shallow = true) (h : RepO K H d P v) : RepO K H d P' v := by
  cases d with
  | lst ds => obtain ⟨a, vs, e, h1, h2⟩ := h; exact ⟨a, vs, e, h1, h2.nl n⟩
  | dik ks ds => obtain ⟨a, vs, e, hl, h1, h2⟩ := h; exact ⟨a, vs, e, hl, h1, h2.nl n⟩
  | dit ks ds => obtain ⟨a, vs, e, hl, h1, h2⟩ := h; exact ⟨a, vs, e, hl, h1, h2.nl n⟩
  | non => exact h
  | bl _ => exact h
  | int _ => exact h
  | str _ => exact h
  | tup _ => exact h
  | arg _ => exact h
  | ftu _ => exact h
  | tab _ _ => exact h
theorem RepO.mono {H' : Hp} {d : D} {P P' : Pr} {v : V} (hm : ∀ b, P b → isMut (H b)) (k : ∀ b o, H b = some o → ¬ P b → H' b = some o) (hp : ∀ b, P' b → P b ∨ H b = none) (hk : ∀ a o, v = .ref a → H a = some o → H' a = some o) (h : RepO K H d P v) : RepO K H' d P' v := by
  cases d with
  | lst ds => obtain ⟨a, vs, e, h1, h2⟩ := h; exact ⟨a, vs, e, hk a _ e h1, h2.mono ds hm k hp⟩
  | dik ks ds => obtain ⟨a, vs, e, hl, h1, h2⟩ := h; exact ⟨a, vs, e, hl, hk a _ e h1, h2.mono ds hm k hp⟩
  | dit ks ds => obtain ⟨a, vs, e, hl, h1, h2⟩ := h; exact ⟨a, vs, e, hl, hk a _ e h1, h2.mono ds hm k hp⟩
  | non => exact h
  | bl _ => exact h
  | int _ => exact h
  | str _ => exact h
  | tup _ => exact h
  | arg _ => exact h
  | ftu _ => exact h
  | tab p q => obtain ⟨a, e, ht⟩ := h; exact ⟨a, e, TabS.mono hm k (fun o e2 => hk a o e e2) ht⟩
end
open Classical in
/-- what is known of the slots is what was known; or, of own slots, it holds no lists -/
noncomputable def chkO (O W : List Nat) (ρ ρ' : Env) : R Unit := if ∀ (j : Nat) d, ρ'[j]? = some (some d) → (ρ[j]? = some (some d) ∧ j ∉ W) ∨ (j ∈ O ∧ d.shallow = true) ∨ d.nl = true then .ok () else .stk
theorem chkO_ok {O W : List Nat} {ρ ρ' : Env} (h : chkO O W ρ ρ' = .ok ()) : ∀ (j : Nat) d, ρ'[j]? = some (some d) → (ρ[j]? = some (some d) ∧ j ∉ W) ∨ (j ∈ O ∧ d.shallow = true) ∨ d.nl = true := by
  unfold chkO at h
  split at h
  · assumption
  · cases h
@[simp] theorem chkO_same {O : List Nat} {ρ : Env} : chkO O [] ρ ρ = .ok () := by unfold chkO; rw [if_pos fun j d e => .inl ⟨e, by simp⟩]
/-- what an own slot may take -/
def D.ownable : D → Bool
  | .lst _ => true
  | .non => true
  | .bl _ => true
  | .int _ => true
  | .str _ => true
  | _ => false
section
variable {K : PySem.W.Frag} {P0 P1 : Pr} {O W : List Nat} {ρ ρ' : Env} {σ σ' : St} {H H' : Hp} {d : D} {v : V}
/-- an own slot's object is written -/
theorem Sim.ownW (S : Sim K P0 O W ρ σ H) {i : Nat} {a : Addr} {o : HO} (hi : i ∈ O) (ha : σ[i]? = some (some (.ref a))) (ho : isMut (some o)) (r : RepO K (upd H a o) d (FA P0 O σ) (.ref a)) : Sim K P0 O W (ρ.set i (some d)) σ (upd H a o) := by
  have pa : FA P0 O σ a := .inr ⟨i, hi, ha⟩
  have k : ∀ b u, H b = some u → ¬ FA P0 O σ b → upd H a o b = some u := fun b u e n => by rw [upd_ne fun z => n (by rw [z]; exact pa)]; exact e
  refine ⟨S.sub, by simpa using S.len, fun b z => ?_, fun j d' e n => ?_, fun j d' e n => ?_, S.sep, S.sep0⟩
  · by_cases hb : b = a
    · rw [hb, upd_same]; exact ho
    · rw [upd_ne hb]; exact S.dom b z
  · have hj : i ≠ j := fun (z : i = j) => n (by rw [← z]; exact hi)
    rw [List.getElem?_set_ne hj] at e
    obtain ⟨v, h1, h2⟩ := S.val j d' e n
    exact ⟨v, h1, h2.of_same S.dom k⟩
  · by_cases hj : i = j
    · subst hj
      have h1 : i < ρ.length := by have := (List.getElem?_eq_some_iff.mp e).1; simpa using this
      rw [List.getElem?_set_self h1] at e
      cases e
      exact ⟨_, ha, r⟩
    · rw [List.getElem?_set_ne hj] at e
      obtain ⟨v, h1, h2⟩ := S.own j d' e n
      refine ⟨v, h1, h2.mono S.dom k (fun _ z => .inl z) fun b u e1 e2 => ?_⟩
      subst e1
      rw [upd_ne fun (z : b = a) => hj (S.sep i j a hi n ha (by rw [← z]; exact h1))]
      exact e2
/-- a datum of an own slot, of a new object -/
theorem Rep.own (hm : ∀ b, FA P0 O σ b → isMut (H b)) (hd : d.ownable = true) (r : Rep K H d (FA P0 O σ) v) {P' : Pr} (hp : ∀ b, P' b → FA P0 O σ b ∨ v = .ref b) : RepO K H d P' v := by
  cases d with
  | lst ds =>
    unfold Rep at r
    obtain ⟨a, vs, rfl, h0, h1, h2⟩ := r
    exact ⟨a, vs, rfl, h1, h2.less (mutL hm h1) fun b z => (hp b z).imp id fun z => by cases z; rfl⟩
  | dik _ _ => cases hd
  | dit _ _ => cases hd
  | non => unfold Rep at r; exact r
  | bl _ => unfold Rep at r; exact r
  | int _ => unfold Rep at r; exact r
  | str _ => unfold Rep at r; exact r
  | tup _ => cases hd
  | arg _ => cases hd
  | ftu _ => cases hd
  | tab _ _ => cases hd
/-- an own slot gets a new object v. S0: the state ahead of its making -/
theorem Sim.setO (S0 : Sim K P0 O W ρ σ H) (S : Sim K P0 O W ρ' σ H') (k : Keep W σ H H') (c : ∀ (j : Nat) d, ρ'[j]? = some (some d) → (ρ[j]? = some (some d) ∧ j ∉ W) ∨ (j ∈ O ∧ d.shallow = true) ∨ d.nl = true) {i : Nat} (hi : i ∈ O)
    (new : ∀ a, v = .ref a → H a = none ∧ isMut (H' a)) (r : RepO K H' d (fun b => FA P0 O σ b ∨ v = .ref b) v) : Sim K P0 O W (ρ'.set i (some d)) (σ.set i (some v)) H' := by
  have gs : ∀ {j : Nat} {w : V}, (σ.set i (some v))[j]? = some (some w) → (j = i ∧ w = v) ∨ (j ≠ i ∧ σ[j]? = some (some w)) := fun {j w} e => by
    by_cases hj : i = j
    · subst hj
      have h1 : i < σ.length := by have := (List.getElem?_eq_some_iff.mp e).1; simpa using this
      rw [List.getElem?_set_self h1] at e
      cases e
      exact .inl ⟨rfl, rfl⟩
    · rw [List.getElem?_set_ne hj] at e
      exact .inr ⟨fun z => hj z.symm, e⟩
  have oa : ∀ b, OA O (σ.set i (some v)) b → v = .ref b ∨ OA O σ b := fun b ⟨j, hj, e⟩ => by
    rcases gs e with ⟨_, e2⟩ | ⟨_, e2⟩
    · exact .inl e2.symm
    · exact .inr ⟨j, hj, e2⟩
  have fa0 : ∀ b, FA P0 O (σ.set i (some v)) b → FA P0 O σ b ∨ H b = none := fun b z => by
    rcases z with z | z
    · exact .inl (.inl z)
    · rcases oa b z with z | z
      · exact .inr (new b z).1
      · exact .inl (.inr z)
  have kf : ∀ b o, H b = some o → ¬ FA P0 O σ b → H' b = some o := fun b o e n => k.keep b o e fun z => n (.inr (S.oaw z))
  -- the new object is not what an own slot held
  have apart : ∀ a, v = .ref a → ¬ FA P0 O σ a := fun a e z => (S0.dom a z).some (new a e).1
  refine ⟨S.sub, by simpa using S.len, fun b z => ?_, fun j d' e n => ?_, fun j d' e n => ?_, fun x y a hx hy e1 e2 => ?_, fun a z y => ?_⟩
  · rcases z with z | z
    · exact S.dom b (.inl z)
    · rcases oa b z with z | z
      · exact (new b z).2
      · exact S.dom b (.inr z)
  · have hj : i ≠ j := fun (z : i = j) => n (by rw [← z]; exact hi)
    rw [List.getElem?_set_ne hj] at e ⊢
    rcases c j d' e with ⟨e0, _⟩ | ⟨z, _⟩ | nl
    · obtain ⟨w, h1, h2⟩ := S0.val j d' e0 n
      exact ⟨w, h1, h2.mono d' S0.dom kf fa0⟩
    · exact absurd z n
    · obtain ⟨w, h1, h2⟩ := S.val j d' e n
      exact ⟨w, h1, h2.nl nl⟩
  · by_cases hj : i = j
    · subst hj
      have h1 : i < ρ'.length := by have := (List.getElem?_eq_some_iff.mp e).1; simpa using this
      rw [List.getElem?_set_self h1] at e
      cases e
      refine ⟨v, List.getElem?_set_self (Nat.lt_of_lt_of_le h1 S.len), ?_⟩
      have r' := r
      refine r'.mono (P := fun b => FA P0 O σ b ∨ v = .ref b) (fun b z => z.elim (S.dom b) fun z => (new b z).2) (fun _ _ e _ => e) (fun b z => ?_) fun _ _ _ e => e
      rcases z with z | z
      · exact .inl (.inl (.inl z))
      · exact .inl ((oa b z).elim .inr fun z => .inl (.inr z))
    · rw [List.getElem?_set_ne hj] at e ⊢
      rcases c j d' e with ⟨e0, hw⟩ | ⟨_, sh⟩ | nl
      · obtain ⟨w, h1, h2⟩ := S0.own j d' e0 n
        refine ⟨w, h1, h2.mono S0.dom kf fa0 fun a o e1 e2 => ?_⟩
        subst e1
        refine k.keep a o e2 fun ⟨x, hx, ex⟩ => ?_
        have := S0.sep x j a (S0.sub x hx) n ex h1
        exact hw (this ▸ hx)
      · obtain ⟨w, h1, h2⟩ := S.own j d' e n
        exact ⟨w, h1, h2.shallow sh⟩
      · obtain ⟨w, h1, h2⟩ := S.own j d' e n
        refine ⟨w, h1, ?_⟩
        cases d' <;> first | exact h2 | (simp [D.nl] at nl)
  · rcases gs e1 with ⟨f1, g1⟩ | ⟨f1, g1⟩
    · rcases gs e2 with ⟨f2, g2⟩ | ⟨f2, g2⟩
      · rw [f1, f2]
      · exact absurd (.inr ⟨y, hy, g2⟩) (apart a g1.symm)
    · rcases gs e2 with ⟨f2, g2⟩ | ⟨f2, g2⟩
      · exact absurd (.inr ⟨x, hx, g1⟩) (apart a g2.symm)
      · exact S.sep x y a hx hy g1 g2
  · rcases oa a z with z | z
    · exact apart a z (.inl y)
    · exact S.sep0 a z y
end

inductive Fl where
  | nx | bk | ct | rt (h : Hd)
abbrev SM := Env → R (Fl × Env)
def Fin (K : PySem.W.Frag) (P0 : Pr) (O : List Nat) (Hs : Hp) (D : Ends) (σ : St) (H : Hp) : Fl → Prop
  | .nx => D.nx σ H
  | .bk => D.bk σ H
  | .ct => D.ct σ H
  | .rt h => ∀ v, HdR K P0 O Hs σ H h v → D.rt v H
def tSt (K : PySem.W.Frag) (P0 : Pr) (O W U : List Nat) (E : EK) (m : SM) : TS := fun D σ H => ∃ ρ, Sim K P0 O W ρ σ H ∧
  Res E O σ H (m ρ) fun a => ∀ σ' H', Sim K P0 O W a.2 σ' H' → Tr O U σ H σ' H' → σ'.length = σ.length → Fin K P0 O H D σ' H' a.1
section
variable {E : EK} {O W U : List Nat} {σ σ1 : St} {H H1 : Hp} {α β : Type}
theorem Keep.up (hs : ∀ i ∈ W, i ∈ O) (k : Keep W σ H H1) : Keep O σ H H1 := ⟨fun b o e n => k.keep b o e fun ⟨i, hi, z⟩ => n ⟨i, hs i hi, z⟩, k.some⟩
theorem Res.down (hs : ∀ i ∈ W, i ∈ O) {r : R α} {k : α → Prop} (h : Res E O σ H r k) : Res E W σ H r k := by
  cases r with
  | ok a => exact h
  | er c ds => exact fun H' kp => h H' (kp.up hs)
  | stk => exact h
theorem Keep.afterT {H2 : Hp} (t : Tr O U σ H σ1 H1) (k : Keep O σ1 H1 H2) : Keep O σ H H2 where
  keep := fun b o e n => k.keep b o (t.keep b o e n) fun z => by
    rcases t.own b z with z | z
    · exact n z
    · rw [e] at z; cases z
  some := fun b e => k.some b (t.some b e)
theorem Res.keepT {r : R α} {k : α → Prop} (h : Res E O σ H r k) (t : Tr O U σ H σ1 H1) : Res E O σ1 H1 r k := by
  cases r with
  | ok a => exact h
  | er c ds => exact fun H' kp => h H' (kp.afterT t)
  | stk => exact h
end
section
variable {X : Cx} {P0 : Pr} {O W U : List Nat} {E : EK} {a b c e tg : Expr} {es : List Expr} {ma mb mc : EM} {ms : AM} {pos : Pos} {st : Stmt} {sts : List Stmt} {m n : SM}
abbrev CS (X : Cx) (P0 : Pr) (O W U : List Nat) (E : EK) (st : Stmt) (m : SM) : Prop := PS X st (tSt X.K P0 O W U E m)
abbrev CSs (X : Cx) (P0 : Pr) (O W U : List Nat) (E : EK) (sts : List Stmt) (m : SM) : Prop := PSs X sts (tSt X.K P0 O W U E m)
def sSkip : SM := fun ρ => .ok (.nx, ρ)
def sSeq (m n : SM) : SM := fun ρ => do
  let (f, ρ1) ← m ρ
  match f with
  | .nx => n ρ1
  | f => pure (f, ρ1)
theorem cs_nil : CSs X P0 O W U E [] sSkip := PSs.imp pss_nil fun D σ H ⟨ρ, S, h⟩ => h σ H S .refl rfl
theorem cs_one (h : CS X P0 O W U E st m) : CSs X P0 O W U E [st] m := pss_one h
theorem cs_cons (h : CS X P0 O W U E st m) (h2 : CSs X P0 O W U E sts n) : CSs X P0 O W U E (st :: sts) (sSeq m n) := PSs.imp (pss_cons h h2) fun D σ H ⟨ρ, S, h⟩ =>
  ⟨ρ, S, h.of_bind.mono fun ⟨f, ρ1⟩ q σ1 H1 S1 t1 l1 => by
    cases f with
    | nx =>
      refine ⟨ρ1, S1, (Res.keepT (show Res E O σ H (n ρ1) _ from q) t1).mono fun ⟨f2, ρ2⟩ q2 σ2 H2 S2 t2 l2 => ?_⟩
      have q3 := q2 σ2 H2 S2 (t1.trans t2) (l2.trans l1)
      cases f2 with
      | nx => exact q3
      | bk => exact q3
      | ct => exact q3
      | rt hd => exact fun v r => q3 v (r.back t1.some)
    | bk => exact q σ1 H1 S1 t1 l1
    | ct => exact q σ1 H1 S1 t1 l1
    | rt hd => exact q σ1 H1 S1 t1 l1⟩
def sRet (m : EM) : SM := fun ρ => do
  let (h, ρ1) ← m ρ
  pure (.rt h, ρ1)
theorem cs_ret (h : CEx X P0 O W E e ma) : CS X P0 O W U E (.Return (some e) pos) (sRet ma) := PS.imp (ps_ret h) fun D σ H ⟨ρ, S, h⟩ =>
  ⟨ρ, S, (h.of_bind.down S.sub).mono fun ⟨hd, ρ1⟩ q v H1 S1 k1 r1 => q σ H1 S1 (Tr.of S.sub k1) rfl v r1⟩
def sIf (t : BM) (m n : SM) : SM := fun ρ => do
  let (k, ρ1) ← t ρ
  if k = true then m ρ1 else n ρ1
theorem Fin.back {K : PySem.W.Frag} {Hs Hs' : Hp} {D : Ends} {σ : St} {H : Hp} {f : Fl} (k : ∀ b, Hs b ≠ none → Hs' b ≠ none) (h : Fin K P0 O Hs D σ H f) : Fin K P0 O Hs' D σ H f := by
  cases f with
  | rt hd => exact fun v r => h v (r.back k)
  | nx => exact h
  | bk => exact h
  | ct => exact h
theorem cs_if {t : BM} {xs ys : List Stmt} (hc : CT X P0 O W E c t) (h1 : CSs X P0 O W U E xs m) (h2 : CSs X P0 O W U E ys n) : CS X P0 O W U E (.If c xs ys pos) (sIf t m n) := PS.imp (ps_if hc h1 h2) fun D σ H ⟨ρ, S, h⟩ =>
  ⟨ρ, S, (h.of_bind.down S.sub).mono fun ⟨k, ρ1⟩ q H1 S1 k1 => by
    cases k with
    | true =>
      exact (if_pos rfl).mpr ⟨ρ1, S1, (Res.keepT (show Res E O σ H (m ρ1) _ from q) (Tr.of (U := U) S.sub k1)).mono fun ⟨f2, ρ2⟩ q2 σ2 H2 S2 t2 l2 => (q2 σ2 H2 S2 ((Tr.of S.sub k1).trans t2) l2).back fun b e => k1.some b e⟩
    | false =>
      exact (if_neg Bool.false_ne_true).mpr ⟨ρ1, S1, (Res.keepT (show Res E O σ H (n ρ1) _ from q) (Tr.of (U := U) S.sub k1)).mono fun ⟨f2, ρ2⟩ q2 σ2 H2 S2 t2 l2 => (q2 σ2 H2 S2 ((Tr.of S.sub k1).trans t2) l2).back fun b e => k1.some b e⟩⟩
end
end Y

set_option Elab.async false
set_option linter.all false
set_option maxRecDepth 100000
namespace Y
open PySem PySem.Spec PyProof.Rows L2
section
variable {K : PySem.W.Frag} {X : Cx} {P0 : Pr} {O W U : List Nat} {E : EK} {a b c e tg iter : Expr} {es : List Expr} {ma mb mc : EM} {ms : AM} {pos : Pos} {st : Stmt} {sts : List Stmt} {m n : SM}
def sAsg (m : EM) (tm : GM) : SM := fun ρ => do
  let (h, ρ1) ← m ρ
  let d ← h.v.nox
  let ρ2 ← (tm d ρ1).nox
  pure (.nx, ρ2)
theorem Tr.slots {is : List Nat} {σ σ' : St} {H : Hp} (ho : ∀ i ∈ is, i ∉ O) (hu : ∀ i ∈ U, i ∈ O) (h : ∀ j, j ∉ is → σ'[j]? = σ[j]?) : Tr O U σ H σ' H :=
  ⟨fun _ _ e _ => e, fun _ e => e, fun b z => .inl ((OA_of (fun i hi => h i fun y => ho i y hi) b).mp z), fun i hi => h i fun y => ho i y (hu i hi)⟩
theorem tM_asg {tm : GM} {is : List Nat} (ho : ∀ i ∈ is, i ∉ O) (hu : ∀ i ∈ U, i ∈ O) (D : Ends) (σ : St) (H : Hp) (h : tSt K P0 O W U E (sAsg ma tm) D σ H) : tAsg (tM K P0 O W E ma) (tG K P0 O W tm is) D σ H := by
  obtain ⟨ρ, S, h⟩ := h
  refine ⟨ρ, S, (h.of_bind.down S.sub).mono fun ⟨hd, ρ1⟩ q v H1 S1 k1 r1 => ?_⟩
  obtain ⟨d, e1, q⟩ := q.of_nox
  obtain ⟨ρ2, e2, q⟩ := q.of_nox
  exact ⟨ρ1, d, ρ2, S1, r1.v e1, e2, fun σ' S' l h' => q σ' H1 S' ((Tr.of S.sub k1).trans (Tr.slots ho hu h')) l⟩
theorem cs_asg {tm : GM} {is : List Nat} (h : CEx X P0 O W E e ma) (hg : CG X P0 O W tg tm is) (ho : ∀ i ∈ is, i ∉ O := by decide) (hu : ∀ i ∈ U, i ∈ O := by decide) (hs : swapsWithSole [tg] e pos.line X.env = pure false := by rfl) (hw : swappedStores [tg] e X.env = pure none := by rfl) (h1 : (assignEach [tg] X.env).map (·.2) = [assign tg X.env] := by rfl) : CS X P0 O W U E (.Assign [tg] e pos) (sAsg ma tm) :=
  PS.imp (ps_asg h hg hs hw h1) (tM_asg ho hu)
/-- y = [.. for ..] on one line, y not captured -/
theorem cs_asgLc {i : Nat} {y : Str} {py : Pos} {elt : Expr} {ifs : List Expr} {scope : Scope} {own : List (Str × Nat)} {im : IM} {tm : GM} {t : BM} {me : EM} {is : List Nat} {p2 : Pos} (hc : X.calm = true) (hN : X.N.Nodup) (hy : X.N[i]? = some y) (hyl : X.env.scope.names.lookup y = some .local)
    (hsw : swapsWith (.ListComp elt [⟨tg, iter, ifs, 0⟩] scope pos) (some (.Name y py)) p2.line X.env = pure true) (hi : CI X P0 O W E tg iter im) (ok : BlkOk X.N X.env.scope scope own)
    (hg : ∀ (P0 : Pr) (s : Shared) (H : Hp) (C : Addr) (cl : List (Str × Addr)) (fp : List Addr), CG (X.blk s H scope (compEnvC scope cl C X.env) fp) P0 O W tg tm is)
    (ht : ∀ (s : Shared) (H : Hp) (C : Addr) (cl : List (Str × Addr)) (fp : List Addr), CTs (X.blk s H scope (compEnvC scope cl C X.env) fp) O W E00 ifs t)
    (he : ∀ (P0 : Pr) (s : Shared) (H : Hp) (C : Addr) (cl : List (Str × Addr)) (fp : List Addr), CEx (X.blk s H scope (compEnvC scope cl C X.env) fp) P0 O W E00 elt me)
    (hv : ∀ i ∈ is, i ∈ own.map (·.2) := by decide) (ho : ∀ i ∈ own.map (·.2), i ∉ O := by decide) (hi' : i ∉ O := by decide) (hu : ∀ i ∈ U, i ∈ O := by decide) (hs : ∀ x, foldedSetIterable iter X.env x = pure x := by intro _; rfl) :
    CS X P0 O W U E (.Assign [.Name y py] (.ListComp elt [⟨tg, iter, ifs, 0⟩] scope pos) p2) (sAsg (cComp im tm t me (own.map (·.2))) (tmName i)) :=
  PS.imp (ps_setLc (i := i) hc hN hy hyl hsw hi ok (fun s H C cl fp => PG.ex fun P0 => hg P0 s H C cl fp) ht (fun s H C cl fp => PE.ex fun P0 => he P0 s H C cl fp) hs) fun D σ H h => by
    have q := tM_asg (is := [i]) (by simpa using hi') hu D σ H h
    refine comp_core (im := im) (tm := tm) (t := t) (me := me) hv ho σ H _ ?_
    obtain ⟨ρ, S, q⟩ := q
    refine ⟨ρ, S, q.mono fun a q v H1 S1 k1 r1 => ?_⟩
    obtain ⟨ρ1, d, ρ2, S2, r, e, q⟩ := q v H1 S1 k1 r1
    cases e
    exact q _ (S2.set hi' r) (by simp) fun j hj => List.getElem?_set_ne fun z => hj (by simp [z])
noncomputable def sOwn (O W : List Nat) (m : EM) (i : Nat) : SM := fun ρ => do
  let (h, ρ1) ← m ρ
  match h with
  | .fr d => do
    let _ ← (chkO O W ρ ρ1).nox
    if d.ownable = true then pure (.nx, ρ1.set i (some d)) else .stk
  | _ => .stk
theorem tM_own {i : Nat} (hi : i ∈ O) (hu : i ∉ U) (D : Ends) (σ : St) (H : Hp) (h : tSt K P0 O W U E (sOwn O W ma i) D σ H) : tAsg (tM K P0 O W E ma) (gName i) D σ H := by
  obtain ⟨ρ, S, h⟩ := h
  refine ⟨ρ, S, (h.of_bind.down S.sub).mono fun ⟨hd, ρ1⟩ q v H1 S1 k1 r1 => ?_⟩
  cases hd with
  | vl d => exact q.elim
  | ow j => exact q.elim
  | fr d =>
    obtain ⟨_, e1, q⟩ := Res.of_nox (show Res E O σ H ((chkO O W ρ ρ1).nox >>= _) _ from q)
    have c := chkO_ok e1
    by_cases hd : d.ownable = true
    · rw [if_pos hd] at q
      have new : ∀ a, v = .ref a → H a = none ∧ isMut (H1 a) := fun a e => by
        subst e
        have r := r1.1
        have f := r1.2
        cases d with
        | lst ds =>
          unfold Rep at r
          obtain ⟨b, vs, e, h0, h1, h2⟩ := r
          cases e
          exact ⟨f rfl _ rfl, by rw [h1]; trivial⟩
        | non => unfold Rep at r; cases r
        | bl _ => unfold Rep at r; cases r
        | int _ => unfold Rep at r; cases r
        | str _ => unfold Rep at r; cases r
        | tup _ => cases hd
        | arg _ => cases hd
        | ftu _ => cases hd
        | tab _ _ => cases hd
        | dik _ _ => cases hd
        | dit _ _ => cases hd
      have S2 := S.setO S1 k1 c hi new (r1.1.own S1.dom hd fun b z => z)
      have gs : ∀ {b : Addr}, OA O (σ.set i (some v)) b → OA O σ b ∨ H b = none := fun {b} ⟨j, hj, e⟩ => by
        by_cases hij : i = j
        · subst hij
          have h1 : i < σ.length := by have := (List.getElem?_eq_some_iff.mp e).1; simpa using this
          rw [List.getElem?_set_self h1] at e
          cases e
          exact .inr (new b rfl).1
        · rw [List.getElem?_set_ne hij] at e
          exact .inl ⟨j, hj, e⟩
      exact q _ H1 S2 ⟨fun b o e n => k1.keep b o e fun z => n (S.oaw z), k1.some, fun b z => gs z, fun j hj => List.getElem?_set_ne fun (z : i = j) => hu (by rw [z]; exact hj)⟩ (by simp)
    · rw [if_neg hd] at q
      exact q.elim
theorem cs_own {i : Nat} {x : Str} {p : Pos} (hN : X.N.Nodup) (h : CEx X P0 O W E e ma) (hi : i ∈ O := by decide) (hu : i ∉ U := by decide) (hx : X.N[i]? = some x := by rfl) (hl : Loc X.env.scope x := by first | exact Or.inl rfl | exact Or.inr rfl) (hf : X.fn x = true ∨ X.env.scope.names.lookup x = some .local := by first | exact .inl rfl | exact .inr rfl)
    (hs : swapsWithSole [.Name x p] e pos.line X.env = pure false := by rfl) (hw : swappedStores [.Name x p] e X.env = pure none := by rfl) : CS X P0 O W U E (.Assign [.Name x p] e pos) (sOwn O W ma i) :=
  PS.imp (ps_asg h (pg_name hN hx hl hf) hs hw) (tM_own hi hu)
/-- few arguments, no stars -/
abbrev Few (X : Cx) (cp : Pos) (es : List Expr) : Prop := ((backTo cp (starEach es X.env)).all (fun x => !x.1) && (backToKw cp (keywordEach [] X.env)).all (fun x => x.1.isSome)
      && decide (es.length + ([] : List Keyword).length + (if ([] : List Keyword).isEmpty then 0 else 1) < 30)) = true
theorem Tr.ownW {i : Nat} {l : Addr} {o : HO} {σ : L2.St} {H H1 : Hp} (hs : ∀ i ∈ W, i ∈ O) (k : Keep W σ H H1) (hi : i ∈ O) (ha : σ[i]? = Option.some (Option.some (V.ref l))) : Tr O U σ H σ (upd H1 l o) where
  keep := fun b u e n => by
    rw [upd_ne fun (z : b = l) => n ⟨i, hi, by rw [z]; exact ha⟩]
    exact k.keep b u e fun ⟨j, hj, z⟩ => n ⟨j, hs j hj, z⟩
  some := fun b e => by
    by_cases hb : b = l
    · rw [hb, upd_same]; intro z; cases z
    · rw [upd_ne hb]; exact k.some b e
  own := fun _ z => .inl z
  unch := fun _ _ => rfl
/-- the list of an own slot -/
theorem Sim.lst {ρ : Env} {σ : St} {H : Hp} (S : Sim K P0 O W ρ σ H) {i : Nat} {ds : List D} (hi : i ∈ O) (e : ρ[i]? = some (some (.lst ds))) : ∃ l vs, σ[i]? = some (some (.ref l)) ∧ H l = some (.lst vs) ∧ Reps K H ds (FA P0 O σ) vs := by
  obtain ⟨v, h1, l, vs, rfl, h2, h3⟩ := S.own i _ e hi
  exact ⟨l, vs, h1, h2, h3⟩
/-- .. is given other items -/
theorem Sim.lstW {ρ : Env} {σ : St} {H : Hp} (S : Sim K P0 O W ρ σ H) {i : Nat} {l : Addr} {ds' : List D} {vs' vs : List V} (hi : i ∈ O) (ha : σ[i]? = some (some (.ref l))) (hl : H l = some (.lst vs)) (r : Reps K H ds' (FA P0 O σ) vs') : Sim K P0 O W (ρ.set i (some (.lst ds'))) σ (upd H l (.lst vs')) :=
  S.ownW hi ha trivial ⟨l, vs', rfl, upd_same, r.mono ds' S.dom (fun b o e n => by rw [upd_ne fun z => n (.inr ⟨i, hi, by rw [z]; exact ha⟩)]; exact e) fun b z => .inl z⟩
def lstAt (i : Nat) (ρ : Env) : R (List D) := match ρ[i]? with
  | some (some (.lst ds)) => .ok ds
  | _ => .stk
theorem lstAt_ok {i : Nat} {ρ : Env} {ds : List D} (h : lstAt i ρ = .ok ds) : ρ[i]? = some (some (.lst ds)) := by
  unfold lstAt at h
  split at h
  · rename_i e; cases h; exact e
  · cases h
/-- x.append(e) -/
def sAppend (i : Nat) (m : EM) : SM := fun ρ => do
  let _ ← (lstAt i ρ).nox
  let (h, ρ1) ← m ρ
  let d ← h.v.nox
  let ds ← (lstAt i ρ1).nox
  if szOk (ds.length + 1) = true then pure (.nx, ρ1.set i (some (.lst (ds ++ [d])))) else .stk
theorem tM_append {i : Nat} (hi : i ∈ O) (D : Ends) (σ : St) (H : Hp) (h : tSt K P0 O W U E (sAppend i ma) D σ H) : tDrop (tBM K "list" rAppend (tVar i) (tCons (tM K P0 O W E ma) tNil)) D σ H := by
  obtain ⟨ρ, S, h⟩ := h
  obtain ⟨ds0, e0, h⟩ := h.of_nox
  obtain ⟨l, vs0, h1, h2, _⟩ := S.lst hi (lstAt_ok e0)
  refine ⟨.ref l, h1, .inl ⟨rfl, _, SqL.of h2⟩, ρ, S, (h.of_bind.down S.sub).mono fun ⟨hd, ρ1⟩ q v H1 S1 k1 r1 => ?_⟩
  obtain ⟨d, e1, q⟩ := q.of_nox
  obtain ⟨ds, e2, q⟩ := q.of_nox
  obtain ⟨l', vs, h1', h3, h4⟩ := S1.lst hi (lstAt_ok e2)
  rw [h1] at h1'
  cases h1'
  by_cases c : szOk (ds.length + 1) = true
  · rw [if_pos c] at q
    have c := of_decide_eq_true c
    refine ⟨l, vs, v, rfl, rfl, h3, by rw [h4.length]; omega, ?_⟩
    exact q σ _ (S1.lstW hi h1 h3 (h4.append (Reps.cons (r1.v e1) Reps.nil))) (Tr.ownW S.sub k1 hi h1) rfl
  · rw [if_neg c] at q
    exact q.elim
theorem cs_append {i : Nat} {x : Str} {p ap cp : Pos} (h : CEx X P0 O W E e ma) (hi : i ∈ O := by decide) (hx : X.N[i]? = some x := by rfl) (hv : Vis X.env.scope x := by first | exact Or.inl rfl | exact Or.inr (Or.inl rfl) | exact Or.inr (Or.inr rfl)) (hd : (x == ("__debug__" : Str)) = false := by decide) (hcd : (x == ("__classdict__" : Str)) = false := by decide)
    (he : starEach [e] X.env = (false, eval e X.env) :: starEach [] X.env := by rfl) (hpl : (backTo cp (starEach [] X.env)).any (·.1) = false := by rfl) (hbase : attributeBase (.Name x p) "append" X.env (eval (.Name x p) X.env) = eval (.Name x p) X.env := by rfl) (hline : (ap.endLine == cp.line) = true := by rfl)
    (hfew : Few X cp [e] := by rfl) (hsw : swapsWith (.Call (.Attribute (.Name x p) "append" ap) [e] [] cp) none pos.line X.env = pure false := by rfl) :
    CS X P0 O W U E (.Expr (.Call (.Attribute (.Name x p) "append" ap) [e] [] cp) pos) (sAppend i ma) :=
  PS.imp (ps_expr (pe_bm PySem.F.plainAttrs_list PySem.F.slot_list_append PySem.F.type_list_append mt_append (pe_var (i := i) hx hv hd hcd) (pa_cons h pa_nil he) hbase hfew hline he hpl) hsw) (tM_append hi)
end
end Y

set_option Elab.async false
set_option linter.all false
set_option maxRecDepth 100000
namespace Y
open PySem PySem.Spec PyProof.Rows L2
section
variable {K : PySem.W.Frag} {X : Cx} {P0 : Pr} {O W U : List Nat} {E : EK} {a b c e tg iter : Expr} {es : List Expr} {ma mb mc : EM} {ms : AM} {pos : Pos} {st : Stmt} {sts : List Stmt} {m n : SM}
def sSetIx (i : Nat) (mk mv : EM) : SM := fun ρ => do
  let (h, ρ1) ← mv ρ
  let d ← h.v.nox
  let _ ← (lstAt i ρ1).nox
  let (h2, ρ2) ← mk ρ1
  let k ← h2.v.nox
  match k with
  | .int z => do
    let ds ← (lstAt i ρ2).nox
    match ixN ds.length z with
    | some j => pure (.nx, ρ2.set i (some (.lst (ds.set j d))))
    | none => .stk
  | _ => .stk
theorem Reps.set {H : Hp} {P : Pr} {d : D} {v : V} (r : Rep K H d P v) : ∀ {ds : List D} {vs : List V} (j : Nat), Reps K H ds P vs → Reps K H (ds.set j d) P (vs.set j v)
  | [], _, j, h => by rw [h.nil_iff]; exact Reps.nil
  | x :: xs, _, 0, h => by
    obtain ⟨w, ws, rfl, h1, h2⟩ := h.cons_iff
    exact Reps.cons r h2
  | x :: xs, _, j + 1, h => by
    obtain ⟨w, ws, rfl, h1, h2⟩ := h.cons_iff
    exact Reps.cons h1 (Reps.set r j h2)
theorem cs_setix {i : Nat} {x : Str} {p sp : Pos} {k : Expr} {mk : EM} (h : CEx X P0 O W E e ma) (hk : CEx X P0 O W E k mk) (hi : i ∈ O := by decide) (hx : X.N[i]? = some x := by rfl) (hv : Vis X.env.scope x := by first | exact Or.inl rfl | exact Or.inr (Or.inl rfl) | exact Or.inr (Or.inr rfl)) (hd : (x == ("__debug__" : Str)) = false := by decide) (hcd : (x == ("__classdict__" : Str)) = false := by decide)
    (hs : swapsWithSole [.Subscript (.Name x p) k sp] e pos.line X.env = pure false := by rfl) (hw : swappedStores [.Subscript (.Name x p) k sp] e X.env = pure none := by rfl) (h1 : (assignEach [.Subscript (.Name x p) k sp] X.env).map (·.2) = [assign (.Subscript (.Name x p) k sp) X.env] := by rfl)
    (hb : ∀ v, assign (.Subscript (.Name x p) k sp) X.env v = (do
      let ov ← holding [v] (eval (.Name x p) X.env)
      let iv ← holding [v, ov] (eval k X.env)
      standAt sp
      holding [v, ov, iv] (setItem ov iv v)
      release [v, ov, iv] []) := by intro _; rfl) :
    CS X P0 O W U E (.Assign [.Subscript (.Name x p) k sp] e pos) (sSetIx i mk ma) := PS.imp (ps_asg h (pg_sub (pe_var (i := i) hx hv hd hcd) hk set_list hb) hs hw h1) fun D σ H ⟨ρ, S, h⟩ => by
  refine ⟨ρ, S, (h.of_bind.down S.sub).mono fun ⟨hd, ρ1⟩ q v H1 S1 k1 r1 => ?_⟩
  obtain ⟨d, e1, q1⟩ := q.of_nox
  obtain ⟨ds0, e0, q2⟩ := q1.of_nox
  obtain ⟨l, vs0, h1, h2, _⟩ := S1.lst hi (lstAt_ok e0)
  refine ⟨.ref l, h1, ρ1, S1, ((q2.of_bind.down S1.sub).keep k1).mono fun ⟨hd2, ρ2⟩ q3 w H2 S2 k2 r2 => ?_⟩
  obtain ⟨dk, e2, q4⟩ := q3.of_nox
  have rk := r2.v e2
  cases dk <;> first | (exact q4.elim) | skip
  rename_i z
  unfold Rep at rk
  subst rk
  obtain ⟨ds, e3, q5⟩ := Res.of_nox (show Res E O σ H ((lstAt i ρ2).nox >>= _) _ from q4)
  obtain ⟨l', vs, h1', h3, h4⟩ := S2.lst hi (lstAt_ok e3)
  rw [h1] at h1'
  cases h1'
  cases ej : ixN ds.length z with
  | none => rw [ej] at q5; exact q5.elim
  | some j =>
    rw [ej] at q5
    refine ⟨l, vs, z, j, rfl, rfl, h3, by rw [h4.length]; exact ej, ?_⟩
    exact q5 σ _ (S2.lstW hi h1 h3 (Reps.set (S1.rep k2 (r1.v e1)) j h4)) (Tr.ownW S.sub (k1.trans k2) hi h1) rfl
noncomputable def forL (tm : GM) (body : SM) (vs ws : List Nat) : List D → Env → R (Fl × Env)
  | [], ρ => .ok (.nx, ρ)
  | x :: xs, ρ => do
    let ρ1 ← (tm x ρ).nox
    let (f, ρ2) ← body ρ1
    match f with
    | .bk => pure (.nx, ρ2)
    | .rt h => pure (.rt h, ρ2)
    | _ => do
      let _ ← (chk ws ρ (wipeE ρ2 vs)).nox
      forL tm body vs ws xs (wipeE ρ2 vs)
noncomputable def sFor (U : List Nat) (im : IM) (tm : GM) (body : SM) (vs : List Nat) : SM := fun ρ => do
  let ((ds, ws), ρ1) ← im ρ
  if (ws.all fun w => U.contains w) = true then forL tm body vs ws ds ρ1 else .stk
theorem for_core {im : IM} {tm : GM} {is vs U' : List Nat} (ho : ∀ i ∈ is, i ∉ O) (hu : ∀ i ∈ U', i ∈ O) (hu' : ∀ i ∈ U, i ∈ U') (D : Ends) (σ : L2.St) (H : Hp) (h : tSt X.K P0 O W U E (sFor U' im tm m vs) D σ H) : tFor (tMi X.K P0 O W E im) (tG X.K P0 O W tm is) (tSt X.K P0 O W U' E m) D σ H := by
  obtain ⟨ρ, S, h⟩ := h
  refine ⟨ρ, S, (h.of_bind.down S.sub).mono fun ⟨⟨ds, ws⟩, ρ1⟩ q J H1 Ok S1 k1 src ok hz => ?_⟩
  have src : Src X.K O W ds ws J Ok := src
  have q : Res E O σ H (if (ws.all fun w => U'.contains w) = true then forL tm m vs ws ds ρ1 else .stk) _ := q
  by_cases hw : (ws.all fun w => U'.contains w) = true
  · rw [if_pos hw] at q
    have hw : ∀ w ∈ ws, w ∈ U' := fun w hw' => by simpa using List.all_eq_true.mp hw w hw'
    have t1 : Tr O U σ H σ H1 := Tr.of S.sub k1
    let Post : Fl × Env → Prop := fun a => ∀ σ' H', Sim X.K P0 O W a.2 σ' H' → Tr O U σ H σ' H' → σ'.length = σ.length → Fin X.K P0 O H D σ' H' a.1
    let I : Nat → L2.St → Hp → Prop := fun i σx Hx => i ≤ ds.length ∧ ∃ ρx, Sim X.K P0 O W ρx σx Hx ∧ Ok P0 ρx σx Hx ∧ Tr O U σ H σx Hx ∧ σx.length = σ.length ∧ Res E O σx Hx (forL tm m vs ws (ds.drop i) ρx) Post
    refine ⟨fun i k σx Hx => k = ds.length - i ∧ I i σx Hx, ⟨ds.length, by simp, Nat.zero_le _, ρ1, S1, ok, t1, rfl, Res.keepT (show Res E O σ H (forL tm m vs ws ds ρ1) Post from q) t1⟩, ?_⟩
    rintro i k σx Hx ⟨rfl, hil, ρx, Sx, okx, tx, lx, qx⟩
    by_cases hlt : i < ds.length
    · right
      refine ⟨src.go P0 i ρx σx Hx Sx okx hlt, I (i + 1), fun σ' H' p' => ⟨ds.length - (i + 1), by omega, rfl, p'⟩, fun x' H' y => ?_⟩
      obtain ⟨sm, rx⟩ := src.yld P0 i ρx σx Hx x' H' ds[i] Sx okx (List.getElem?_eq_getElem hlt) y
      rw [List.drop_eq_getElem_cons hlt] at qx
      unfold forL at qx
      obtain ⟨ρa, e1, qx⟩ := qx.of_nox
      refine ⟨ρx, ds[i], ρa, Sx.same sm, rx, e1, fun σ2 S2 l2 ag => ?_⟩
      have t2 : Tr O U' σx Hx σ2 H' := Tr.trans (σ1 := σx) (H1 := H') ⟨fun b o e _ => sm b o e, Same.some sm, fun _ z => .inl z, fun _ _ => rfl⟩ (Tr.slots ho hu ag)
      refine ⟨ρa, S2, (Res.keepT qx.of_bind t2).mono fun ⟨f, ρ2⟩ q3 σ3 H3 S3 t3 l3 => ?_⟩
      have t4 : Tr O U' σx Hx σ3 H3 := t2.trans t3
      have t5 : Tr O U σ H σ3 H3 := tx.trans (t4.less hu')
      have l5 : σ3.length = σ.length := l3.trans (l2.trans lx)
      have next : Res E O σx Hx (do let _ ← (chk ws ρx (wipeE ρ2 vs)).nox; forL tm m vs ws (ds.drop (i + 1)) (wipeE ρ2 vs)) Post → I (i + 1) σ3 H3 := fun q4 => by
        obtain ⟨_, e4, q5⟩ := Res.of_nox (show Res E O σx Hx ((chk ws ρx (wipeE ρ2 vs)).nox >>= fun _ => forL tm m vs ws (ds.drop (i + 1)) (wipeE ρ2 vs)) Post from q4)
        refine ⟨hlt, wipeE ρ2 vs, S3.wipe vs, ?_, t5, l5, Res.keepT q5 t4⟩
        refine src.keep P0 ρx σx Hx _ σ3 H3 Sx (fun b o e n => t4.keep b o e fun z => n (.inr z)) (fun b z => ?_) (fun w hw' => ⟨t4.unch w (hw w hw'), chk_ok e4 w hw'⟩) okx
        rcases z with z | z
        · exact .inl (.inl z)
        · exact (t4.own b z).imp .inr id
      cases f with
      | nx => exact next q3
      | ct => exact next q3
      | bk => exact q3 σ3 H3 S3 t5 l5
      | rt hd =>
        intro v r
        exact q3 σ3 H3 S3 t5 l5 v (r.back fun b e => Same.some sm b (tx.some b e))
    · left
      have ei : i = ds.length := by omega
      subst ei
      rw [List.drop_length] at qx
      exact ⟨src.stop P0 ρx σx Hx Sx okx, qx σx Hx Sx tx lx⟩
  · rw [if_neg hw] at q
    exact q.elim
theorem cs_for {im : IM} {tm : GM} {is vs U' : List Nat} {xs : List Stmt} (hp : PassesOwn (model X.prog X.w) X.A X.env X.xe) (hc : X.calm = true) (hi : CI X P0 O W E tg iter im) (hg : CG X P0 O W tg tm is) (hb : CSs X P0 O W U' E xs m) (ho : ∀ i ∈ is, i ∉ O := by decide) (hu : ∀ i ∈ U', i ∈ O := by decide) (hu' : ∀ i ∈ U, i ∈ U' := by decide)
    (hs : ∀ x, foldedSetIterable iter X.env x = pure x := by intro _; rfl) : CS X P0 O W U E (.For tg iter xs [] pos) (sFor U' im tm m vs) := PS.imp (ps_for hp hc hi hg hb hs) (for_core ho hu hu')
end
end Y

set_option Elab.async false
set_option linter.all false
set_option maxRecDepth 100000
namespace Y
open PySem PySem.Spec PyProof.Rows L2

theorem passN {X : Cx} : Passes (L2N.CX X.prog X.w) X E0 := fun _ _ _ _ _ _ _ q => by
  rcases q with ⟨_, _, _, _, _, _, _, _, _, _, _, _, f⟩
  exact False.elim f
theorem okN {P : Program} {w : World} {K : PySem.W.Frag} {mg : Str → Option Value} {base : Heap} {x qual : Str} {st : Stmt} {f : Addr} {fd : FuncData} {N ps : List Str} {k : Nat} {sp : Sp} (F : Fun K x qual st f fd) (S : FnScope N ps (defScope st)) (hlen : ∀ vs H Q E, sp vs H Q E → vs.length = ps.length)
    (hb : ∀ (cdv : Value) (A : Around) (outer : List PySem.Env) (s : Shared) (H : Hp) (vs : List V) (Q : VK) (E : XK), Room k (A.deeper (envOfC qual (defScope st) s.heap.objs.size f cdv)) → sp vs H Q E →
      ∃ t, PSs (cxOf (L2N.CX P w) P w K mg base N qual (defScope st) f cdv A outer s H E) (defBody st) t ∧ t { nx := fun _ H' => Q .non H', rt := Q } (L2.start N vs) H) : FnOk P w K mg base (L2N.CX P w) (k + 1) f fd ps sp := by
  rcases F.ex with ⟨_, _, _, _, _, _, cd, _, _, rfl, look, code⟩
  exact fn_of look code S hlen fun A outer s H vs Q E => hb cd A outer s H vs Q E

/-- an exception of the program's own, made with a text; or one that bears a number as its row -/
def exE (mg : Str → Option Value) (E : XK) : EK := fun c ds H => (ds = [] ∧ ∃ C, mg c = some (.ref C) ∧ E (.ref C) none H) ∨
  ∃ k : Int, ds = [.int k] ∧ ∃ C, mg c = some (.ref C) ∧ ∀ d, H d = none → E (.ref C) (some d) (upd H d (.xd [("row", .int k)]))
abbrev Fn := List D → R (Hd × Env)
/-- O: the parameters whose lists it may change -/
def spD (K : PySem.W.Frag) (mg : Str → Option Value) (np : Nat) (O : List Nat) (g : Fn) : Sp := fun vs H Q E => vs.length = np ∧ ∃ ds P0, Sim K P0 O [] (ds.map some) (vs.map some) H ∧ ds.length = np ∧
  Res (exE mg E) O (vs.map some) H (g ds) fun a => ∀ v H', Keep O (vs.map some) H H' → Sim K P0 O [] a.2 (vs.map some) H' → HdR K P0 O H (vs.map some) H' a.1 v → Q v H'
structure Glo (P : Program) (w : World) (K : PySem.W.Frag) (mg : Str → Option Value) (base : Heap) (name : Str) (k np : Nat) (O : List Nat) (g : Fn) : Prop where
  ex : ∃ f fd ps, mg name = some (.ref f) ∧ PySem.W.keepIn K (.ref f) = true ∧ Binds K fd ps [] ∧ ps.length = np ∧ FnOk P w K mg base (L2N.CX P w) k f fd ps (spD K mg np O g)
/-- exceptions of callees reach what is wanted here -/
structure Out2 (X : Cx) (E : EK) (XE : XK) : Prop where
  pass : Passes (L2N.CX X.prog X.w) X XE
  ex : ∀ c ds H, E c ds H → exE X.mg XE c ds H
theorem Out2.blk {X : Cx} : Out2 X E00 E0 := ⟨passN, fun _ _ _ h => h.elim⟩
def pureF (g : List D → R Hd) : Fn := fun ds => do
  let h ← g ds
  pure (h, [])
section
variable {K : PySem.W.Frag} {P0 : Pr} {O W : List Nat} {ρ : Env} {σ : St} {H H' : Hp}
theorem FA_nil {τ : St} (b : Addr) : FA P0 [] τ b ↔ P0 b := ⟨fun z => z.elim id (fun ⟨_, h, _⟩ => (nomatch h)), .inl⟩
theorem Keep.nil {τ : St} (k : Keep [] τ H H') : Same H H' := fun b o e => k.keep b o e fun ⟨_, h, _⟩ => nomatch h
/-- the callee's state where no parameter is its own -/
theorem sim_args {ds : List D} {vs : List V} (hm : ∀ b, P0 b → isMut (H b)) (r : Reps K H ds P0 vs) : Sim K P0 [] [] (ds.map some) (vs.map some) H where
  sub := fun _ h => nomatch h
  len := by rw [List.length_map, List.length_map, r.length]; exact Nat.le_refl _
  dom := fun b z => hm b ((FA_nil b).mp z)
  val := fun i d e _ => by
    rw [List.getElem?_map] at e
    cases q : ds[i]? with
    | none => rw [q] at e; cases e
    | some d' =>
      rw [q] at e; cases e
      obtain ⟨v, e1, r1⟩ := r.get q
      exact ⟨v, by rw [List.getElem?_map, e1]; rfl, r1.less hm fun b z => (FA_nil b).mp z⟩
  own := fun i d e h => nomatch h
  sep := fun _ _ _ h => nomatch h
  sep0 := fun a ⟨_, h, _⟩ => nomatch h
end
section
variable {X : Cx} {P0 : Pr} {O W U : List Nat} {E : EK} {XE : XK} {a b c e : Expr} {es : List Expr} {ma mb mc : EM} {ms : AM} {pos : Pos} {k np : Nat} {name : Str}
/-- f(..), no argument's list is changed -/
def cCallF (g : List D → R Hd) (m : AM) : EM := fun ρ => do
  let (hs, ρ1) ← m ρ
  let ds ← (vsOf hs).nox
  let h ← g ds
  match h with
  | .ow _ => .stk
  | h => pure (h, ρ1)
theorem tM_callF {g : List D → R Hd} (hE : ∀ c ds H, E c ds H → exE X.mg XE c ds H) (σ : St) (H : Hp) (Q : VK) (len : ∀ σ H Q, tMs X.K P0 O W E ms σ H Q → True) (h : tM X.K P0 O W E (cCallF g ms) σ H Q) (hl : ∀ ρ hs ρ1, ms ρ = .ok (hs, ρ1) → hs.length = np) :
    tCall (spD X.K X.mg np [] (pureF g)) [] XE (tMs X.K P0 O W E ms) σ H Q := by
  obtain ⟨ρ, S, h⟩ := h
  refine ⟨ρ, S, ?_⟩
  cases em : ms ρ with
  | stk => unfold cCallF at h; rw [em] at h; exact h.elim
  | er c ds => unfold cCallF at h; rw [em] at h; exact h
  | ok p =>
    obtain ⟨hs, ρ1⟩ := p
    unfold cCallF at h
    rw [em] at h
    intro vs H1 S1 k1 r1
    obtain ⟨ds, e1, q⟩ := Res.of_nox (show Res E W σ H ((vsOf hs).nox >>= _) _ from h)
    have rr := HdRs.vs r1 e1
    have lv : vs.length = np := by
      have : ∀ {hs : List Hd} {vs : List V}, HdRs X.K P0 O H σ H1 hs vs → vs.length = hs.length := fun {hs} => by
        induction hs with
        | nil => intro vs r; have r : vs = [] := r; rw [r]; rfl
        | cons h hs ih => intro vs ⟨v, ws, e, _, r2⟩; rw [e, List.length_cons, List.length_cons, ih r2]
      rw [this r1]
      exact hl ρ hs ρ1 em
    rw [List.append_nil]
    refine ⟨lv, ds, FA P0 O σ, sim_args S1.dom rr, by rw [← rr.length]; exact lv, ?_⟩
    have q := q.keep k1
    unfold pureF
    cases eg : g ds with
    | stk => rw [eg] at q; exact q.elim
    | er c xs =>
      rw [eg] at q
      exact fun H' kp => hE c xs H' (q H' (Keep.same kp.nil))
    | ok hd =>
      rw [eg] at q
      intro v H2 k2 _ r2
      have sm := Keep.nil k2
      cases hd with
      | ow j => exact q.elim
      | fr d => exact q v H2 (S1.same sm) (k1.trans (Keep.same sm)) ⟨r2.1.less (fun b z => (S1.same sm).dom b ((FA_nil b).mp z)) fun b z => .inl z, fun m a e => Classical.byContradiction fun z => k1.some a z (r2.2 m a e)⟩
      | vl d => exact q v H2 (S1.same sm) (k1.trans (Keep.same sm)) (Rep.less (fun b z => (S1.same sm).dom b ((FA_nil b).mp z)) r2 fun b z => .inl z)
/-- the number of arguments -/
def ALen (m : AM) (n : Nat) : Prop := ∀ ρ hs ρ1, m ρ = .ok (hs, ρ1) → hs.length = n
theorem alen_nil : ALen cNil 0 := fun ρ hs ρ1 h => by cases h; rfl
theorem alen_cons {n : Nat} (h : ALen ms n) : ALen (cCons ma ms) (n + 1) := fun ρ hs ρ1 e => by
  obtain ⟨⟨h1, ρa⟩, e1, e⟩ := R.ok_of e
  obtain ⟨⟨h2, ρb⟩, e2, e⟩ := R.ok_of e
  cases e
  rw [List.length_cons, h _ _ _ e2]
theorem ce_call {g : List D → R Hd} {p : Pos} (G : Glo X.prog X.w X.K X.mg X.base name k np [] (pureF g)) (o : Out2 X E XE) (hr : Room k X.A) (ha : CA X P0 O W E (e :: es) ms) (hl : ALen ms np) (hg : Gl X name := by rfl) (hdb : (name == ("__debug__" : Str)) = false := by decide)
    (he : starEach (e :: es) X.env = (false, eval e X.env) :: starEach es X.env := by rfl) (hpl : (backTo pos (starEach es X.env)).any (·.1) = false := by rfl) : CEx X P0 O W E (.Call (.Name name p) (e :: es) [] pos) (cCallF g ms) := by
  obtain ⟨f, fd, ps, hm, hk, hb, _, F⟩ := G.ex
  exact PE.imp (pe_call F hr hg hm hk hb .nil o.pass ha hdb he hpl) fun σ H Q h => tM_callF o.ex σ H Q (fun _ _ _ _ => trivial) h hl
end
end Y

set_option Elab.async false
set_option linter.all false
set_option maxRecDepth 100000
namespace Y
open PySem PySem.Spec PyProof.Rows L2

def retH (np : Nat) : Fl → Env → R Hd
  | .nx, _ => .ok (.fr .non)
  | .rt (.ow i), ρ => if np ≤ i then (do
      let d ← (look i ρ).nox
      pure (.fr d)) else .stk
  | .rt h, _ => .ok h
  | _, _ => .stk
def outs (O : List Nat) (np : Nat) (ρ : Env) : Env := (List.range np).map fun i => if O.contains i = true then ρ.getD i none else none
def fnD (np n : Nat) (O : List Nat) (m : SM) : Fn := fun ds => do
  let (f, ρ) ← m (ds.map some ++ List.replicate (n - np) none)
  let h ← (retH np f ρ).nox
  pure (h, outs O np ρ)
section
variable {K : PySem.W.Frag} {mg : Str → Option Value} {P0 : Pr} {O Oc W U : List Nat} {ρ : Env} {σ : St} {H H' : Hp} {d : D} {v : V} {np n : Nat}
theorem RepO.less {P P' : Pr} (hm : ∀ b, P b → isMut (H b)) (h : RepO K H d P v) (hp : ∀ b, P' b → P b) : RepO K H d P' v := h.mono hm (fun _ _ e _ => e) (fun b z => .inl (hp b z)) fun _ _ _ e => e
/-- an own slot's object, told on -/
theorem RepO.rep {P P' : Pr} (hm : ∀ b, P b → isMut (H b)) (h : RepO K H d P v) (hp : ∀ b, P' b → P b) (ha : ∀ a, v = .ref a → ¬ P' a ∧ P a) : Rep K H d P' v := by
  cases d with
  | lst ds =>
    obtain ⟨a, vs, rfl, h1, h2⟩ := h
    unfold Rep
    exact ⟨a, vs, rfl, (ha a rfl).1, h1, h2.less hm fun b z => z.elim (hp b) fun z => by rw [z]; exact (ha a rfl).2⟩
  | dik ks ds =>
    obtain ⟨a, vs, rfl, hl, h1, h2⟩ := h
    unfold Rep
    exact ⟨a, vs, rfl, (ha a rfl).1, hl, .inl h1, h2.less hm fun b z => z.elim (hp b) fun z => by rw [z]; exact (ha a rfl).2⟩
  | dit ks ds =>
    obtain ⟨a, vs, rfl, hl, h1, h2⟩ := h
    unfold Rep
    exact ⟨a, vs, rfl, (ha a rfl).1, hl, .inl h1, h2.less hm fun b z => z.elim (hp b) fun z => by rw [z]; exact (ha a rfl).2⟩
  | non => unfold Rep; exact h
  | bl _ => unfold Rep; exact h
  | int _ => unfold Rep; exact h
  | str _ => unfold Rep; exact h
  | tup _ => exact False.elim h
  | arg _ => exact False.elim h
  | ftu _ => exact False.elim h
  | tab p q =>
    obtain ⟨a, rfl, ht⟩ := h
    unfold Rep
    exact ⟨a, rfl, (ha a rfl).1, ht⟩
theorem start_get {N : List Str} {vs : List V} {i : Nat} {v : V} (h : (L2.start N vs)[i]? = some (some v)) : vs[i]? = some v := by
  unfold L2.start at h
  by_cases hi : i < vs.length
  · rw [List.getElem?_append_left (by simpa using hi), List.getElem?_map] at h
    cases e : vs[i]? with
    | none => rw [e] at h; cases h
    | some a => rw [e] at h; cases h; rfl
  · rw [List.getElem?_append_right (by simpa using hi), List.getElem?_replicate] at h
    split at h <;> cases h
theorem start_of {N : List Str} {vs : List V} {i : Nat} {v : V} (h : vs[i]? = some v) : (L2.start N vs)[i]? = some (some v) := by
  unfold L2.start
  have hi : i < vs.length := (List.getElem?_eq_some_iff.mp h).1
  rw [List.getElem?_append_left (by simpa using hi), List.getElem?_map, h]
  rfl
theorem env_get {ds : List D} {k i : Nat} {d : D} (h : (ds.map some ++ List.replicate k none)[i]? = some (some d)) : ds[i]? = some d := by
  by_cases hi : i < ds.length
  · rw [List.getElem?_append_left (by simpa using hi), List.getElem?_map] at h
    cases e : ds[i]? with
    | none => rw [e] at h; cases h
    | some a => rw [e] at h; cases h; rfl
  · rw [List.getElem?_append_right (by simpa using hi), List.getElem?_replicate] at h
    split at h <;> cases h
theorem map_get {α : Type} {ds : List α} {i : Nat} {d : α} : (ds.map some)[i]? = some (some d) ↔ ds[i]? = some d := by
  rw [List.getElem?_map]
  cases ds[i]? <;> simp
theorem OA_start {N : List Str} {vs : List V} (hO : ∀ i, i ∈ O ↔ i ∈ Oc ∧ i < np) (hl : vs.length = np) (b : Addr) : OA Oc (L2.start N vs) b ↔ OA O (vs.map some) b := by
  constructor
  · rintro ⟨i, hi, e⟩
    have e := start_get e
    exact ⟨i, (hO i).mpr ⟨hi, by rw [← hl]; exact (List.getElem?_eq_some_iff.mp e).1⟩, map_get.mpr e⟩
  · rintro ⟨i, hi, e⟩
    exact ⟨i, ((hO i).mp hi).1, start_of (map_get.mp e)⟩
theorem sim_start {N : List Str} {ds : List D} {vs : List V} (S : Sim K P0 O [] (ds.map some) (vs.map some) H) (hO : ∀ i, i ∈ O ↔ i ∈ Oc ∧ i < np) (hW : ∀ i ∈ W, i ∈ Oc) (hl : vs.length = np) (hd : ds.length = np) (hn : N.length = n) : Sim K P0 Oc W (ds.map some ++ List.replicate (n - np) none) (L2.start N vs) H := by
  have fa : ∀ b, FA P0 Oc (L2.start N vs) b → FA P0 O (vs.map some) b := fun b z => z.imp id (OA_start hO hl b).mp
  refine ⟨hW, by unfold L2.start; simp; omega, fun b z => S.dom b (fa b z), fun i d e n => ?_, fun i d e n => ?_, fun i j a hi hj e1 e2 => ?_, fun a z => S.sep0 a ((OA_start hO hl a).mp z)⟩
  · obtain ⟨v, h1, h2⟩ := S.val i d (map_get.mpr (env_get e)) fun z => n ((hO i).mp z).1
    exact ⟨v, start_of (map_get.mp h1), h2.less S.dom fa⟩
  · have e := env_get e
    have hi : i < np := by rw [← hd]; exact (List.getElem?_eq_some_iff.mp e).1
    obtain ⟨v, h1, h2⟩ := S.own i d (map_get.mpr e) ((hO i).mpr ⟨n, hi⟩)
    exact ⟨v, start_of (map_get.mp h1), h2.less S.dom fa⟩
  · have e1 := start_get e1
    have e2 := start_get e2
    have l1 : i < np := by rw [← hl]; exact (List.getElem?_eq_some_iff.mp e1).1
    have l2 : j < np := by rw [← hl]; exact (List.getElem?_eq_some_iff.mp e2).1
    exact S.sep i j a ((hO i).mpr ⟨hi, l1⟩) ((hO j).mpr ⟨hj, l2⟩) (map_get.mpr e1) (map_get.mpr e2)
theorem outs_get {i : Nat} (h : (outs O np ρ)[i]? = some (some d)) : i ∈ O ∧ i < np ∧ ρ[i]? = some (some d) := by
  unfold outs at h
  rw [List.getElem?_map] at h
  cases e : (List.range np)[i]? with
  | none => rw [e] at h; cases h
  | some j =>
    rw [e] at h
    have hi := (List.getElem?_eq_some_iff.mp e).1
    have hj : j = i := by
      obtain ⟨h1, h2⟩ := List.getElem?_eq_some_iff.mp e
      simpa using h2.symm
    subst hj
    simp only [Option.map_some, Option.some.injEq] at h
    split at h
    · rename_i c
      refine ⟨by simpa using c, by simpa using hi, ?_⟩
      rw [List.getD_eq_getElem?_getD] at h
      cases q : ρ[j]? with
      | none => rw [q] at h; cases h
      | some o => rw [q] at h; simp at h; rw [h]
    · cases h
/-- THE RULE for a def -/
theorem fnD_ok {P : Program} {w : World} {base : Heap} {x qual : Str} {st : Stmt} {f : Addr} {fd : FuncData} {N ps : List Str} {k : Nat} {m : SM} (F : Fun K x qual st f fd) (S : FnScope N ps (defScope st)) (hp : ps.length = np) (hn : N.length = n) (hO : ∀ i, i ∈ O ↔ i ∈ Oc ∧ i < np) (hW : ∀ i ∈ W, i ∈ Oc) (hU : ∀ i ∈ O, i ∈ U)
    (hb : ∀ (cdv : Value) (A : Around) (outer : List PySem.Env) (s : Shared) (H : Hp) (E : XK) (P0 : Pr), Room k (A.deeper (envOfC qual (defScope st) s.heap.objs.size f cdv)) → CSs (cxOf (L2N.CX P w) P w K mg base N qual (defScope st) f cdv A outer s H E) P0 Oc W U (exE mg E) (defBody st) m) :
    FnOk P w K mg base (L2N.CX P w) (k + 1) f fd ps (spD K mg np O (fnD np n O m)) := by
  refine okN F S (fun vs H Q E h => by rw [h.1, hp]) fun cdv A outer s H vs Q E hr h => ?_
  obtain ⟨hl, ds, P0, S0, hd, h⟩ := h
  refine ⟨_, hb cdv A outer s H E P0 hr, _, sim_start S0 hO hW hl hd hn, ?_⟩
  have oa := fun b => OA_start (N := N) hO hl b
  have kO : ∀ {H'}, Keep Oc (L2.start N vs) H H' → Keep O (vs.map some) H H' := fun {H'} k => ⟨fun b o e nn => k.keep b o e fun z => nn ((oa b).mp z), k.some⟩
  unfold fnD at h
  cases em : m (ds.map some ++ List.replicate (n - np) none) with
  | stk => rw [em] at h; exact h.elim
  | er c xs => rw [em] at h; exact fun H' kp => h H' (kO kp)
  | ok p =>
    obtain ⟨fl, ρ1⟩ := p
    rw [em] at h
    obtain ⟨hh, e1, h⟩ := Res.of_nox (show Res (exE mg E) O (vs.map some) H ((retH np fl ρ1).nox >>= _) _ from h)
    intro σ' H' S' t' l'
    have h : ∀ v H', Keep O (vs.map some) H H' → Sim K P0 O [] (outs O np ρ1) (vs.map some) H' → HdR K P0 O H (vs.map some) H' hh v → Q v H' := h
    have un : ∀ i ∈ O, σ'[i]? = (L2.start N vs)[i]? := fun i hi => t'.unch i (hU i hi)
    have pre : ∀ {i : Nat} {v : V}, i ∈ O → (σ'[i]? = some (some v) ↔ (vs.map some)[i]? = some (some v)) := fun {i v} hi => by
      rw [un i hi]
      exact ⟨fun e => map_get.mpr (start_get e), fun e => start_of (map_get.mp e)⟩
    have oO : ∀ b, OA O (vs.map some) b → OA Oc σ' b := fun b ⟨i, hi, e⟩ => ⟨i, ((hO i).mp hi).1, (pre hi).mpr e⟩
    have fa : ∀ b, FA P0 O (vs.map some) b → FA P0 Oc σ' b := fun b z => z.imp id (oO b)
    have kk : Keep O (vs.map some) H H' := ⟨fun b o e nn => t'.keep b o e fun z => nn ((oa b).mp z), t'.some⟩
    have so : Sim K P0 O [] (outs O np ρ1) (vs.map some) H' := by
      refine ⟨fun _ z => (nomatch z), by unfold outs; simp [hl], fun b z => S'.dom b (fa b z), fun i d e nn => absurd (outs_get e).1 nn, fun i d e hi => ?_, S0.sep, S0.sep0⟩
      obtain ⟨_, _, e2⟩ := outs_get e
      obtain ⟨v, h1, h2⟩ := S'.own i d e2 ((hO i).mp hi).1
      exact ⟨v, (pre hi).mp h1, h2.less S'.dom fa⟩
    cases fl with
    | bk => cases e1
    | ct => cases e1
    | nx => cases e1; exact h .non H' kk so ⟨by unfold Rep; rfl, fun z => by cases z⟩
    | rt hd' =>
      intro v r
      cases hd' with
      | fr d => cases e1; exact h v H' kk so ⟨r.1.less S'.dom fa, r.2⟩
      | vl d => cases e1; exact h v H' kk so (Rep.less S'.dom r fa)
      | ow i =>
        have e1 : (if np ≤ i then (do
          let d ← (look i ρ1).nox
          pure (Hd.fr d)) else .stk) = R.ok hh := e1
        by_cases hi : np ≤ i
        · rw [if_pos hi] at e1
          obtain ⟨d, e2, e1⟩ := R.ok_of e1
          cases e1
          have e2 := look_some (R.nox_of e2)
          obtain ⟨v', h1, h2⟩ := S'.own i d e2 r.1
          have q : σ'[i]? = some (some v) := r.2
          rw [q] at h1
          cases h1
          have no : ∀ a, v = .ref a → ¬ OA O (vs.map some) a := fun a e z => by
            obtain ⟨j, hj, ej⟩ := z
            have := S'.sep i j a r.1 ((hO j).mp hj).1 (by rw [q, e]) ((pre hj).mpr ej)
            have := ((hO j).mp hj).2
            omega
          refine h v H' kk so ⟨h2.rep S'.dom fa fun a e => ⟨fun z => ?_, .inr ⟨i, r.1, by rw [q, e]⟩⟩, fun _ a e => ?_⟩
          · rcases z with z | z
            · exact S'.sep0 a ⟨i, r.1, by rw [q, e]⟩ z
            · exact no a e z
          · rcases t'.own a ⟨i, r.1, by rw [q, e]⟩ with z | z
            · exact absurd ((oa a).mp z) (no a e)
            · exact z
        · rw [if_neg hi] at e1
          cases e1
end
end Y

set_option Elab.async false
set_option linter.all false
set_option maxRecDepth 100000
namespace Y
open PySem PySem.Spec PyProof.Rows L2

def placed (pr : List (Nat × Nat)) : Nat → List Hd → Bool
  | _, [] => true
  | j, .ow i :: hs => pr.contains (j, i) && placed pr (j + 1) hs
  | j, _ :: hs => (!pr.any fun p => p.1 == j) && placed pr (j + 1) hs
def putOuts (os : Env) : List (Nat × Nat) → Env → Env
  | [], ρ => ρ
  | (j, i) :: pr, ρ => (putOuts os pr ρ).set i (os.getD j none)
def cCallIO (pr : List (Nat × Nat)) (g : Fn) (m : AM) : EM := fun ρ => do
  let (hs, ρ1) ← m ρ
  if placed pr 0 hs = true then do
    let ds ← (dsOf hs ρ1).nox
    let (h, os) ← g ds
    match h with
    | .ow _ => .stk
    | h => pure (h, putOuts os pr ρ1)
  else .stk
section
variable {K : PySem.W.Frag} {P0 : Pr} {O Oc W : List Nat} {ρ : Env} {σ : St} {Hs H H' : Hp} {pr : List (Nat × Nat)} {os : Env}
theorem putOuts_len : ∀ pr : List (Nat × Nat), (putOuts os pr ρ).length = ρ.length
  | [] => rfl
  | (j, i) :: pr => by unfold putOuts; rw [List.length_set, putOuts_len pr]
theorem putOuts_ne {x : Nat} : ∀ {pr : List (Nat × Nat)}, x ∉ pr.map (·.2) → (putOuts os pr ρ)[x]? = ρ[x]?
  | [], _ => rfl
  | (j, i) :: pr, h => by
    simp only [List.map_cons, List.mem_cons, not_or] at h
    unfold putOuts
    rw [List.getElem?_set_ne fun z => h.1 z.symm, putOuts_ne h.2]
theorem putOuts_at {j i : Nat} {d : D} : ∀ {pr : List (Nat × Nat)}, (pr.map (·.2)).Nodup → (j, i) ∈ pr → (putOuts os pr ρ)[i]? = some (some d) → os[j]? = some (some d)
  | [], _, h, _ => nomatch h
  | (j', i') :: pr, nd, h, e => by
    simp only [List.map_cons, List.nodup_cons] at nd
    unfold putOuts at e
    rcases List.mem_cons.mp h with z | z
    · cases z
      have hl : i < (putOuts os pr ρ).length := by
        have := (List.getElem?_eq_some_iff.mp e).1
        simpa using this
      rw [List.getElem?_set_self hl, List.getD_eq_getElem?_getD] at e
      cases q : os[j]? with
      | none => rw [q] at e; cases e
      | some o => rw [q] at e; simp at e; rw [e]
    · have hi : i' ≠ i := fun y => nd.1 (by rw [y]; exact List.mem_map.mpr ⟨_, z, rfl⟩)
      rw [List.getElem?_set_ne hi] at e
      exact putOuts_at nd.2 z e
theorem HdRs.at : ∀ {hs : List Hd} {vs : List V} {j : Nat} {v : V}, HdRs K P0 O Hs σ H hs vs → vs[j]? = some v → ∃ h, hs[j]? = some h ∧ HdR K P0 O Hs σ H h v
  | [], _, _, _, r, e => by have r : _ = [] := r; rw [r] at e; simp at e
  | h :: hs, _, 0, v, ⟨w, ws, e0, r1, _⟩, e => by subst e0; simp at e; subst e; exact ⟨h, rfl, r1⟩
  | h :: hs, _, j + 1, v, ⟨w, ws, e0, _, r2⟩, e => by subst e0; simpa using HdRs.at r2 (by simpa using e)
theorem HdRs.len : ∀ {hs : List Hd} {vs : List V}, HdRs K P0 O Hs σ H hs vs → vs.length = hs.length
  | [], _, r => by have r : _ = [] := r; rw [r]; rfl
  | h :: hs, _, ⟨w, ws, e0, _, r2⟩ => by subst e0; rw [List.length_cons, List.length_cons, HdRs.len r2]
theorem dsOf_at : ∀ {hs : List Hd} {ds : List D}, dsOf hs ρ = .ok ds → ds.length = hs.length ∧ ∀ (j : Nat) h d, hs[j]? = some h → ds[j]? = some d → h.d ρ = .ok d
  | [], _, e => by cases e; exact ⟨rfl, fun j h d e => by simp at e⟩
  | h :: hs, _, e => by
    obtain ⟨d, e1, e⟩ := R.ok_of e
    obtain ⟨ds, e2, e⟩ := R.ok_of e
    cases e
    obtain ⟨l, g⟩ := dsOf_at e2
    refine ⟨by rw [List.length_cons, List.length_cons, l], fun j h' d' a b => ?_⟩
    cases j with
    | zero => simp at a b; subst a b; exact R.nox_of e1
    | succ j => exact g j h' d' (by simpa using a) (by simpa using b)
theorem placed_at : ∀ {hs : List Hd} {k : Nat}, placed pr k hs = true → ∀ (j : Nat) h, hs[j]? = some h → (∃ i, h = .ow i ∧ (k + j, i) ∈ pr) ∨ ((∀ i, h ≠ .ow i) ∧ (k + j) ∉ pr.map (·.1))
  | [], _, _, j, h, e => by simp at e
  | h0 :: hs, k, p, j, h, e => by
    cases j with
    | zero =>
      simp at e; subst e
      cases h0 with
      | ow i =>
        unfold placed at p
        rw [Bool.and_eq_true] at p
        exact .inl ⟨i, rfl, by simpa using p.1⟩
      | fr d =>
        unfold placed at p
        rw [Bool.and_eq_true] at p
        refine .inr ⟨fun i z => (by cases z), fun z => ?_⟩
        obtain ⟨q, hq, e⟩ := List.mem_map.mp z
        have := p.1
        simp only [Bool.not_eq_true', List.any_eq_false] at this
        exact this q hq (by simpa using e)
      | vl d =>
        unfold placed at p
        rw [Bool.and_eq_true] at p
        refine .inr ⟨fun i z => (by cases z), fun z => ?_⟩
        obtain ⟨q, hq, e⟩ := List.mem_map.mp z
        have := p.1
        simp only [Bool.not_eq_true', List.any_eq_false] at this
        exact this q hq (by simpa using e)
    | succ j =>
      have p2 : placed pr (k + 1) hs = true := by
        cases h0 <;> (unfold placed at p; rw [Bool.and_eq_true] at p; exact p.2)
      have := placed_at p2 j h (by simpa using e)
      rwa [show k + 1 + j = k + (j + 1) by omega] at this
end
theorem nodup_inj {pr : List (Nat × Nat)} (hn : (pr.map (·.2)).Nodup) {j j' i : Nat} (a : (j, i) ∈ pr) (b : (j', i) ∈ pr) : j = j' := by
  induction pr with
  | nil => cases a
  | cons p pr ih =>
    simp only [List.map_cons, List.nodup_cons] at hn
    rcases List.mem_cons.mp a with a | a <;> rcases List.mem_cons.mp b with b | b
    · rw [← a] at b; cases b; rfl
    · exact absurd (List.mem_map.mpr ⟨_, b, by rw [← a]⟩) hn.1
    · exact absurd (List.mem_map.mpr ⟨_, a, by rw [← b]⟩) hn.1
    · exact ih hn.2 a b
theorem nodup_inj1 {pr : List (Nat × Nat)} (hn : (pr.map (·.1)).Nodup) {j i i' : Nat} (a : (j, i) ∈ pr) (b : (j, i') ∈ pr) : i = i' := by
  induction pr with
  | nil => cases a
  | cons p pr ih =>
    simp only [List.map_cons, List.nodup_cons] at hn
    rcases List.mem_cons.mp a with a | a <;> rcases List.mem_cons.mp b with b | b
    · rw [← a] at b; cases b; rfl
    · exact absurd (List.mem_map.mpr ⟨_, b, by rw [← a]⟩) hn.1
    · exact absurd (List.mem_map.mpr ⟨_, a, by rw [← b]⟩) hn.1
    · exact ih hn.2 a b
section
variable {X : Cx} {P0 : Pr} {O Oc W U : List Nat} {E : EK} {XE : XK} {a b c e : Expr} {es : List Expr} {ma mb mc : EM} {ms : AM} {pos : Pos} {k np : Nat} {name : Str} {pr : List (Nat × Nat)}
theorem tM_callIO {g : Fn} (hE : ∀ c ds H, E c ds H → exE X.mg XE c ds H) (hO : O = pr.map (·.1)) (hn : (pr.map (·.2)).Nodup) (hn1 : (pr.map (·.1)).Nodup) (hw : ∀ p ∈ pr, p.2 ∈ W) (hl : ALen ms np) (σ : St) (H : Hp) (Q : VK) (h : tM X.K P0 Oc W E (cCallIO pr g ms) σ H Q) :
    tCall (spD X.K X.mg np O g) [] XE (tMs X.K P0 Oc W E ms) σ H Q := by
  obtain ⟨ρ, S, h⟩ := h
  refine ⟨ρ, S, ?_⟩
  cases em : ms ρ with
  | stk => unfold cCallIO at h; rw [em] at h; exact h.elim
  | er c ds => unfold cCallIO at h; rw [em] at h; exact h
  | ok p =>
    obtain ⟨hs, ρ1⟩ := p
    unfold cCallIO at h
    rw [em] at h
    intro vs H1 S1 k1 r1
    have q : Res E W σ H (if placed pr 0 hs = true then (do
      let ds ← (dsOf hs ρ1).nox
      let (h, os) ← g ds
      match h with
      | .ow _ => .stk
      | h => pure (h, putOuts os pr ρ1)) else .stk) _ := h
    have hp : placed pr 0 hs = true := by
      cases hp : placed pr 0 hs with
      | true => rfl
      | false => rw [hp] at q; exact q.elim
    rw [if_pos hp] at q
    obtain ⟨ds, e1, q⟩ := q.of_nox
    have pl := placed_at hp
    simp only [Nat.zero_add] at pl
    obtain ⟨dl, dg⟩ := dsOf_at e1
    have lv : vs.length = np := by rw [HdRs.len r1]; exact hl ρ hs ρ1 em
    have ld : ds.length = np := by rw [dl]; exact hl ρ hs ρ1 em
    rw [List.append_nil]
    -- the callee's own objects are own here
    have own : ∀ {j : Nat} {v : V}, j ∈ O → (vs.map some)[j]? = some (some v) → ∃ i, (j, i) ∈ pr ∧ i ∈ Oc ∧ i ∈ W ∧ σ[i]? = some (some v) ∧ hs[j]? = some (.ow i) := fun {j v} hj e => by
      obtain ⟨h, e2, r⟩ := HdRs.at r1 (map_get.mp e)
      rcases pl j h e2 with ⟨i, rfl, hi⟩ | ⟨_, hn'⟩
      · exact ⟨i, hi, r.1, hw _ hi, r.2, e2⟩
      · rw [hO] at hj; exact absurd hj hn'
    have oa : ∀ b, OA O (vs.map some) b → OA W σ b := fun b ⟨j, hj, e⟩ => let ⟨i, _, _, h2, h3, _⟩ := own hj e; ⟨i, h2, h3⟩
    have oaO : ∀ b, OA O (vs.map some) b → OA Oc σ b := fun b z => S1.oaw (oa b z)
    generalize hP1 : (fun b => FA P0 Oc σ b ∧ ¬ OA O (vs.map some) b : Pr) = P1
    have fa1 : ∀ b, FA P1 O (vs.map some) b → FA P0 Oc σ b := fun b z => by
      subst hP1
      rcases z with z | z
      · exact z.1
      · exact .inr (oaO b z)
    have fa2 : ∀ b, FA P0 Oc σ b → FA P1 O (vs.map some) b := fun b z => by
      subst hP1
      by_cases y : OA O (vs.map some) b
      · exact .inr y
      · exact .inl ⟨z, y⟩
    have S2 : Sim X.K P1 O [] (ds.map some) (vs.map some) H1 := by
      refine ⟨fun _ z => (nomatch z), by simp [lv, ld], fun b z => S1.dom b (fa1 b z), fun j d e nj => ?_, fun j d e hj => ?_, fun x y a hx hy e1 e2 => ?_, fun a z y => by subst hP1; exact y.2 z⟩
      · have e := map_get.mp e
        have hj : j < vs.length := by rw [lv, ← ld]; exact (List.getElem?_eq_some_iff.mp e).1
        have ev : vs[j]? = some vs[j] := List.getElem?_eq_getElem hj
        obtain ⟨h, e2, r⟩ := HdRs.at r1 ev
        refine ⟨vs[j], map_get.mpr ev, ?_⟩
        have hd := dg j h d e2 e
        rcases pl j h e2 with ⟨i, rfl, hi⟩ | ⟨hne, _⟩
        · exact absurd (by rw [hO]; exact List.mem_map.mpr ⟨_, hi, rfl⟩) nj
        · cases h with
          | fr d' => cases hd; exact r.1.less S1.dom fa1
          | vl d' => cases hd; exact Rep.less S1.dom r fa1
          | ow i => exact absurd rfl (hne i)
      · have e := map_get.mp e
        have hj' : j < vs.length := by rw [lv, ← ld]; exact (List.getElem?_eq_some_iff.mp e).1
        have ev : (vs.map some)[j]? = some (some vs[j]) := map_get.mpr (List.getElem?_eq_getElem hj')
        obtain ⟨i, h1, h2, h3, h4, h5⟩ := own hj ev
        have hd := look_some (dg j _ d h5 e)
        obtain ⟨w, h6, h7⟩ := S1.own i d hd h2
        rw [h4] at h6; cases h6
        exact ⟨_, ev, h7.less S1.dom fa1⟩
      · obtain ⟨i1, a1, b1, c1, d1, f1⟩ := own hx e1
        obtain ⟨i2, a2, b2, c2, d2, f2⟩ := own hy e2
        have ei := S1.sep i1 i2 a b1 b2 d1 d2
        subst ei
        have := nodup_inj hn a1 a2
        exact this
    refine ⟨lv, ds, P1, S2, ld, ?_⟩
    have q := q.keep k1
    cases eg : g ds with
    | stk => rw [eg] at q; exact q.elim
    | er c xs =>
      rw [eg] at q
      exact fun H' kp => hE c xs H' (q H' ⟨fun b o e n => kp.keep b o e fun z => n (oa b z), kp.some⟩)
    | ok p =>
      obtain ⟨hd, os⟩ := p
      rw [eg] at q
      intro v H2 k2 S3 r2
      have S3 : Sim X.K P1 O [] os (vs.map some) H2 := S3
      have k3 : Keep W σ H1 H2 := ⟨fun b o e n => k2.keep b o e fun z => n (oa b z), k2.some⟩
      have slot : ∀ {j i : Nat}, (j, i) ∈ pr → i ∈ Oc := fun {j i} z => S1.sub i (hw _ z)
      have S4 : Sim X.K P0 Oc W (putOuts os pr ρ1) σ H2 := by
        refine ⟨S1.sub, by rw [putOuts_len]; exact S1.len, fun b z => S3.dom b (fa2 b z), fun i d e n => ?_, fun i d e n => ?_, S1.sep, S1.sep0⟩
        · have ni : i ∉ pr.map (·.2) := fun z => by
            obtain ⟨⟨j, i'⟩, hq, z⟩ := List.mem_map.mp z
            cases z
            exact n (slot hq)
          rw [putOuts_ne ni] at e
          obtain ⟨v, h1, h2⟩ := S1.val i d e n
          exact ⟨v, h1, h2.of_same S1.dom fun b o e n => k2.keep b o e fun z => n (.inr (oaO b z))⟩
        · by_cases ni : i ∈ pr.map (·.2)
          · obtain ⟨⟨j, i'⟩, hq, z⟩ := List.mem_map.mp ni
            cases z
            have eo := putOuts_at hn hq e
            have hj : j ∈ O := by rw [hO]; exact List.mem_map.mpr ⟨_, hq, rfl⟩
            obtain ⟨w, h1, h2⟩ := S3.own j d eo hj
            obtain ⟨i2, a2, b2, c2, d2, f2⟩ := own hj h1
            have : i2 = i' := by
              have := nodup_inj1 hn1 a2 hq
              exact this
            subst this
            exact ⟨w, d2, h2.less S3.dom fa2⟩
          · rw [putOuts_ne ni] at e
            obtain ⟨w, h1, h2⟩ := S1.own i d e n
            refine ⟨w, h1, h2.mono S1.dom (fun b o e n => k2.keep b o e fun z => n (.inr (oaO b z))) (fun _ z => .inl z) fun a o e1 e2 => k2.keep a o e2 fun ⟨j, hj, ej⟩ => ?_⟩
            subst e1
            obtain ⟨i2, a2, b2, c2, d2, f2⟩ := own hj ej
            have := S1.sep i i2 a n b2 h1 d2
            subst this
            exact ni (List.mem_map.mpr ⟨_, a2, rfl⟩)
      cases hd with
      | ow j => exact q.elim
      | fr d => exact q v H2 S4 (k1.trans k3) ⟨r2.1.less S3.dom fa2, fun m a e => Classical.byContradiction fun z => k1.some a z (r2.2 m a e)⟩
      | vl d => exact q v H2 S4 (k1.trans k3) (Rep.less S3.dom r2 fa2)
theorem ce_callIO {g : Fn} {p : Pos} (G : Glo X.prog X.w X.K X.mg X.base name k np O g) (pr : List (Nat × Nat)) (o : Out2 X E XE) (hr : Room k X.A) (ha : CA X P0 Oc W E (e :: es) ms) (hl : ALen ms np) (hO : O = pr.map (·.1) := by rfl) (hn : (pr.map (·.2)).Nodup := by decide) (hn1 : (pr.map (·.1)).Nodup := by decide) (hw : ∀ p ∈ pr, p.2 ∈ W := by decide) (hg : Gl X name := by rfl) (hdb : (name == ("__debug__" : Str)) = false := by decide)
    (he : starEach (e :: es) X.env = (false, eval e X.env) :: starEach es X.env := by rfl) (hpl : (backTo pos (starEach es X.env)).any (·.1) = false := by rfl) : CEx X P0 Oc W E (.Call (.Name name p) (e :: es) [] pos) (cCallIO pr g ms) := by
  obtain ⟨f, fd, ps, hm, hk, hb, _, F⟩ := G.ex
  exact PE.imp (pe_call F hr hg hm hk hb .nil o.pass ha hdb he hpl) fun σ H Q h => tM_callIO o.ex hO hn hn1 hw hl σ H Q h
end
end Y

set_option Elab.async false
set_option linter.all false
set_option maxRecDepth 100000
namespace Y
open PySem PySem.Spec PyProof.Rows L2

def fnP (np n : Nat) (m : SM) : List D → R Hd := fun ds => do
  let (f, ρ) ← m (ds.map some ++ List.replicate (n - np) none)
  (retH np f ρ).nox
section
variable {P : Program} {w : World} {K : PySem.W.Frag} {mg : Str → Option Value} {base : Heap} {name : Str} {k np n : Nat} {O : List Nat}
theorem Glo.imp {g g' : Fn} (G : Glo P w K mg base name k np O g) (h : ∀ vs H Q E, spD K mg np O g' vs H Q E → spD K mg np O g vs H Q E) : Glo P w K mg base name k np O g' :=
  let ⟨f, fd, ps, h1, h2, h3, h4, F⟩ := G.ex
  ⟨f, fd, ps, h1, h2, h3, h4, F.imp h⟩
theorem Glo.mono {g : Fn} {k' : Nat} (G : Glo P w K mg base name k np O g) (h : k ≤ k' := by decide) : Glo P w K mg base name k' np O g :=
  let ⟨f, fd, ps, h1, h2, h3, h4, F⟩ := G.ex
  ⟨f, fd, ps, h1, h2, h3, h4, F.mono h⟩
theorem spD_pure {m : SM} {vs : List V} {H : Hp} {Q : VK} {E : XK} : spD K mg np [] (pureF (fnP np n m)) vs H Q E → spD K mg np [] (fnD np n [] m) vs H Q E := fun ⟨hl, ds, P0, S, hd, h⟩ => ⟨hl, ds, P0, S, hd, by
  unfold pureF fnP at h
  unfold fnD
  cases em : m (ds.map some ++ List.replicate (n - np) none) with
  | stk => rw [em] at h; exact h
  | er c xs => rw [em] at h; exact h
  | ok p =>
    obtain ⟨fl, ρ⟩ := p
    rw [em] at h
    cases er : (retH np fl ρ).nox with
    | stk => exact (show Res (exE mg E) [] (vs.map some) H ((retH np fl ρ).nox >>= fun h => Y.R.ok (h, outs [] np ρ)) _ by
        rw [er]
        have h : Res (exE mg E) [] (vs.map some) H ((retH np fl ρ).nox >>= fun h => Y.R.ok (h, [])) _ := h
        rw [er] at h
        exact h)
    | er c xs => cases e2 : retH np fl ρ <;> rw [e2] at er <;> cases er
    | ok hd' =>
      refine (show Res (exE mg E) [] (vs.map some) H ((retH np fl ρ).nox >>= fun h => Y.R.ok (h, outs [] np ρ)) _ from ?_)
      have h : Res (exE mg E) [] (vs.map some) H ((retH np fl ρ).nox >>= fun h => Y.R.ok (h, [])) _ := h
      rw [er] at h ⊢
      exact fun v H' kp S' r => h v H' kp (S'.move (Nat.zero_le _) (fun _ _ => rfl) (fun _ z => nomatch z) fun i d e => by simp at e) r⟩
theorem Glo.pure {m : SM} (G : Glo P w K mg base name k np [] (fnD np n [] m)) : Glo P w K mg base name k np [] (pureF (fnP np n m)) := G.imp fun vs H Q E h => spD_pure h
/-- a def of the text -/
structure Def (K : PySem.W.Frag) (mg : Str → Option Value) (x : Str) (st : Stmt) : Prop where
  ex : ∃ f fd, mg x = some (.ref f) ∧ Fun K x x st f fd
theorem glo_mk {x : Str} {st : Stmt} {N ps : List Str} {Oc W U : List Nat} {m : SM} (F : Def K mg x st) (S : FnScope N ps (defScope st))
    (hb : ∀ (f : Addr) (cdv : Value) (A : Around) (outer : List PySem.Env) (s : Shared) (H : Hp) (E : XK) (P0 : Pr), Room k (A.deeper (envOfC x (defScope st) s.heap.objs.size f cdv)) → CSs (cxOf (L2N.CX P w) P w K mg base N x (defScope st) f cdv A outer s H E) P0 Oc W U (exE mg E) (defBody st) m)
    (bi : ∀ (kV doc pm : Value) (an : Option Addr) (cdv ct : Value) (us : List Value), us.length = ps.length → bindArgs (PySem.W.fnOf x x (defArgs st) (defBody st) (defScope st) .none kV doc pm an cdv ct) ⟨us, []⟩ = Pure.pure (ps.zip us))
    (hp : ps.length = np := by rfl) (hn : N.length = n := by rfl) (hO : O = Oc.filter (fun i => decide (i < np)) := by rfl) (hW : ∀ i ∈ W, i ∈ Oc := by decide) (hU : ∀ i ∈ O, i ∈ U := by decide) : Glo P w K mg base x (k + 1) np O (fnD np n O m) := by
  obtain ⟨f, fd, hm, F⟩ := F.ex
  exact ⟨f, fd, ps, hm, F.kp, F.binds bi, hp, fnD_ok F S hp hn (fun i => by rw [hO, List.mem_filter, decide_eq_true_eq]) hW hU fun cdv A outer s H E P0 hr => hb f cdv A outer s H E P0 hr⟩
theorem law_fn {st : Stmt} {f : Addr} {fd : FuncData} {N : List Str} {Oc W : List Nat} {m : SM} (F : Fun K "law" "law" st f fd) (S : FnScope N ["script"] (defScope st))
    (hb : ∀ (f : Addr) (cdv : Value) (A : Around) (outer : List PySem.Env) (s : Shared) (H : Hp) (E : XK) (P0 : Pr), Room k (A.deeper (envOfC "law" (defScope st) s.heap.objs.size f cdv)) → CSs (cxOf (L2N.CX P w) P w K mg base N "law" (defScope st) f cdv A outer s H E) P0 Oc W [] (exE mg E) (defBody st) m)
    (hn : N.length = n := by rfl) (hO : [] = Oc.filter (fun i => decide (i < 1)) := by rfl) (hW : ∀ i ∈ W, i ∈ Oc := by decide) : FnOk P w K mg base (L2N.CX P w) (k + 1) f fd ["script"] (spD K mg 1 [] (pureF (fnP 1 n m))) :=
  (fnD_ok (O := []) F S rfl hn (fun i => by rw [hO, List.mem_filter, decide_eq_true_eq]; exact Iff.rfl) hW (fun _ h => by simp at h) fun cdv A outer s H E P0 hr => hb f cdv A outer s H E P0 hr).imp fun vs H Q E h => spD_pure h
theorem out2_body {N : List Str} {x : Str} {sc : Scope} {f : Addr} {cdv : Value} {A : Around} {outer : List PySem.Env} {s : Shared} {H : Hp} {E : XK} : Out2 (cxOf (L2N.CX P w) P w K mg base N x sc f cdv A outer s H E) (exE mg E) E :=
  ⟨L2N.passes_call (L2N.takes_of rfl rfl rfl rfl) (fun _ _ _ _ h => h), fun c ds H h => h⟩
theorem cx_none {H : Hp} {s : Shared} {e : Value} {s' : Shared} (h : L2N.CX P w [] H s (fun _ _ _ => False) e s') : False := by
  obtain ⟨_, _, _, _, _, _, _, _, _, _, _, _, z⟩ := h
  exact z.elim
end
end Y

set_option Elab.async false
set_option linter.all false
set_option maxRecDepth 100000
namespace Y
open PySem PySem.Spec PyProof.Rows L2
def tyN : D → String
  | .non => "NoneType" | .bl _ => "bool" | .int _ => "int" | .str _ => "str" | .tup _ => "tuple" | .lst _ => "list" | .arg _ => "list" | .dik _ _ => "dict" | .dit _ _ => "dict" | .ftu _ => "tuple" | .tab _ _ => "NoneType"
def isInt : D → Bool
  | .int _ => true | .bl _ => true | _ => false
def isBl : D → Bool
  | .bl _ => true | _ => false
def isTup : D → Bool
  | .tup _ => true | .ftu _ => true | _ => false
abbrev IsK (T : String) (f : D → Bool) : Prop := ∀ d, kitB (tyN d) T = some (f d)
theorem isk_int : IsK "int" isInt := fun d => by cases d <;> simp only [tyN, isInt] <;> decide +kernel
theorem isk_bool : IsK "bool" isBl := fun d => by cases d <;> simp only [tyN, isBl] <;> decide +kernel
theorem isk_tuple : IsK "tuple" isTup := fun d => by cases d <;> simp only [tyN, isTup] <;> decide +kernel
def noDit : D → Bool
  | .dit _ _ => false | .ftu _ => false | .tab _ _ => false | _ => true
def isFt : D → Bool
  | .ftu _ => true | _ => false
theorem tyX_of {K : PySem.W.Frag} {H : Hp} {P : Pr} {d : D} {v : V} (hd : (noDit d || isFt d) = true) (h : RepW K H d P v) : TyX K H v (.type (tyN d)) := by
  cases d with
  | non => have h : Rep K H .non P v := h; unfold Rep at h; subst h; exact .base .non
  | bl b => have h : Rep K H (.bl b) P v := h; unfold Rep at h; subst h; exact .base (.bl b)
  | int i => have h : Rep K H (.int i) P v := h; unfold Rep at h; subst h; exact .base (.int i)
  | str x => have h : Rep K H (.str x) P v := h; unfold Rep at h; subst h; exact .base (.str x)
  | tup ds =>
    have h : Rep K H (.tup ds) P v := h
    unfold Rep at h
    obtain ⟨a, vs, rfl, h1, _⟩ := h
    exact .base (.tup h1)
  | lst ds =>
    obtain ⟨a, vs, rfl, h1, _⟩ := h
    exact .base (.lst h1)
  | arg ns =>
    obtain ⟨a, rfl, h1⟩ := h
    rcases h1 with (h1 | ⟨o, h1⟩) | ⟨ob, its, n, h1, h2, _⟩
    · exact .base (.lst h1)
    · exact .base (.frz h1)
    · exact .kList h1 h2
  | dik ks ds =>
    obtain ⟨a, vs, rfl, _, h1, _⟩ := h
    rcases h1 with h1 | ⟨o, h1⟩
    · exact .base (.dK h1)
    · exact .fDict h1
  | dit ks ds => cases hd
  | tab _ _ => cases hd
  | ftu ds =>
    have h : Rep K H (.ftu ds) P v := h
    unfold Rep at h
    obtain ⟨a, vs, o, rfl, h1, _⟩ := h
    exact .fTuple h1
def cIsi (f : D → Bool) (m : EM) : EM := fun ρ => do
  let (h, ρ1) ← m ρ
  let d ← (h.d ρ1).nox
  if (noDit d || isFt d) = true then pure (.fr (.bl (f d)), ρ1) else .stk
section
variable {X : Cx} {P0 : Pr} {O W : List Nat} {E : EK} {a : Expr} {ma : EM} {pos : Pos}
theorem ce_isi {T : String} {x : Str} {f : D → Bool} {p q : Pos} (hk : IsK T f) (hm : X.mg "isinstance" = none) (hm2 : X.mg x = none) (h : CEx X P0 O W E a ma) (hv : bootBuiltins "isinstance" = some (.builtin "isinstance")) (hv2 : bootBuiltins x = some (.type T))
    (hg : Gl X "isinstance" := by rfl) (hg2 : Gl X x := by rfl) (hn : x ≠ "__name__" := by decide) (hdb : (x == ("__debug__" : Str)) = false := by decide)
    (he : starEach [a, .Name x q] X.env = (false, eval a X.env) :: starEach [.Name x q] X.env := by rfl) (hpl : (backTo pos (starEach [.Name x q] X.env)).any (·.1) = false := by rfl) (he2 : starEach [.Name x q] X.env = (false, eval (.Name x q) X.env) :: starEach [] X.env := by rfl) : CEx X P0 O W E (.Call (.Name "isinstance" p) [a, .Name x q] [] pos) (cIsi f ma) :=
  PE.imp (pe_callB call_isi hg hm hv (pa_cons h (pa_cons (pe_bltn hg2 hm2 hv2 (v := .ty T) rfl hn hdb) pa_nil he2) he) (by decide) (by decide) he hpl) fun σ H Q ⟨ρ, S, h⟩ => by
    refine ⟨ρ, S, h.of_bind.mono fun ⟨hd, ρ1⟩ q v H1 S1 k1 r1 => ?_⟩
    obtain ⟨d, e1, q⟩ := q.of_nox
    by_cases c : (noDit d || isFt d) = true
    · rw [if_pos c] at q
      exact ⟨v, .ty T, _, _, f d, rfl, .ty T, tyX_of c (HdR.d S1 r1 e1), kit_ty (hk d), (out_of (K := X.K) S1 k1 q).bl⟩
    · rw [if_neg c] at q
      exact q.elim
end
end Y

set_option Elab.async false
set_option linter.all false
set_option maxRecDepth 100000
namespace Y
open PySem PySem.Spec PyProof.Rows L2
def sExpr (m : EM) : SM := fun ρ => do
  let (_, ρ1) ← m ρ
  pure (.nx, ρ1)
section
variable {K : PySem.W.Frag} {X : Cx} {P0 : Pr} {O W U : List Nat} {E : EK} {e : Expr} {ma : EM} {pos : Pos}
theorem cs_expr (h : CEx X P0 O W E e ma) (hs : swapsWith e none pos.line X.env = pure false := by rfl) : CS X P0 O W U E (.Expr e pos) (sExpr ma) := PS.imp (ps_expr h hs) fun D σ H ⟨ρ, S, h⟩ =>
  ⟨ρ, S, (h.of_bind.down S.sub).mono fun ⟨hd, ρ1⟩ q v H1 S1 k1 r1 => q σ H1 S1 (Tr.of S.sub k1) rfl⟩
/-- what the top binds -/
theorem def_mk {h : Heap} {mg : Str → Option Value} {x : Str} {st : Stmt} {f : Addr} {od an : Option Addr} {sl : Array (Option Value)} {oc kV dc pm cd ct : Value} (Z : K.In h) (G : h.Ns mainGlobals mg)
    (a : PySem.W.nsIn K mainGlobals x = some (some (.ref f))) (l : K.lookup f = some ⟨oc, od, .func (PySem.W.fnOf x x (defArgs st) (defBody st) (defScope st) .none kV dc pm an cd ct), sl⟩) (c : PySem.W.codeIn K cd x = true) (k : PySem.W.keepIn K (.ref f) = true) : Def K mg x st :=
  ⟨⟨f, _, PySem.W.mg_of Z G a, fun_mk l c k⟩⟩
end
theorem bo_len : bootBuiltins "len" = some (.builtin "len") := by decide +kernel
theorem bo_max : bootBuiltins "max" = some (.builtin "max") := by decide +kernel
theorem bo_min : bootBuiltins "min" = some (.builtin "min") := by decide +kernel
theorem bo_sum : bootBuiltins "sum" = some (.builtin "sum") := by decide +kernel
theorem bo_all : bootBuiltins "all" = some (.builtin "all") := by decide +kernel
theorem bo_isinstance : bootBuiltins "isinstance" = some (.builtin "isinstance") := by decide +kernel
theorem bo_sorted : bootBuiltins "sorted" = some (.builtin "sorted") := by decide +kernel
theorem bo_tuple : bootBuiltins "tuple" = some (.type "tuple") := by decide +kernel
theorem bo_bool : bootBuiltins "bool" = some (.type "bool") := by decide +kernel
theorem bo_int : bootBuiltins "int" = some (.type "int") := by decide +kernel
theorem bo_set : bootBuiltins "set" = some (.type "set") := by decide +kernel
theorem _root_.L2.Room.units65 {k : Nat} {A : Around} (r : Room k A) : A.units + 65 < cLine := by have := r.un; omega
end Y

set_option Elab.async false
set_option linter.all false
set_option maxRecDepth 100000
namespace Y
open PySem PySem.Spec PyProof.Rows L2
abbrev Good (g : List D → R Hd) (n : Nat) : Prop := ∀ ns : List Int, ns.length ≤ n → (∀ z ∈ ns, Builtin.Int.intBits z ≤ 1048576) → ∃ b, g [.arg ns] = .ok b ∧ (b = .fr (.bl true) ∨ b = .vl (.bl true))
def spL (K : PySem.W.Frag) (n : Nat) : Sp := fun vs H Q E => ∃ (a : Addr) (ns : List Int), vs = [.ref a] ∧ SqL K H a (ns.map V.int) ∧ ns.length ≤ n ∧ (∀ z ∈ ns, Builtin.Int.intBits z ≤ 1048576) ∧ ∀ H', Q (.bl true) H'
theorem spL_to {K : PySem.W.Frag} {mg : Str → Option Value} {g : List D → R Hd} {n : Nat} (hg : Good g n) {vs : List V} {H : Hp} {Q : VK} {E : XK} : spL K n vs H Q E → spD K mg 1 [] (pureF g) vs H Q E := fun ⟨a, ns, e, hS, h1, h2, q⟩ => by
  subst e
  obtain ⟨b, e, hb⟩ := hg ns h1 h2
  refine ⟨rfl, [.arg ns], fun _ => False, sim_args (fun b z => z.elim) (Reps.cons ?_ Reps.nil), rfl, ?_⟩
  · unfold Rep
    refine ⟨a, rfl, ?_⟩
    rcases hS with hS | hS
    · exact .inl ⟨fun z => z, hS⟩
    · exact .inr (.inr hS)
  · unfold pureF
    rw [e]
    intro v H' _ _ r
    have : v = .bl true := by
      rcases hb with rfl | rfl
      · have r := r.1; unfold Rep at r; exact r
      · have r : Rep K H' (.bl true) (FA (fun _ => False) [] ([V.ref a].map some)) v := r; unfold Rep at r; exact r
    rw [this]
    exact q H'
/-- the law as the head wants it -/
theorem law_all {P : Program} {w : World} {K : PySem.W.Frag} {mg : Str → Option Value} {h : Heap} {fa f2 : Addr} {st : Stmt} {k n : Nat} {g : List D → R Hd} (Z : K.In h) (G : h.Ns mainGlobals mg) (hfa : mg "law" = some (.ref fa)) (hg : Good g n)
    {od an : Option Addr} {sl : Array (Option Value)} {oc kV dc pm cd ct : Value}
    (ok : ∀ (base : Heap) {f : Addr} {fd : FuncData}, Fun K "law" "law" st f fd → FnOk P w K mg base (L2N.CX P w) k f fd ["script"] (spD K mg 1 [] (pureF g)))
    (hb : ∀ (kV dc pm : Value) (an : Option Addr) (cd ct : Value) (s : Shared) (u : Value), BindsTo s (PySem.W.fnOf "law" "law" (defArgs st) (defBody st) (defScope st) .none kV dc pm an cd ct) ⟨[u], []⟩ [("script", u)])
    (a : PySem.W.nsIn K mainGlobals "law" = some (some (.ref f2))) (l : K.lookup f2 = some ⟨oc, od, .func (PySem.W.fnOf "law" "law" (defArgs st) (defBody st) (defScope st) .none kV dc pm an cd ct), sl⟩) (c : PySem.W.codeIn K cd "law" = true) (kp : PySem.W.keepIn K (.ref f2) = true) :
    ∃ fd : FuncData, (∀ (s : Shared) (u : Value), BindsTo s fd ⟨[u], []⟩ [("script", u)]) ∧ ∀ base : Heap, K.In base → base.Ns mainGlobals mg → FnOk P w K mg base (L2N.CX P w) k fa fd ["script"] (spL K n) := by
  have e := hfa.symm.trans (PySem.W.mg_of Z G a)
  cases e
  exact ⟨_, fun s u => hb kV dc pm an cd ct s u, fun base _ _ => (ok base (fun_mk l c kp)).imp fun vs H Q E h => spL_to hg h⟩
end Y

set_option Elab.async false
set_option linter.all false
set_option maxRecDepth 100000
namespace Y
open PySem PySem.Spec PyProof.Rows L2
variable {ρ : Env}
@[simp] theorem e_look {i : Nat} : look i ρ = (match ρ[i]? with | some (some d) => .ok d | _ => .stk) := id rfl
@[simp] theorem e_var {i : Nat} : cVar i ρ = ((look i ρ).nox >>= fun d => R.ok (.vl d, ρ)) := id rfl
@[simp] theorem e_own {i : Nat} : cOwn i ρ = ((look i ρ).nox >>= fun _ => R.ok (.ow i, ρ)) := id rfl
@[simp] theorem e_c {d : D} : cC d ρ = .ok (.fr d, ρ) := id rfl
@[simp] theorem e_hfr {d : D} : Hd.d (.fr d) ρ = .ok d := id rfl
@[simp] theorem e_hvl {d : D} : Hd.d (.vl d) ρ = .ok d := id rfl
@[simp] theorem e_how {i : Nat} : Hd.d (.ow i) ρ = look i ρ := id rfl
@[simp] theorem e_vfr {d : D} : Hd.v (.fr d) = .ok d := id rfl
@[simp] theorem e_vvl {d : D} : Hd.v (.vl d) = .ok d := id rfl
@[simp] theorem e_vow {i : Nat} : Hd.v (.ow i) = .stk := id rfl
@[simp] theorem e_op {f : D → D → R D} {a b : EM} : cOp f a b ρ = (a ρ >>= fun p => b p.2 >>= fun q => (p.1.d q.2).nox >>= fun x => (q.1.d q.2).nox >>= fun y => (f x y).nox >>= fun z => R.ok (.fr z, q.2)) := id rfl
@[simp] theorem e_tru {m : EM} : cTru m ρ = (m ρ >>= fun p => (p.1.d p.2).nox >>= fun d => (truD d).nox >>= fun b => R.ok (b, p.2)) := id rfl
@[simp] theorem e_bl {m : EM} : cBl m ρ = (m ρ >>= fun p => p.1.v.nox >>= fun d => match d with | .bl b => R.ok (b, p.2) | _ => .stk) := id rfl
@[simp] theorem e_notT {m : BM} : cNotT m ρ = (m ρ >>= fun p => R.ok (!p.1, p.2)) := id rfl
@[simp] theorem e_andT {a b : BM} : cAndT a b ρ = (a ρ >>= fun p => if p.1 = true then b p.2 else R.ok (false, p.2)) := id rfl
@[simp] theorem e_orT {a b : BM} : cOrT a b ρ = (a ρ >>= fun p => if p.1 = true then R.ok (true, p.2) else b p.2) := id rfl
@[simp] theorem e_nil : cNil ρ = .ok ([], ρ) := id rfl
@[simp] theorem e_cons {a : EM} {as : AM} : cCons a as ρ = (a ρ >>= fun p => as p.2 >>= fun q => R.ok (p.1 :: q.1, q.2)) := id rfl
@[simp] theorem e_vs0 : vsOf [] = .ok [] := id rfl
@[simp] theorem e_vs1 {h : Hd} {hs : List Hd} : vsOf (h :: hs) = (h.v.nox >>= fun d => vsOf hs >>= fun ds => R.ok (d :: ds)) := id rfl
@[simp] theorem e_ds0 : dsOf [] ρ = .ok [] := id rfl
@[simp] theorem e_ds1 {h : Hd} {hs : List Hd} : dsOf (h :: hs) ρ = ((h.d ρ).nox >>= fun d => dsOf hs ρ >>= fun ds => R.ok (d :: ds)) := id rfl
@[simp] theorem e_and {a b : EM} : cAnd a b ρ = (a ρ >>= fun p => (p.1.d p.2).nox >>= fun d => (truD d).nox >>= fun k => if k = true then b p.2 else R.ok (p.1, p.2)) := id rfl
@[simp] theorem e_not {m : EM} : cNot m ρ = (m ρ >>= fun p => (p.1.d p.2).nox >>= fun d => (truD d).nox >>= fun k => R.ok (.fr (.bl (!k)), p.2)) := id rfl
@[simp] theorem e_chain {f g : D → D → R D} {a b c : EM} : cChain f g a b c ρ = (a ρ >>= fun p => b p.2 >>= fun q => (p.1.d q.2).nox >>= fun x => (q.1.d q.2).nox >>= fun y => (f x y).nox >>= fun z => match z with | .bl k => if k = true then (c q.2 >>= fun r => (q.1.d r.2).nox >>= fun y => (r.1.d r.2).nox >>= fun w => (g y w).nox >>= fun z => R.ok (.fr z, r.2)) else .ok (.fr (.bl false), q.2) | _ => .stk) := id rfl
@[simp] theorem e_neg {m : EM} : cNeg m ρ = (m ρ >>= fun p => p.1.v.nox >>= fun d => match d with | .int i => R.ok (.fr (.int (-i)), p.2) | _ => .stk) := id rfl
@[simp] theorem e_tup {m : AM} : cTup m ρ = (m ρ >>= fun p => (vsOf p.1).nox >>= fun ds => if szOk ds.length = true then R.ok (.fr (.tup ds), p.2) else .stk) := id rfl
@[simp] theorem e_lst {m : AM} : cLst m ρ = (m ρ >>= fun p => (vsOf p.1).nox >>= fun ds => if szOk ds.length = true then R.ok (.fr (.lst ds), p.2) else .stk) := id rfl
@[simp] theorem e_call {f : List D → R D} {m : AM} : cCall f m ρ = (m ρ >>= fun p => (dsOf p.1 p.2).nox >>= fun ds => (f ds).nox >>= fun z => R.ok (.fr z, p.2)) := id rfl
@[simp] theorem e_ix {a b : EM} : cIx a b ρ = (a ρ >>= fun p => b p.2 >>= fun q => (p.1.d q.2).nox >>= fun x => (q.1.d q.2).nox >>= fun y => (ixD x y).nox >>= fun z => R.ok (.vl z, q.2)) := id rfl
@[simp] theorem e_nopart : cNoPart ρ = .ok (none, ρ) := id rfl
@[simp] theorem e_part {m : EM} : cPart m ρ = (m ρ >>= fun p => p.1.v.nox >>= fun d => match d with | .int i => R.ok (some i, p.2) | _ => .stk) := id rfl
@[simp] theorem e_slice {a : EM} {lo hi : OM} : cSlice a lo hi ρ = (a ρ >>= fun p => lo p.2 >>= fun q => hi q.2 >>= fun r => (p.1.d r.2).nox >>= fun d => (sliceD d q.1 r.1).nox >>= fun z => R.ok (.fr z, r.2)) := id rfl
@[simp] theorem e_iter {m : EM} : cIter m ρ = (m ρ >>= fun p => (p.1.d p.2).nox >>= fun d => (itD d).nox >>= fun ds => if szOk ds.length = true then R.ok ((ds, p.1.ws), p.2) else .stk) := id rfl
@[simp] theorem e_range {f : List D → R (List D)} {m : AM} : cRange f m ρ = (m ρ >>= fun p => (vsOf p.1).nox >>= fun ds => (f ds).nox >>= fun xs => if szOk xs.length = true then R.ok ((xs, []), p.2) else .stk) := id rfl
@[simp] theorem e_yes : cYes ρ = .ok (true, ρ) := id rfl
@[simp] theorem e_isi {f : D → Bool} {m : EM} : cIsi f m ρ = (m ρ >>= fun p => (p.1.d p.2).nox >>= fun d => if (noDit d || isFt d) = true then R.ok (.fr (.bl (f d)), p.2) else .stk) := id rfl
@[simp] theorem e_callF {g : List D → R Hd} {m : AM} : cCallF g m ρ = (m ρ >>= fun p => (vsOf p.1).nox >>= fun ds => g ds >>= fun h => match h with | .ow _ => .stk | h => R.ok (h, p.2)) := id rfl
@[simp] theorem e_callIO {pr : List (Nat × Nat)} {g : Fn} {m : AM} : cCallIO pr g m ρ = (m ρ >>= fun p => if placed pr 0 p.1 = true then ((dsOf p.1 p.2).nox >>= fun ds => g ds >>= fun r => match r.1 with | .ow _ => .stk | h => R.ok (h, putOuts r.2 pr p.2)) else .stk) := id rfl
@[simp] theorem e_tmN {i : Nat} {d : D} : tmName i d ρ = .ok (ρ.set i (some d)) := id rfl
@[simp] theorem e_tmT {is : List Nat} {ds : List D} : tmTup is (.tup ds) ρ = if ds.length = is.length then .ok (setAll ρ is ds) else .stk := id rfl
@[simp] theorem e_sa0 {ds : List D} : setAll ρ [] ds = ρ := by unfold setAll; rfl
@[simp] theorem e_sa1 {i : Nat} {is : List Nat} {d : D} {ds : List D} : setAll ρ (i :: is) (d :: ds) = setAll (ρ.set i (some d)) is ds := id rfl
@[simp] theorem e_comp {im : IM} {tm : GM} {t : BM} {e : EM} {vs : List Nat} : cComp im tm t e vs ρ = (im ρ >>= fun p => (cCompL tm t e vs p.1.2 p.1.1 (wipeE p.2 vs)).nox >>= fun q => R.ok (.fr (.lst q.1), q.2)) := id rfl
@[simp] theorem e_skip : sSkip ρ = .ok (.nx, ρ) := id rfl
@[simp] theorem e_seq {m n : SM} : sSeq m n ρ = (m ρ >>= fun p => match p.1 with | .nx => n p.2 | f => R.ok (f, p.2)) := by
  unfold sSeq; congr
@[simp] theorem e_ret {m : EM} : sRet m ρ = (m ρ >>= fun p => R.ok (.rt p.1, p.2)) := id rfl
@[simp] theorem e_sif {t : BM} {m n : SM} : sIf t m n ρ = (t ρ >>= fun p => if p.1 = true then m p.2 else n p.2) := id rfl
@[simp] theorem e_asg {m : EM} {tm : GM} : sAsg m tm ρ = (m ρ >>= fun p => p.1.v.nox >>= fun d => (tm d p.2).nox >>= fun r => R.ok (.nx, r)) := id rfl
@[simp] theorem e_sown {O W : List Nat} {m : EM} {i : Nat} : sOwn O W m i ρ = (m ρ >>= fun p => match p.1 with | .fr d => ((chkO O W ρ p.2).nox >>= fun _ => if d.ownable = true then R.ok (.nx, p.2.set i (some d)) else .stk) | _ => .stk) := by
  unfold sOwn; congr
@[simp] theorem e_app {i : Nat} {m : EM} : sAppend i m ρ = ((lstAt i ρ).nox >>= fun _ => m ρ >>= fun p => p.1.v.nox >>= fun d => (lstAt i p.2).nox >>= fun ds => if szOk (ds.length + 1) = true then R.ok (.nx, p.2.set i (some (.lst (ds ++ [d])))) else .stk) := id rfl
@[simp] theorem e_lat {i : Nat} : lstAt i ρ = (match ρ[i]? with | some (some (.lst ds)) => .ok ds | _ => .stk) := id rfl
@[simp] theorem e_six {i : Nat} {mk mv : EM} : sSetIx i mk mv ρ = (mv ρ >>= fun p => p.1.v.nox >>= fun d => (lstAt i p.2).nox >>= fun _ => mk p.2 >>= fun q => q.1.v.nox >>= fun k => match k with | .int z => ((lstAt i q.2).nox >>= fun ds => match ixN ds.length z with | some j => R.ok (.nx, q.2.set i (some (.lst (ds.set j d)))) | none => .stk) | _ => .stk) := by
  unfold sSetIx; congr
@[simp] theorem e_expr {m : EM} : sExpr m ρ = (m ρ >>= fun p => R.ok (.nx, p.2)) := id rfl
@[simp] theorem e_for {U : List Nat} {im : IM} {tm : GM} {body : SM} {vs : List Nat} : sFor U im tm body vs ρ = (im ρ >>= fun p => if (p.1.2.all fun w => U.contains w) = true then forL tm body vs p.1.2 p.1.1 p.2 else .stk) := id rfl
@[simp] theorem e_w0 : wipeE ρ [] = ρ := id rfl
@[simp] theorem e_w1 {i : Nat} {is : List Nat} : wipeE ρ (i :: is) = (wipeE ρ is).set i none := id rfl
@[simp] theorem e_po0 {os : Env} : putOuts os [] ρ = ρ := id rfl
@[simp] theorem e_po1 {os : Env} {j i : Nat} {pr : List (Nat × Nat)} : putOuts os ((j, i) :: pr) ρ = (putOuts os pr ρ).set i (os.getD j none) := id rfl
@[simp] theorem e_pl0 {pr : List (Nat × Nat)} {j : Nat} : placed pr j [] = true := id rfl
@[simp] theorem e_pl1 {pr : List (Nat × Nat)} {j i : Nat} {hs : List Hd} : placed pr j (.ow i :: hs) = (pr.contains (j, i) && placed pr (j + 1) hs) := id rfl
@[simp] theorem e_pl2 {pr : List (Nat × Nat)} {j : Nat} {d : D} {hs : List Hd} : placed pr j (.vl d :: hs) = ((!pr.any fun p => p.1 == j) && placed pr (j + 1) hs) := id rfl
@[simp] theorem e_pl3 {pr : List (Nat × Nat)} {j : Nat} {d : D} {hs : List Hd} : placed pr j (.fr d :: hs) = ((!pr.any fun p => p.1 == j) && placed pr (j + 1) hs) := id rfl
@[simp] theorem e_rt0 {np : Nat} : retH np .nx ρ = .ok (.fr .non) := id rfl
@[simp] theorem e_rt1 {np : Nat} {d : D} : retH np (.rt (.fr d)) ρ = .ok (.fr d) := id rfl
@[simp] theorem e_rt2 {np : Nat} {d : D} : retH np (.rt (.vl d)) ρ = .ok (.vl d) := id rfl
@[simp] theorem e_rt3 {np i : Nat} : retH np (.rt (.ow i)) ρ = if np ≤ i then ((look i ρ).nox >>= fun d => R.ok (.fr d)) else .stk := id rfl
theorem e_fnP {np n : Nat} {m : SM} {ds : List D} : fnP np n m ds = (m (ds.map some ++ List.replicate (n - np) none) >>= fun p => (retH np p.1 p.2).nox) := rfl
theorem e_fnD {np n : Nat} {O : List Nat} {m : SM} {ds : List D} : fnD np n O m ds = (m (ds.map some ++ List.replicate (n - np) none) >>= fun p => (retH np p.1 p.2).nox >>= fun h => R.ok (h, outs O np p.2)) := rfl
@[simp] theorem e_outs1 {O : List Nat} : outs O 1 ρ = [if O.contains 0 = true then ρ.getD 0 none else none] := id rfl
@[simp] theorem e_outs2 {O : List Nat} : outs O 2 ρ = [if O.contains 0 = true then ρ.getD 0 none else none, if O.contains 1 = true then ρ.getD 1 none else none] := id rfl
@[simp] theorem e_outs3 {O : List Nat} : outs O 3 ρ = [if O.contains 0 = true then ρ.getD 0 none else none, if O.contains 1 = true then ρ.getD 1 none else none, if O.contains 2 = true then ρ.getD 2 none else none] := id rfl
@[simp] theorem e_outs4 {O : List Nat} : outs O 4 ρ = [if O.contains 0 = true then ρ.getD 0 none else none, if O.contains 1 = true then ρ.getD 1 none else none, if O.contains 2 = true then ρ.getD 2 none else none, if O.contains 3 = true then ρ.getD 3 none else none] := id rfl
@[simp] theorem e_outs5 {O : List Nat} : outs O 5 ρ = [if O.contains 0 = true then ρ.getD 0 none else none, if O.contains 1 = true then ρ.getD 1 none else none, if O.contains 2 = true then ρ.getD 2 none else none, if O.contains 3 = true then ρ.getD 3 none else none, if O.contains 4 = true then ρ.getD 4 none else none] := id rfl
end Y

set_option Elab.async false
set_option linter.all false
set_option maxRecDepth 100000
namespace Y
open PySem PySem.Spec PyProof.Rows L2
@[simp] theorem d_add {i j : Int} : addD (.int i) (.int j) = .ok (.int (i + j)) := id rfl
@[simp] theorem d_addT {x y : List D} : addD (.tup x) (.tup y) = if szOk (x.length + y.length) = true then .ok (.tup (x ++ y)) else .stk := id rfl
@[simp] theorem d_addL {x y : List D} : addD (.lst x) (.lst y) = if szOk (x.length + y.length) = true then .ok (.lst (x ++ y)) else .stk := id rfl
@[simp] theorem d_addS {x y : Str} : addD (.str x) (.str y) = if szOk (x.length + y.length) = true then .ok (.str (x ++ y)) else .stk := id rfl
@[simp] theorem d_mul {i j : Int} : mulD (.int i) (.int j) = if mulOk i j = true then .ok (.int (i * j)) else .stk := id rfl
@[simp] theorem d_fdiv {i j : Int} : fdivD (.int i) (.int j) = if smallPos j = true then .ok (.int (i / j)) else .stk := id rfl
@[simp] theorem d_mod {i j : Int} : modD (.int i) (.int j) = if 0 < j then .ok (.int (i % j)) else .stk := id rfl
@[simp] theorem d_lt {i j : Int} : ltD (.int i) (.int j) = .ok (.bl (decide (i < j))) := id rfl
@[simp] theorem d_le {i j : Int} : leD (.int i) (.int j) = .ok (.bl (decide (i ≤ j))) := id rfl
@[simp] theorem d_gt {i j : Int} : gtD (.int i) (.int j) = .ok (.bl (decide (j < i))) := id rfl
@[simp] theorem d_ge {i j : Int} : geD (.int i) (.int j) = .ok (.bl (decide (j ≤ i))) := id rfl
@[simp] theorem d_isN {x : D} : isD x .non = .ok (.bl (isNon x)) := by cases x <;> rfl
@[simp] theorem d_isB {a b : Bool} : isD (.bl a) (.bl b) = .ok (.bl (decide (a = b))) := id rfl
@[simp] theorem d_isnN {x : D} : isNotD x .non = .ok (.bl (!isNon x)) := by cases x <;> rfl
@[simp] theorem d_isnB {a b : Bool} : isNotD (.bl a) (.bl b) = .ok (.bl (!decide (a = b))) := id rfl
@[simp] theorem d_lenT {x : List D} : lenD [.tup x] = .ok (.int x.length) := id rfl
@[simp] theorem d_lenL {x : List D} : lenD [.lst x] = .ok (.int x.length) := id rfl
@[simp] theorem d_lenA {x : List Int} : lenD [.arg x] = .ok (.int x.length) := id rfl
@[simp] theorem d_lenS {x : Str} : lenD [.str x] = if szOk x.length = true then .ok (.int x.length) else .stk := id rfl
@[simp] theorem d_max {i j : Int} : max2D [.int i, .int j] = .ok (.int (max i j)) := id rfl
@[simp] theorem d_min {i j : Int} : min2D [.int i, .int j] = .ok (.int (min i j)) := id rfl
@[simp] theorem d_tupL {x : List D} : tupleD [.lst x] = .ok (.tup x) := id rfl
@[simp] theorem d_tupT {x : List D} : tupleD [.tup x] = .ok (.tup x) := id rfl
@[simp] theorem d_intI {i : Int} : intOfD [.int i] = .ok (.int i) := id rfl
@[simp] theorem d_intB {k : Bool} : intOfD [.bl k] = .ok (.int (if k then 1 else 0)) := id rfl
@[simp] theorem d_ixT {x : List D} {i : Int} : ixD (.tup x) (.int i) = match atI x i with | some d => .ok d | none => .stk := id rfl
@[simp] theorem d_ixL {x : List D} {i : Int} : ixD (.lst x) (.int i) = match atI x i with | some d => .ok d | none => .stk := id rfl
@[simp] theorem d_ixA {x : List Int} {i : Int} : ixD (.arg x) (.int i) = match atI x i with | some n => .ok (.int n) | none => .stk := id rfl
@[simp] theorem d_slT {x : List D} {a b : Option Int} : sliceD (.tup x) a b = .ok (.tup (cutD x a b)) := id rfl
@[simp] theorem d_slL {x : List D} {a b : Option Int} : sliceD (.lst x) a b = .ok (.lst (cutD x a b)) := id rfl
@[simp] theorem d_itL {x : List D} : itD (.lst x) = .ok x := id rfl
@[simp] theorem d_itT {x : List D} : itD (.tup x) = .ok x := id rfl
@[simp] theorem d_itA {x : List Int} : itD (.arg x) = .ok (x.map D.int) := id rfl
@[simp] theorem d_rng1 {j : Int} : rng1D [.int j] = if rngOk j = true then .ok ((List.range j.toNat).map fun i => D.int (i : Nat)) else .stk := by
  show (if rngOk j = true then R.ok ((List.range j.toNat).map fun i => D.int (0 + (i : Nat))) else .stk) = _
  simp
@[simp] theorem d_truB {b : Bool} : truD (.bl b) = .ok b := id rfl
@[simp] theorem d_truN : truD .non = .ok false := id rfl
@[simp] theorem d_truI {i : Int} : truD (.int i) = .ok (i != 0) := id rfl
@[simp] theorem d_truL {x : List D} : truD (.lst x) = .ok (!x.isEmpty) := id rfl
@[simp] theorem d_truT {x : List D} : truD (.tup x) = .ok (!x.isEmpty) := id rfl
theorem ints_map : ∀ xs : List Int, intsOf (xs.map .int) = some xs
  | [] => rfl
  | x :: xs => by simp [intsOf, ints_map xs]
theorem bls_map : ∀ xs : List Bool, blsOf (xs.map .bl) = some xs
  | [] => rfl
  | x :: xs => by simp [blsOf, bls_map xs]
@[simp] theorem d_sum {xs : List Int} : sumD [.lst (xs.map .int)] = .ok (.int xs.sum) := by
  show (match intsOf (xs.map .int) with | some ns => R.ok (D.int ns.sum) | none => .stk) = _
  rw [ints_map]
@[simp] theorem d_all {xs : List Bool} : allD [.lst (xs.map .bl)] = .ok (.bl (xs.all id)) := by
  show (match blsOf (xs.map .bl) with | some ns => R.ok (D.bl (ns.all id)) | none => .stk) = _
  rw [bls_map]
@[simp] theorem d_isNon {x : D} : isNon .non = true := id rfl
theorem szOk_of {n : Nat} (h : n ≤ 16777216) : szOk n = true := decide_eq_true (show n ≤ sizeLine from by unfold sizeLine; omega)
theorem smallPos_of {j : Int} (h : 0 < j) (h2 : j < 1073741824) : smallPos j = true := decide_eq_true ⟨h, h2⟩
theorem rngOk_of {j : Int} (h : -4611686018427387904 ≤ j) (h2 : j < 4611686018427387904) : rngOk j = true := decide_eq_true ⟨by omega, by omega⟩
theorem mulOk_l {i j : Int} (h : i.natAbs < 2 ^ 64) : mulOk i j = true := by
  unfold mulOk
  rw [decide_eq_true h]
  rfl
theorem mulOk_r {i j : Int} (h : j.natAbs < 2 ^ 64) : mulOk i j = true := by
  unfold mulOk
  rw [decide_eq_true h]
  simp
@[simp] theorem sz0 : szOk 0 = true := by decide
@[simp] theorem sz1 : szOk 1 = true := by decide
@[simp] theorem sz2 : szOk 2 = true := by decide
@[simp] theorem sz3 : szOk 3 = true := by decide
theorem atI_of {α : Type} {xs : List α} {i : Int} {j : Nat} {x : α} (hi : i = j) (h : xs[j]? = some x) : atI xs i = some x := by
  have hj : j < xs.length := (List.getElem?_eq_some_iff.mp h).1
  unfold atI ixN
  subst hi
  rw [if_pos (by omega), if_pos (by omega)]
  show xs[(j : Int).toNat]? = some x
  rw [Int.toNat_natCast, h]
theorem atI_lt {α : Type} {xs : List α} {i : Int} (h0 : 0 ≤ i) (h : i < xs.length) : atI xs i = some (xs[i.toNat]'(by omega)) :=
  atI_of (j := i.toNat) (by omega) (List.getElem?_eq_getElem (by omega))
def eqPs : List D → List D → Bool
  | [], [] => true
  | x :: xs, y :: ys => eqP x y && eqPs xs ys
  | _, _ => false
theorem eqPs_py : ∀ xs ys : List D, PyData.eqvAll (toPys xs) (toPys ys) = eqPs xs ys
  | [], [] => by simp [toPys, PyData.eqvAll, eqPs]
  | [], _ :: _ => by simp [toPys, PyData.eqvAll, eqPs]
  | _ :: _, [] => by simp [toPys, PyData.eqvAll, eqPs]
  | x :: xs, y :: ys => by simp [toPys, PyData.eqvAll, eqPs, eqP, eqPs_py xs ys]
@[simp] theorem eqP_int {i j : Int} : eqP (.int i) (.int j) = (i == j) := by simp [eqP, toPy, PyData.eqv]
@[simp] theorem eqP_bl {i j : Bool} : eqP (.bl i) (.bl j) = (i == j) := by simp [eqP, toPy, PyData.eqv]
@[simp] theorem eqP_str {i j : Str} : eqP (.str i) (.str j) = (i == j) := by simp [eqP, toPy, PyData.eqv]
@[simp] theorem eqP_tup {xs ys : List D} : eqP (.tup xs) (.tup ys) = eqPs xs ys := by simp [eqP, toPy, PyData.eqv, eqPs_py]
@[simp] theorem eqP_lst {xs ys : List D} : eqP (.lst xs) (.lst ys) = eqPs xs ys := by simp [eqP, toPy, PyData.eqv, eqPs_py]
@[simp] theorem eqPs_ints : ∀ {xs ys : List Int}, eqPs (xs.map .int) (ys.map .int) = decide (xs = ys)
  | [], [] => by simp [eqPs]
  | [], _ :: _ => by simp [eqPs]
  | _ :: _, [] => by simp [eqPs]
  | x :: xs, y :: ys => by
    have ih := eqPs_ints (xs := xs) (ys := ys)
    simp only [List.map_cons, eqPs, eqP_int, ih, List.cons.injEq]
    by_cases h : x = y <;> simp [h]
/-- a depth that the machine bears; no dict; texts that it bears -/
def Fit : Nat → D → Prop
  | _, .non => True
  | _, .bl _ => True
  | _, .int _ => True
  | _, .str x => PyData.strOk x = true
  | n + 1, .tup ds => ∀ d ∈ ds, Fit n d
  | n + 1, .lst ds => ∀ d ∈ ds, Fit n d
  | n + 1, .ftu ds => ∀ d ∈ ds, Fit n d
  | _, _ => False
theorem fits_py {n : Nat} : ∀ {ds : List D}, (∀ d ∈ ds, (toPy d).canLay0 = true ∧ (toPy d).depth ≤ n) → PyData.canLayAll0 (toPys ds) = true ∧ PyData.depthAll (toPys ds) ≤ n
  | [], _ => by simp [toPys, PyData.canLayAll0, PyData.depthAll]
  | d :: ds, h => by
    have h1 := h d (by simp)
    have h2 := fits_py (ds := ds) fun e he => h e (by simp [he])
    simp only [toPys, PyData.canLayAll0, PyData.depthAll, h1.1, h2.1, Bool.and_self, true_and]
    omega
theorem fit_py : ∀ {n : Nat} {d : D}, Fit n d → (toPy d).canLay0 = true ∧ (toPy d).depth ≤ n
  | n, .non, _ => by simp [toPy, PyData.canLay0, PyData.depth]
  | n, .bl _, _ => by simp [toPy, PyData.canLay0, PyData.depth]
  | n, .int _, _ => by simp [toPy, PyData.canLay0, PyData.depth]
  | n, .str x, h => by
    have h : PyData.strOk x = true := by cases n <;> exact h
    simp [toPy, PyData.canLay0, PyData.depth, h]
  | 0, .tup ds, h => h.elim
  | 0, .lst ds, h => h.elim
  | n + 1, .tup ds, h => by
    have h : ∀ d ∈ ds, Fit n d := h
    have := fits_py fun d hd => fit_py (h d hd)
    simp only [toPy, PyData.canLay0, PyData.depth, this.1, true_and]
    omega
  | n + 1, .lst ds, h => by
    have h : ∀ d ∈ ds, Fit n d := h
    have := fits_py fun d hd => fit_py (h d hd)
    simp only [toPy, PyData.canLay0, PyData.depth, this.1, true_and]
    omega
  | 0, .ftu ds, h => h.elim
  | n + 1, .ftu ds, h => by
    have h : ∀ d ∈ ds, Fit n d := h
    have := fits_py fun d hd => fit_py (h d hd)
    simp only [toPy, PyData.canLay0, PyData.depth, this.1, true_and]
    omega
  | n, .arg _, h => by cases n <;> exact h.elim
  | n, .dik _ _, h => by cases n <;> exact h.elim
  | n, .dit _ _, h => by cases n <;> exact h.elim
  | n, .tab _ _, h => by cases n <;> exact h.elim
theorem dOk_fit {n : Nat} {d : D} (h : Fit n d) (hn : n ≤ 64 := by decide) : dOk d = true := by
  have := fit_py h
  unfold dOk SeqAt.shaped
  rw [this.1, decide_eq_true (by omega)]
  rfl
theorem fit_bl {n : Nat} {i : Bool} : Fit n (.bl i) := by cases n <;> trivial
theorem eqD_of {n : Nat} {x y : D} (hx : Fit n x) (hy : Fit n y) (hn : n ≤ 64 := by decide) : eqD x y = .ok (.bl (eqP x y)) := by
  unfold eqD
  rw [dOk_fit hx hn, dOk_fit hy hn]
  rfl
theorem neD_of {n : Nat} {x y : D} (hx : Fit n x) (hy : Fit n y) (hn : n ≤ 64 := by decide) : neD x y = .ok (.bl (!eqP x y)) := by
  unfold neD
  rw [dOk_fit hx hn, dOk_fit hy hn]
  rfl
@[simp] theorem eqD_int {i j : Int} : eqD (.int i) (.int j) = .ok (.bl (decide (i = j))) := by
  rw [eqD_of (n := 0) (by unfold Fit; trivial) (by unfold Fit; trivial), eqP_int]
  by_cases h : i = j <;> simp [h]
@[simp] theorem neD_int {i j : Int} : neD (.int i) (.int j) = .ok (.bl (!decide (i = j))) := by
  rw [neD_of (n := 0) (by unfold Fit; trivial) (by unfold Fit; trivial), eqP_int]
  by_cases h : i = j <;> simp [h]
theorem eqPs_refl : ∀ {ds : List D}, (∀ d ∈ ds, eqP d d = true) → eqPs ds ds = true
  | [], _ => rfl
  | d :: ds, h => by simp [eqPs, h d (by simp), eqPs_refl (ds := ds) fun e he => h e (by simp [he])]
theorem eqP_refl : ∀ {n : Nat} {d : D}, Fit n d → eqP d d = true
  | n, .non, _ => by simp [eqP, toPy, PyData.eqv]
  | n, .bl _, _ => by simp
  | n, .int _, _ => by simp
  | n, .str x, h => by simp
  | 0, .tup ds, h => h.elim
  | 0, .lst ds, h => h.elim
  | n + 1, .tup ds, h => by
    have h : ∀ d ∈ ds, Fit n d := h
    rw [eqP_tup]
    exact eqPs_refl fun d hd => eqP_refl (h d hd)
  | n + 1, .lst ds, h => by
    have h : ∀ d ∈ ds, Fit n d := h
    rw [eqP_lst]
    exact eqPs_refl fun d hd => eqP_refl (h d hd)
  | 0, .ftu ds, h => h.elim
  | n + 1, .ftu ds, h => by
    have h : ∀ d ∈ ds, Fit n d := h
    rw [show eqP (.ftu ds) (.ftu ds) = eqPs ds ds from eqP_tup]
    exact eqPs_refl fun d hd => eqP_refl (h d hd)
  | n, .arg _, h => by cases n <;> exact h.elim
  | n, .dik _ _, h => by cases n <;> exact h.elim
  | n, .dit _ _, h => by cases n <;> exact h.elim
  | n, .tab _ _, h => by cases n <;> exact h.elim
theorem neD_refl {n : Nat} {x : D} (hx : Fit n x) (hn : n ≤ 64 := by decide) : neD x x = .ok (.bl false) := by rw [neD_of hx hx hn, eqP_refl hx]; rfl
def ChkL (O W : List Nat) : Nat → Env → Env → Prop
  | _, _, [] => True
  | j, x :: xs, y :: ys => (y = none ∨ (y = x ∧ j ∉ W) ∨ (∃ d, y = some d ∧ ((j ∈ O ∧ d.shallow = true) ∨ d.nl = true))) ∧ ChkL O W (j + 1) xs ys
  | _, [], _ :: _ => False
theorem ChkL.at {O W : List Nat} : ∀ {ρ ρ' : Env} {k j : Nat} {d : D}, ChkL O W k ρ ρ' → ρ'[j]? = some (some d) → (ρ[j]? = some (some d) ∧ k + j ∉ W) ∨ (k + j ∈ O ∧ d.shallow = true) ∨ d.nl = true
  | _, [], _, _, _, _, e => by simp at e
  | [], _ :: _, _, _, _, h, _ => h.elim
  | x :: xs, y :: ys, k, 0, d, h, e => by
    simp at e
    subst e
    rcases h.1 with h | ⟨h, w⟩ | ⟨d', h, w⟩
    · cases h
    · exact .inl ⟨by simp [h], w⟩
    · cases h; exact .inr w
  | x :: xs, y :: ys, k, j + 1, d, h, e => by
    have := ChkL.at (j := j) h.2 (by simpa using e)
    rw [show k + (j + 1) = k + 1 + j by omega]
    simpa using this
@[simp] theorem e_wsf {d : D} : Hd.ws (.fr d) = [] := id rfl
@[simp] theorem e_wsv {d : D} : Hd.ws (.vl d) = [] := id rfl
@[simp] theorem e_wso {i : Nat} : Hd.ws (.ow i) = [i] := id rfl
def shAt (i : Nat) (ρ : Y.Env) : Bool := match ρ[i]? with | some (some d) => d.shallow | _ => true
@[simp] theorem chkO_w1 {O : List Nat} {i : Nat} {ρ : Y.Env} (hi : i ∈ O) (h : shAt i ρ = true) : chkO O [i] ρ ρ = .ok () := by
  unfold chkO
  rw [if_pos]
  intro j d e
  by_cases c : j = i
  · subst c
    unfold shAt at h
    rw [e] at h
    exact .inr (.inl ⟨hi, h⟩)
  · exact .inl ⟨e, by simpa using c⟩
@[simp] theorem shL {ds : List D} : D.shallow (.lst ds) = nls ds := id rfl
@[simp] theorem nls0 : nls [] = true := by simp [nls]
@[simp] theorem nls1 {d : D} {ds : List D} : nls (d :: ds) = (d.nl && nls ds) := by simp [nls]
@[simp] theorem nlI {i : Int} : D.nl (.int i) = true := by simp [D.nl]
@[simp] theorem nlB {i : Bool} : D.nl (.bl i) = true := by simp [D.nl]
@[simp] theorem nlS {i : Str} : D.nl (.str i) = true := by simp [D.nl]
@[simp] theorem nlN : D.nl .non = true := by simp [D.nl]
@[simp] theorem nlT {ds : List D} : D.nl (.tup ds) = nls ds := by simp [D.nl]
@[simp] theorem owL {ds : List D} : D.ownable (.lst ds) = true := id rfl
theorem nls_all : ∀ {ds : List D}, (∀ d ∈ ds, d.nl = true) → nls ds = true
  | [], _ => by simp
  | d :: ds, h => by simp [h d (by simp), nls_all fun e he => h e (List.mem_cons_of_mem _ he)]
@[simp] theorem nls_ints {xs : List Int} : nls (xs.map D.int) = true := nls_all fun d h => by
  obtain ⟨x, _, rfl⟩ := List.mem_map.mp h
  simp
/-- one turn of a comprehension; of a for -/
def turnC (tm : GM) (t : BM) (e : EM) (vs : List Nat) (x : D) (ρ : Env) : R (Option D × Env) :=
  tm x ρ >>= fun ρ1 => t ρ1 >>= fun p => if p.1 = true then (e p.2 >>= fun q => q.1.v >>= fun d => R.ok (some d, wipeE q.2 vs)) else R.ok (none, wipeE p.2 vs)
def turnF (tm : GM) (body : SM) (vs : List Nat) (x : D) (ρ : Env) : R (Fl × Env) :=
  (tm x ρ).nox >>= fun ρ1 => body ρ1 >>= fun p => match p.1 with | .nx => R.ok (.nx, wipeE p.2 vs) | .ct => R.ok (.nx, wipeE p.2 vs) | f => R.ok (f, p.2)
theorem comp_cons {tm : GM} {t : BM} {e : EM} {vs ws : List Nat} {x : D} {xs ys : List D} {ρ ρ' ρf : Env} {o : Option D} (h : turnC tm t e vs x ρ = .ok (o, ρ')) (hw : ∀ w ∈ ws, ρ'[w]? = ρ[w]?) (h2 : cCompL tm t e vs ws xs ρ' = .ok (ys, ρf)) : cCompL tm t e vs ws (x :: xs) ρ = .ok (o.toList ++ ys, ρf) := by
  have ck : chk ws ρ ρ' = .ok () := by unfold chk; rw [if_pos hw]
  unfold turnC at h
  obtain ⟨ρ1, e1, h⟩ := R.ok_of h
  obtain ⟨⟨k, ρ2⟩, e3, h⟩ := R.ok_of h
  unfold cCompL
  rw [e1]
  simp only [R.bind_ok]
  rw [e3]
  cases k with
  | false =>
    have h : R.ok (none, wipeE ρ2 vs) = R.ok (o, ρ') := h
    cases h
    simp only [R.bind_ok, Bool.false_eq_true, if_false]
    rw [ck]
    exact h2
  | true =>
    have h : (e ρ2 >>= fun q => q.1.v >>= fun d => R.ok (some d, wipeE q.2 vs)) = R.ok (o, ρ') := h
    obtain ⟨⟨hd, ρ3⟩, e4, h⟩ := R.ok_of h
    obtain ⟨d, e5, h⟩ := R.ok_of h
    cases h
    simp only [R.bind_ok, if_true]
    rw [e4]
    simp only [R.bind_ok]
    rw [show hd.v = _ from e5]
    simp only [R.bind_ok]
    rw [ck]
    simp only [R.bind_ok]
    rw [h2]
    rfl
theorem for_cons {tm : GM} {body : SM} {vs ws : List Nat} {x : D} {xs : List D} {ρ ρ' : Env} {r : R (Fl × Env)} (h : turnF tm body vs x ρ = .ok (.nx, ρ')) (hw : ∀ w ∈ ws, ρ'[w]? = ρ[w]?) (h2 : forL tm body vs ws xs ρ' = r) : forL tm body vs ws (x :: xs) ρ = r := by
  have ck : chk ws ρ ρ' = .ok () := by unfold chk; rw [if_pos hw]
  unfold turnF at h
  obtain ⟨ρ1, e1, h⟩ := R.ok_of h
  obtain ⟨⟨f, ρ2⟩, e3, h⟩ := R.ok_of h
  unfold forL
  rw [e1]
  simp only [R.bind_ok]
  rw [e3]
  cases f with
  | nx =>
    have h : R.ok (Fl.nx, wipeE ρ2 vs) = R.ok (Fl.nx, ρ') := h
    cases h
    simp only [R.bind_ok]
    rw [ck]
    exact h2
  | ct =>
    have h : R.ok (Fl.nx, wipeE ρ2 vs) = R.ok (Fl.nx, ρ') := h
    cases h
    simp only [R.bind_ok]
    rw [ck]
    exact h2
  | bk => cases h
  | rt _ => cases h
/-- the loop ends in this turn -/
theorem for_rt {tm : GM} {body : SM} {vs ws : List Nat} {x : D} {xs : List D} {ρ ρ' : Env} {hd : Hd} (h : turnF tm body vs x ρ = .ok (.rt hd, ρ')) : forL tm body vs ws (x :: xs) ρ = .ok (.rt hd, ρ') := by
  unfold turnF at h
  obtain ⟨ρ1, e1, h⟩ := R.ok_of h
  obtain ⟨⟨f, ρ2⟩, e3, h⟩ := R.ok_of h
  unfold forL
  rw [e1]
  simp only [R.bind_ok]
  rw [e3]
  cases f with
  | nx => cases h
  | ct => cases h
  | bk => cases h
  | rt _ => cases h; rfl
section
variable {α : Type}
/-- the yields of a comprehension and the state behind it -/
def yields {S : Type} (next : S → α → S) (out : S → α → Option D) : List α → S → List D × S
  | [], s => ([], s)
  | x :: xs, s => ((out s x).toList ++ (yields next out xs (next s x)).1, (yields next out xs (next s x)).2)
/-- a comprehension that changes nothing: f is what it yields -/
theorem comp_map {tm : GM} {t : BM} {e : EM} {vs ws : List Nat} {ρ : Env} (F f : α → D) : ∀ (xs : List α),
    (∀ x ∈ xs, turnC tm t e vs (F x) ρ = .ok (some (f x), ρ)) → cCompL tm t e vs ws (xs.map F) ρ = .ok (xs.map f, ρ)
  | [], _ => rfl
  | x :: xs, h => comp_cons (h x (by simp)) (fun _ _ => rfl) (comp_map F f xs fun y hy => h y (by simp [hy]))
/-- .. with a test p, yields f -/
theorem comp_filter {tm : GM} {t : BM} {e : EM} {vs ws : List Nat} {ρ : Env} (F : α → D) (p : α → Bool) (f : α → D) : ∀ (xs : List α),
    (∀ x ∈ xs, turnC tm t e vs (F x) ρ = .ok (if p x = true then some (f x) else none, ρ)) → cCompL tm t e vs ws (xs.map F) ρ = .ok ((xs.filter p).map f, ρ)
  | [], _ => rfl
  | x :: xs, h => by
    have := comp_cons (ws := ws) (h x (by simp)) (fun _ _ => rfl) (comp_filter F p f xs fun y hy => h y (by simp [hy]))
    rw [List.map_cons, this]
    cases hp : p x with
    | false => rw [List.filter_cons_of_neg (by simp [hp])]; rfl
    | true => rw [List.filter_cons_of_pos hp]; rfl
/-- for: states -/
theorem for_run {S : Type} {tm : GM} {body : SM} {vs ws : List Nat} (F : α → D) (rho : S → Env) (next : S → α → S) (I : S → Prop) : ∀ (xs : List α) (s : S), I s →
    (∀ s x, I s → x ∈ xs → I (next s x) ∧ (∀ w ∈ ws, (rho (next s x))[w]? = (rho s)[w]?) ∧ turnF tm body vs (F x) (rho s) = .ok (.nx, rho (next s x))) →
    forL tm body vs ws (xs.map F) (rho s) = .ok (.nx, rho (xs.foldl next s)) ∧ I (xs.foldl next s)
  | [], s, hs, _ => ⟨rfl, hs⟩
  | x :: xs, s, hs, h => by
    obtain ⟨h1, hw, h2⟩ := h s x hs (by simp)
    have ih := for_run F rho next I xs (next s x) h1 fun s y hs hy => h s y hs (by simp [hy])
    exact ⟨for_cons h2 hw ih.1, ih.2⟩
/-- for: something that holds of what stands -/
theorem for_inv {tm : GM} {body : SM} {vs ws : List Nat} (F : α → D) (I : Env → Prop) : ∀ (xs : List α) (ρ : Env), I ρ →
    (∀ ρ x, I ρ → x ∈ xs → ∃ ρ', turnF tm body vs (F x) ρ = .ok (.nx, ρ') ∧ I ρ' ∧ (∀ w ∈ ws, ρ'[w]? = ρ[w]?)) →
    ∃ ρ', forL tm body vs ws (xs.map F) ρ = .ok (.nx, ρ') ∧ I ρ'
  | [], ρ, hs, _ => ⟨ρ, rfl, hs⟩
  | x :: xs, ρ, hs, h => by
    obtain ⟨ρ1, e1, e3, hw⟩ := h ρ x hs (by simp)
    obtain ⟨ρ', e4, h4⟩ := for_inv (body := body) (tm := tm) (ws := ws) F I xs ρ1 e3 fun s y hs hy => h s y hs (by simp [hy])
    exact ⟨ρ', for_cons e1 hw e4, h4⟩
/-- for: by the turn's number -/
theorem for_idx {tm : GM} {body : SM} {vs ws : List Nat} (F : α → D) : ∀ (xs : List α) (rho : Nat → Env),
    (∀ i (h : i < xs.length), (∀ w ∈ ws, (rho (i + 1))[w]? = (rho i)[w]?) ∧ turnF tm body vs (F xs[i]) (rho i) = .ok (.nx, rho (i + 1))) → forL tm body vs ws (xs.map F) (rho 0) = .ok (.nx, rho xs.length)
  | [], rho, _ => rfl
  | x :: xs, rho, h => by
    have h0 := h 0 (by simp)
    have ih := for_idx F xs (fun i => rho (i + 1)) fun i hi => h (i + 1) (by simp; omega)
    exact for_cons h0.2 h0.1 ih
theorem for_rng {tm : GM} {body : SM} {vs ws : List Nat} {n : Nat} (F : Nat → D) (rho : Nat → Env) (h : ∀ i, i < n → (∀ w ∈ ws, (rho (i + 1))[w]? = (rho i)[w]?) ∧ turnF tm body vs (F i) (rho i) = .ok (.nx, rho (i + 1))) : forL tm body vs ws ((List.range n).map F) (rho 0) = .ok (.nx, rho n) := by
  have := for_idx (tm := tm) (body := body) (vs := vs) (ws := ws) F (List.range n) rho fun i hi => by
    rw [List.getElem_range]
    exact h i (by simpa using hi)
  rwa [List.length_range] at this
/-- a comprehension whose turns change what stands: something of each yield -/
theorem comp_ex {S β : Type} {tm : GM} {t : BM} {e : EM} {vs ws : List Nat} (F : α → D) (G : β → D) (rho : S → Env) (P : β → Prop) : ∀ (xs : List α) (s : S),
    (∀ s x, x ∈ xs → ∃ y s', turnC tm t e vs (F x) (rho s) = .ok (some (G y), rho s') ∧ P y ∧ (∀ w ∈ ws, (rho s')[w]? = (rho s)[w]?)) →
    ∃ (ys : List β) (s' : S), cCompL tm t e vs ws (xs.map F) (rho s) = .ok (ys.map G, rho s') ∧ ys.length = xs.length ∧ ∀ y ∈ ys, P y
  | [], s, _ => ⟨[], s, rfl, rfl, by simp⟩
  | x :: xs, s, h => by
    obtain ⟨y, s1, e1, p1, w1⟩ := h s x (by simp)
    obtain ⟨ys, s2, e2, l2, p2⟩ := comp_ex F G rho P xs s1 fun s y hy => h s y (by simp [hy])
    exact ⟨y :: ys, s2, comp_cons e1 w1 e2, by simp [l2], by simpa using ⟨p1, p2⟩⟩
end
end Y

set_option Elab.async false
set_option linter.all false
set_option maxRecDepth 100000
namespace Y
open PySem PySem.Spec PyProof.Rows L2
def rgD (a b : Int) : List D := (List.range (b - a).toNat).map fun i => D.int (a + (i : Nat))
def rgB (a b : Int) : Bool := rngOk a && rngOk b && decide ((b - a).toNat ≤ 16777216)
def cRg1 (l : Bool) (m : EM) : EM := fun ρ => do
  let (h, ρ1) ← m ρ
  let d ← h.v.nox
  match d with
  | .int n => if rgB 0 n = true then pure (.fr (if l then .lst (rgD 0 n) else .tup (rgD 0 n)), ρ1) else .stk
  | _ => .stk
section
variable {K : PySem.W.Frag} {X : Cx} {P0 : Pr} {O W U : List Nat} {E : EK} {a b e : Expr} {es : List Expr} {ma mb : EM} {ms : AM} {pos : Pos}
theorem rgB_ok {a b : Int} (h : rgB a b = true) : RgOk a b := by
  unfold rgB rngOk at h
  simp only [Bool.and_eq_true, decide_eq_true_eq] at h
  obtain ⟨⟨h1, h2⟩, h3⟩ := h
  exact ⟨by omega, by omega, by omega, by omega, by have e : (2 : Nat) ^ 24 = 16777216 := by decide
                                                    omega⟩
theorem reps_rg {H : Hp} {P : Pr} {a b : Int} : Reps K H (rgD a b) P (rgV a b) := by
  unfold rgD rgV
  induction (List.range (b - a).toNat) with
  | nil => exact Reps.nil
  | cons x xs ih => exact Reps.cons (by unfold Rep; rfl) ih
theorem out_lst {P : Pr} {H : Hp} {ds : List D} {vs : List V} {Q : VK} (hm : ∀ b, P b → isMut (H b)) (o : Out K P H (.lst ds) Q) (r : ∀ H' P', Reps K H' ds P' vs) : ∀ q, H q = none → Q (.ref q) (upd H q (.lst vs)) := fun q hq => o _ _ (fun b u eb => by rw [upd_ne (ne_of_none eb hq)]; exact eb) (by
    unfold Rep
    exact ⟨q, vs, rfl, fun z => (hm q z).some hq, upd_same, r _ _⟩) fun _ a e => by cases e; exact hq
theorem out_tup {P : Pr} {H : Hp} {ds : List D} {vs : List V} {Q : VK} (o : Out K P H (.tup ds) Q) (r : ∀ H' P', Reps K H' ds P' vs) : ∀ q, H q = none → Q (.ref q) (upd H q (.tup vs)) := fun q hq => o _ _ (fun b u eb => by rw [upd_ne (ne_of_none eb hq)]; exact eb) (by
    unfold Rep
    exact ⟨q, vs, rfl, upd_same, r _ _⟩) fun m => by cases m
theorem tM_rg1 {l : Bool} (σ : St) (H : Hp) (Q : VK) (h : tM X.K P0 O W E (cRg1 l ma) σ H Q) : tRg1 (tM X.K P0 O W E ma) σ H fun a b H1 => RgOk a b ∧ ∀ q, H1 q = none → Q (.ref q) (upd H1 q (if l then .lst (rgV a b) else .tup (rgV a b))) := by
  obtain ⟨ρ, S, h⟩ := h
  refine ⟨ρ, S, h.of_bind.mono fun ⟨hd, ρ1⟩ q v H1 S1 k1 r1 => ?_⟩
  obtain ⟨d, e1, q⟩ := q.of_nox
  have rd := r1.v e1
  cases d <;> first | (exact q.elim) | skip
  rename_i n
  unfold Rep at rd
  subst rd
  refine ⟨n, rfl, ?_⟩
  by_cases c : rgB 0 n = true
  · have q : Res E W σ H (if rgB 0 n = true then R.ok (Hd.fr (if l then .lst (rgD 0 n) else .tup (rgD 0 n)), ρ1) else .stk) _ := q
    rw [if_pos c] at q
    refine ⟨rgB_ok c, ?_⟩
    have o := out_of S1 k1 q
    cases l with
    | true => exact out_lst S1.dom o fun _ _ => reps_rg
    | false => exact out_tup o fun _ _ => reps_rg
  · have q : Res E W σ H (if rgB 0 n = true then R.ok (Hd.fr (if l then .lst (rgD 0 n) else .tup (rgD 0 n)), ρ1) else .stk) _ := q
    rw [if_neg c] at q
    exact q.elim
theorem ce_lrg1 {p p2 pos : Pos} (hc : X.calm = true) (hm : X.mg "list" = none) (hm2 : X.mg "range" = none) (ha : CEx X P0 O W E a ma) (hg : Gl X "list" := by rfl) (hg2 : Gl X "range" := by rfl) (na : starEach [a] X.env = (false, eval a X.env) :: starEach [] X.env := by rfl)
    (na2 : starEach [.Call (.Name "range" p) [a] [] p2] X.env = (false, eval (.Call (.Name "range" p) [a] [] p2) X.env) :: starEach [] X.env := by rfl) {q : Pos} : CEx X P0 O W E (.Call (.Name "list" q) [.Call (.Name "range" p) [a] [] p2] [] pos) (cRg1 true ma) :=
  PE.imp (pe_listRg hc hg hm (prg_1 hg2 hm2 ha na) na2) fun σ H Q h => tM_rg1 σ H Q h
theorem ce_trg1 {p p2 pos : Pos} (hc : X.calm = true) (hm : X.mg "tuple" = none) (hm2 : X.mg "range" = none) (ha : CEx X P0 O W E a ma) (hg : Gl X "tuple" := by rfl) (hg2 : Gl X "range" := by rfl) (na : starEach [a] X.env = (false, eval a X.env) :: starEach [] X.env := by rfl)
    (na2 : starEach [.Call (.Name "range" p) [a] [] p2] X.env = (false, eval (.Call (.Name "range" p) [a] [] p2) X.env) :: starEach [] X.env := by rfl) {q : Pos} : CEx X P0 O W E (.Call (.Name "tuple" q) [.Call (.Name "range" p) [a] [] p2] [] pos) (cRg1 false ma) :=
  PE.imp (pe_tupRg hc hg hm (prg_1 hg2 hm2 ha na) na2) fun σ H Q h => tM_rg1 σ H Q h
def sortI (ns : List Int) : List Int := ns.mergeSort (fun a b => decide (a ≤ b))
theorem sortI_perm (ns : List Int) : (sortI ns).Perm ns := List.mergeSort_perm _ _
theorem sortI_pw (ns : List Int) : (sortI ns).Pairwise (· ≤ ·) := by
  have := List.pairwise_mergeSort (le := fun a b : Int => decide (a ≤ b)) (fun a b c h1 h2 => by simp at *; omega) (fun a b => by simp; omega) ns
  exact this.imp fun h => by simpa using h
theorem sortI_of {ns ms : List Int} (p : ms.Perm ns) (h : ms.Pairwise (· ≤ ·)) : ms = sortI ns :=
  List.Perm.eq_of_pairwise (le := fun a b : Int => a ≤ b) (fun a b _ _ h1 h2 => by omega) h (sortI_pw ns) (p.trans (sortI_perm ns).symm)
def sortedD : List D → R D
  | [.lst ds] => match intsOf ds with | some ns => .ok (.lst ((sortI ns).map D.int)) | none => .stk
  | _ => .stk
theorem cd_sortedI : CallR X (.builtin "sorted") (rDs X.K sortedD) := by
  intro pins s σ H xs us Q I r ⟨P, ds, dz, hm, rs, e, out⟩
  unfold sortedD at e
  split at e
  · split at e
    · rename_i ns ei
      cases e
      obtain ⟨v, rfl, r1⟩ := rs.get1
      obtain ⟨a, vs, rfl, h1, h2⟩ := r1.lst
      rw [ints_rep ei h2] at h1
      exact cr_sortedI pins s σ H _ us Q I r ⟨a, ns, rfl, SqL.of h1, fun ns' p pp pw hp => by
        rw [sortI_of pp pw]
        exact out_lst hm out (fun _ _ => reps_ints _) p hp⟩
    · cases e
  · cases e
@[simp] theorem d_sortI {xs : List Int} : sortedD [.lst (xs.map D.int)] = .ok (.lst ((sortI xs).map D.int)) := by
  show (match intsOf (xs.map .int) with | some ns => R.ok (D.lst ((sortI ns).map D.int)) | none => .stk) = _
  rw [ints_map]
def popRes (i : Nat) (ds : List D) (z : Int) (ρ1 : Y.Env) : R (Hd × Y.Env) := if szOk ds.length = true then (match ixN ds.length z with
    | some k => (match ds[k]? with
      | some d => .ok (.vl d, ρ1.set i (some (.lst (ds.eraseIdx k))))
      | none => .stk)
    | none => .stk) else .stk
def cPopAt (i : Nat) (m : EM) : EM := fun ρ => do
  let _ ← (lstAt i ρ).nox
  let (h, ρ1) ← m ρ
  let d ← h.v.nox
  match d with
  | .int z => do
    let ds ← (lstAt i ρ1).nox
    popRes i ds z ρ1
  | _ => .stk
theorem Keep.ownW {i : Nat} {l : Addr} {o : HO} {σ : St} {H H1 : Hp} (k : Keep W σ H H1) (hi : i ∈ W) (ha : σ[i]? = Option.some (Option.some (V.ref l))) : Keep W σ H (upd H1 l o) where
  keep := fun b u e n => by
    rw [upd_ne fun (z : b = l) => n ⟨i, hi, by rw [z]; exact ha⟩]
    exact k.keep b u e n
  some := fun b e => by
    by_cases hb : b = l
    · rw [hb, upd_same]; intro z; cases z
    · rw [upd_ne hb]; exact k.some b e
theorem Reps.erase {H : Hp} {P : Pr} : ∀ {ds : List D} {vs : List V} (k : Nat), Reps K H ds P vs → Reps K H (ds.eraseIdx k) P (vs.eraseIdx k)
  | [], _, k, h => by rw [h.nil_iff]; simp; exact Reps.nil
  | d :: ds, _, 0, h => by
    obtain ⟨v, ws, rfl, h1, h2⟩ := h.cons_iff
    exact h2
  | d :: ds, _, k + 1, h => by
    obtain ⟨v, ws, rfl, h1, h2⟩ := h.cons_iff
    exact Reps.cons h1 (Reps.erase k h2)
theorem tM_popAt {i : Nat} (hi : i ∈ O) (hw : i ∈ W) (σ : St) (H : Hp) (Q : VK) (h : tM K P0 O W E (cPopAt i ma) σ H Q) : tBM K "list" rPopAt (tVar i) (tCons (tM K P0 O W E ma) tNil) σ H Q := by
  obtain ⟨ρ, S, h⟩ := h
  obtain ⟨ds0, e0, h⟩ := h.of_nox
  obtain ⟨l, vs0, h1, h2, _⟩ := S.lst hi (lstAt_ok e0)
  refine ⟨.ref l, h1, .inl ⟨rfl, _, SqL.of h2⟩, ρ, S, h.of_bind.mono fun ⟨hd, ρ1⟩ q v H1 S1 k1 r1 => ?_⟩
  obtain ⟨d, e1, q⟩ := q.of_nox
  have rd := r1.v e1
  cases d <;> first | (exact q.elim) | skip
  rename_i z
  unfold Rep at rd
  subst rd
  obtain ⟨ds, e2, q⟩ := Res.of_nox (show Res E W σ H ((lstAt i ρ1).nox >>= _) _ from q)
  obtain ⟨l', vs, h1', h3, h4⟩ := S1.lst hi (lstAt_ok e2)
  rw [h1] at h1'
  cases h1'
  have q : Res E W σ H (popRes i ds z ρ1) _ := q
  unfold popRes at q
  by_cases c : szOk ds.length = true
  · rw [if_pos c] at q
    have c := of_decide_eq_true c
    cases ej : ixN ds.length z with
    | none => rw [ej] at q; exact q.elim
    | some k =>
      rw [ej] at q
      cases ed : ds[k]? with
      | none => simp only [ed] at q; exact q.elim
      | some d =>
        simp only [ed] at q
        obtain ⟨y, ey, ry⟩ := h4.get ed
        obtain ⟨a1, a2, a3, a4⟩ := ixN_seq ej
        have e24 : sizeLine = 16777216 := by decide
        have hv : FA P0 O σ = FA P0 O σ := rfl
        refine ⟨l, vs, z, k, y, rfl, rfl, h3, by omega, by omega, by rw [h4.length]; exact a1, ey, ?_⟩
        have S2 := S1.lstW hi h1 h3 (Reps.erase k h4)
        refine q y _ S2 (k1.ownW hw h1) ?_
        exact ry.mono d S1.dom (fun b o e n => by rw [upd_ne fun z => n (.inr ⟨i, hi, by rw [z]; exact h1⟩)]; exact e) fun b z => .inl z
  · rw [if_neg c] at q
    exact q.elim
theorem ce_popAt {i : Nat} {x : Str} {p ap cp : Pos} (h : CEx X P0 O W E e ma) (hi : i ∈ O := by decide) (hw : i ∈ W := by decide) (hx : X.N[i]? = some x := by rfl) (hv : Vis X.env.scope x := by first | exact Or.inl rfl | exact Or.inr (Or.inl rfl) | exact Or.inr (Or.inr rfl)) (hd : (x == ("__debug__" : Str)) = false := by decide) (hcd : (x == ("__classdict__" : Str)) = false := by decide)
    (he : starEach [e] X.env = (false, eval e X.env) :: starEach [] X.env := by rfl) (hpl : (backTo cp (starEach [] X.env)).any (·.1) = false := by rfl) (hbase : attributeBase (.Name x p) "pop" X.env (eval (.Name x p) X.env) = eval (.Name x p) X.env := by rfl) (hline : (ap.endLine == cp.line) = true := by rfl)
    (hfew : Few X cp [e] := by rfl) : CEx X P0 O W E (.Call (.Attribute (.Name x p) "pop" ap) [e] [] cp) (cPopAt i ma) :=
  PE.imp (pe_bm PySem.F.plainAttrs_list PySem.F.slot_list_pop PySem.F.type_list_pop mt_popAt (pe_var (i := i) hx hv hd hcd) (pa_cons h pa_nil he) hbase hfew hline he hpl) (tM_popAt hi hw)
end
end Y

set_option Elab.async false
set_option linter.all false
set_option maxRecDepth 100000
set_option maxHeartbeats 4000000
namespace Y
open PySem PySem.Spec PyProof.Rows L2
def ltL : List Int → List Int → Bool
  | [], [] => false
  | [], _ :: _ => true
  | _ :: _, [] => false
  | x :: xs, y :: ys => if x = y then ltL xs ys else decide (x < y)
theorem ltL_asym : ∀ {a b : List Int}, ltL a b = true → ltL b a = false
  | [], [], h => by simp [ltL] at h
  | [], _ :: _, _ => rfl
  | _ :: _, [], h => by simp [ltL] at h
  | x :: xs, y :: ys, h => by
    unfold ltL at h ⊢
    by_cases e : x = y
    · rw [if_pos e] at h
      rw [if_pos e.symm]
      exact ltL_asym h
    · rw [if_neg e, decide_eq_true_eq] at h
      rw [if_neg fun z => e z.symm, decide_eq_false_iff_not]
      omega
theorem ltL_tr : ∀ {a b c : List Int}, ltL b a = false → ltL c b = false → ltL c a = false
  | a, b, [], h1, h2 => by
    cases b with
    | nil => exact h1
    | cons => simp [ltL] at h2
  | [], b, z :: zs, _, _ => rfl
  | x :: xs, [], z :: zs, h1, _ => by simp [ltL] at h1
  | x :: xs, y :: ys, z :: zs, h1, h2 => by
    unfold ltL at h1 h2 ⊢
    by_cases e1 : y = x
    · rw [if_pos e1] at h1
      by_cases e2 : z = y
      · rw [if_pos e2] at h2
        rw [if_pos (e2.trans e1)]
        exact ltL_tr h1 h2
      · rw [if_neg e2, decide_eq_false_iff_not] at h2
        rw [if_neg (by omega), decide_eq_false_iff_not]
        omega
    · rw [if_neg e1, decide_eq_false_iff_not] at h1
      by_cases e2 : z = y
      · rw [if_neg (by omega), decide_eq_false_iff_not]
        omega
      · rw [if_neg e2, decide_eq_false_iff_not] at h2
        rw [if_neg (by omega), decide_eq_false_iff_not]
        omega
theorem ltL_eq : ∀ {a b : List Int}, ltL a b = false → ltL b a = false → a = b
  | [], [], _, _ => rfl
  | [], _ :: _, h, _ => by simp [ltL] at h
  | _ :: _, [], _, h => by simp [ltL] at h
  | x :: xs, y :: ys, h1, h2 => by
    unfold ltL at h1 h2
    by_cases e : x = y
    · rw [if_pos e] at h1
      rw [if_pos e.symm] at h2
      rw [e, ltL_eq h1 h2]
    · rw [if_neg e, decide_eq_false_iff_not] at h1
      rw [if_neg fun z => e z.symm, decide_eq_false_iff_not] at h2
      omega
theorem ltL_swo {β : Type} (k : β → List Int) : SrtO.Swo fun v u => ltL (k v) (k u) := ⟨fun _ _ h => ltL_asym h, fun _ _ _ h1 h2 => ltL_tr h1 h2⟩
def sortL (xs : List (List Int)) : List (List Int) := xs.mergeSort fun a b => !ltL b a
theorem sortL_perm (xs : List (List Int)) : (sortL xs).Perm xs := List.mergeSort_perm _ _
theorem sortL_pw (xs : List (List Int)) : (sortL xs).Pairwise fun a b => ltL b a = false := by
  have := List.pairwise_mergeSort (le := fun a b : List Int => !ltL b a) (fun a b c h1 h2 => by
    simp only [Bool.not_eq_true'] at *
    exact ltL_tr h1 h2) (fun a b => by
    cases e : ltL b a with
    | false => rfl
    | true => simp [ltL_asym e]) xs
  exact this.imp fun h => by simpa using h
theorem sortL_of {xs ys : List (List Int)} (p : ys.Perm xs) (h : ys.Pairwise fun a b => ltL b a = false) : ys = sortL xs :=
  List.Perm.eq_of_pairwise (le := fun a b : List Int => ltL b a = false) (fun a b _ _ h1 h2 => ltL_eq h2 h1) h (sortL_pw xs) (p.trans (sortL_perm xs).symm)
def TupV (h : Heap) (v : Value) (ns : List Int) : Prop := ∃ a o its n, v = .ref a ∧ h.get? a = some o ∧ o.cls = .type "tuple" ∧ o.data = .seq its n ∧ IntsAre its.toList ns
theorem TupV.at {h g : Heap} {v : Value} {ns : List Int} (p : TupV h v ns) (k : ∀ b o, h.get? b = some o → o.cls = .type "tuple" → g.get? b = some o) : TupV g v ns :=
  let ⟨a, o, its, n, e, ho, c, d, i⟩ := p
  ⟨a, o, its, n, e, k _ _ ho c, c, d, i⟩
section
variable {prog : Program} {w : World} {A : Around} {E : Value → Shared → Prop} {s : Shared}
/-- two tuples' items in turn -/
theorem lexI {b fin : Bool} {Q : Bool → Shared → Prop} : ∀ {xs ys : List Value} {ns ms : List Int} (i : Nat), IntsAre xs ns → IntsAre ys ms → ((ns.length < ms.length ↔ fin = true) → True) →
    (∀ r, (∀ k, ns.take k = ms.take k → k = min ns.length ms.length → r = fin) → (¬ (ns.take (min ns.length ms.length) = ms.take (min ns.length ms.length)) → r = ltL ns ms) → Q r s) → PySem.W.KatLex prog w A b fin Q (xs.zip ys) i s
  | _, _, _, _, i, .nil, _, _, q => PySem.W.kat_nil (q fin (fun _ _ _ => rfl) fun z => by simp at z)
  | _, _, _, _, i, .cons n t r, .nil, _, q => PySem.W.kat_nil (q fin (fun _ _ _ => rfl) fun z => by simp at z)
  | _, _, _, _, i, .cons n t r1, .cons m u r2, _, q => by
    rw [List.zip_cons_cons]
    refine PySem.W.kat_cons (SeqAt.EqAt.int_int n t m u prog w _ _ ?_)
    refine PySem.W.kat_go (fun e1 => ?_) (fun e1 => ?_)
    · obtain rfl : n = m := by simpa using e1
      refine PySem.W.kat_yes (lexI (i + 1) r1 r2 (fun _ => trivial) fun r h1 h2 => q r (fun k hk hm => ?_) fun hn => ?_)
      · rw [List.length_cons, List.length_cons, Nat.succ_min_succ] at hm
        subst hm
        exact h1 _ (by simpa using hk) rfl
      · rw [h2 fun z => hn (by rw [List.length_cons, List.length_cons, Nat.succ_min_succ, List.take_succ_cons, List.take_succ_cons, z])]
        simp [ltL]
    · have ne : ¬ n = m := by simpa using e1
      have fin' : Q (decide (n < m)) s := q _ (fun k hk hm => by
        rw [List.length_cons, List.length_cons, Nat.succ_min_succ] at hm
        subst hm
        simp only [List.take_succ_cons, List.cons.injEq] at hk
        exact absurd hk.1 ne) fun _ => by simp [ltL, ne]
      refine PySem.W.kat_no ?_
      cases hb : (b && i == 0) with
      | true => exact oneLt_int fin'
      | false => exact PySem.W.kat_one _ _ (PyProof.Rows.lt_int fin')
theorem ltL_fin : ∀ {ns ms : List Int}, ns.take (min ns.length ms.length) = ms.take (min ns.length ms.length) → ltL ns ms = decide (ns.length < ms.length)
  | [], [], _ => rfl
  | [], _ :: _, _ => by simp [ltL]
  | _ :: _, [], _ => by simp [ltL]
  | x :: xs, y :: ys, h => by
    rw [List.length_cons, List.length_cons, Nat.succ_min_succ, List.take_succ_cons, List.take_succ_cons, List.cons.injEq] at h
    unfold ltL
    rw [if_pos h.1, ltL_fin h.2, List.length_cons, List.length_cons]
    simp
theorem tup_cmp {vs : List Value} {k : Value → List Int} {c : Bool} (hp : ∀ v ∈ vs, TupV s.heap v (k v)) : SrtO.Cmp prog w A s (tuples' c) (fun p => p.1 ∈ vs) (SrtO.lt2 fun v u => ltL (k v) (k u)) := by
  intro p q mp mq
  have g1 := hp _ mp
  have g2 := hp _ mq
  show wpAny (model prog w) A (keyLt' (tuples' c) p.1 q.1) (fun r s' => s' = s ∧ r = ltL (k p.1) (k q.1)) (fun _ _ => False) s
  generalize k p.1 = ns at g1 ⊢
  generalize k q.1 = ms at g2 ⊢
  obtain ⟨a, o, xs, n, e, ho, hc, hd, hi⟩ := g1
  obtain ⟨a', o', ys, n', e', ho', hc', hd', hi'⟩ := g2
  rw [e, e']
  refine PySem.W.kat_lt ho hd ho' hd' (lexI 0 hi hi' (fun _ => trivial) fun r h1 h2 => ⟨rfl, ?_⟩)
  by_cases z : ns.take (min ns.length ms.length) = ms.take (min ns.length ms.length)
  · rw [h1 _ z rfl, ltL_fin z, ← hi.length, ← hi'.length, Array.length_toList, Array.length_toList]
  · exact h2 z
theorem tup_firsts {h : Heap} {k : Value → List Int} : ∀ {vs : List Value}, (∀ v ∈ vs, TupV h v (k v) ∧ k v ≠ []) → ∃ fs : List Value, PySem.W.KatTups h vs fs ∧ fs.length = vs.length ∧ ∀ f ∈ fs, ∃ x t, f = Value.int x t
  | [], _ => ⟨[], trivial, rfl, fun _ z => nomatch z⟩
  | v :: vs, hp => by
    obtain ⟨fs, t1, t2, t3⟩ := tup_firsts (vs := vs) fun u hu => hp u (by simp [hu])
    obtain ⟨⟨a, o, xs, n, e, ho, hc, hd, hi⟩, ne⟩ := hp v (by simp)
    generalize k v = ns at hi ne
    obtain ⟨m, t, us, ms, e1⟩ : ∃ m t us ms, xs.toList = Value.int m t :: us ∧ ns = m :: ms := by
      generalize xs.toList = l at hi
      cases hi with
      | nil => exact absurd rfl ne
      | cons m t r => exact ⟨m, t, _, _, rfl, rfl⟩
    refine ⟨.int m t :: fs, ⟨⟨a, o, xs, n, e, ho, hc, hd, ?_⟩, t1⟩, by simp [t2], fun f hf => ?_⟩
    · rw [← Array.getElem?_toList, e1.1]
      rfl
    · rcases List.mem_cons.mp hf with rfl | hf
      · exact ⟨m, t, rfl⟩
      · exact t3 f hf
theorem tup_sortable {a : Addr} {vs : List Value} {k : Value → List Int} (h0 : 0 < vs.length) (hp : ∀ v ∈ vs, TupV s.heap v (k v) ∧ k v ≠ []) (ha : ∀ o, s.heap.get? a = some o → o.cls ≠ .type "tuple") : SrtO.SortableO prog w A s a vs fun v u => ltL (k v) (k u) := by
  intro g kp
  have hq : ∀ v ∈ vs, TupV g v (k v) ∧ k v ≠ [] := fun v hv => ⟨(hp v hv).1.at fun b o e c => kp b o (fun z => by subst z; exact ha o e c) e, (hp v hv).2⟩
  obtain ⟨fs, t1, t2, t3⟩ := tup_firsts hq
  refine ⟨tuples' true, fun Q E done => ?_, tup_cmp fun v hv => (hq v hv).1⟩
  refine PySem.W.kat_kind (T := .type "int") t1 (by omega) (fun f hf => ?_) (by rfl) ?_
  · obtain ⟨x, t, rfl⟩ := t3 f hf
    exact PySem.W.Looks.now
  · rw [show (Value.type "int" != Value.type "tuple") = true by decide +kernel]
    exact done
end
/-- sorted(xs), xs a list of tuples of whole numbers (none empty where there are two) -/
def rSortTs (K : PySem.W.Frag) : List V → Hp → VK → Prop := fun vs H Q => ∃ (a : Addr) (xs : List V) (k : V → List Int), vs = [V.ref a] ∧ SqL K H a xs ∧ (∀ x ∈ xs, ∃ t, x = V.ref t ∧ H t = some (.tup ((k x).map V.int)) ∧ (2 ≤ xs.length → k x ≠ [])) ∧
  ∀ ys p, ys.Pairwise (fun x y => ltL (k y) (k x) = false) → ys.Perm xs → H p = none → Q (.ref p) (upd H p (.lst ys))
theorem ints_vals : ∀ {ns : List Int} {us : List Value}, Vals (ns.map V.int) us → IntsAre us ns
  | [], _, .nil => .nil
  | n :: ns, _, .cons r t => by
    obtain ⟨u, rfl⟩ := r
    exact .cons n u (ints_vals t)
section
variable {X : Cx}
theorem cr_sortTs : CallR X (.builtin "sorted") (rSortTs X.K) := by
  intro pins s σ H vs us Q I r ⟨a, xs, k, e0, hs, hx, q⟩
  subst e0
  obtain ⟨its, rv, hl, hz⟩ := I.list hs
  obtain ⟨u, e3, ru⟩ := vals1 r
  subst e3
  obtain rfl : u = Value.ref a := ru
  obtain ⟨e1, e2⟩ := refs_back rv fun x m => (hx x m).imp fun t h => h.1
  have tv : ∀ v ∈ its, TupV s.heap v (k (backV v)) ∧ (2 ≤ xs.length → k (backV v) ≠ []) := fun v hv => by
    obtain ⟨t, rfl⟩ := e2 v hv
    have hm : V.ref t ∈ xs := by rw [e1]; exact List.mem_map.mpr ⟨_, hv, rfl⟩
    obtain ⟨t', e, ht, ne⟩ := hx _ hm
    cases e
    obtain ⟨_, its2, r2, o, ho, hc, n, hd⟩ := I.hok _ _ ht
    exact ⟨⟨t, o, _, n, rfl, ho, hc, hd, by rw [List.toList_toArray]; exact ints_vals r2⟩, ne⟩
  have zl : its.length = xs.length := by rw [rv.length]
  refine SrtO.sorted_ord (ltL_swo fun v => k (backV v)) hl.isList (by rw [zl]; exact hz) (fun h2 g b hb kk => ?_) fun out hs1 hs2 => ?_
  · refine tup_sortable (s := { s with heap := g }) (by omega) (fun v hv => ⟨(tv v hv).1.at fun c o e _ => (kk c o e).2, (tv v hv).2 (by omega)⟩) fun o e => ?_
    have e' : some o = some (seqObj "list" its.toArray 0) := e.symm.trans hb
    cases e'
    exact fun c => absurd (Value.type.inj c) (by decide)
  · obtain ⟨n, hn⟩ := PyProof.Rows.sortedAll_at s.heap its out.toArray
    have h3 : ∀ u ∈ out, ∃ b, u = Value.ref b := fun u hu => e2 u (hs2.perm.mem_iff.mp hu)
    have pm : (out.map backV).Perm xs := by rw [e1]; exact hs2.perm.map backV
    refine ⟨.ref (s.heap.objs.size + 1), upd H (s.heap.objs.size + 1) (.lst (out.map backV)), I.laid (t' := s.toks) (fun _ _ e => PyProof.Rows.sortedAll_old e) (Nat.le_succ _) ⟨by rw [pm.length_eq]; exact hz, out, n, vals_back h3, hn⟩, rfl, q _ _ ?_ pm (I.hok.fresh (Nat.le_succ _))⟩
    exact List.pairwise_map.mpr hs1
end
end Y

set_option Elab.async false
set_option linter.all false
set_option maxRecDepth 100000
namespace Y
open PySem PySem.Spec PyProof.Rows L2
theorem ltC_cons {x y : Nat} {xs ys : List Nat} : ltCps (x :: xs) (y :: ys) = true ↔ x < y ∨ (x = y ∧ ltCps xs ys = true) := by simp [ltCps]
theorem ltC_asym : ∀ {a b : List Nat}, ltCps a b = true → ltCps b a = false
  | [], [], h => by simp [ltCps] at h
  | [], _ :: _, _ => by simp [ltCps]
  | _ :: _, [], h => by simp [ltCps] at h
  | x :: xs, y :: ys, h => by
    rw [← Bool.not_eq_true, ltC_cons]
    rcases ltC_cons.mp h with h2 | ⟨rfl, h2⟩
    · rintro (z | ⟨z, _⟩) <;> omega
    · have := ltC_asym h2
      rintro (z | ⟨_, z⟩)
      · omega
      · rw [this] at z; cases z
theorem ltC_tr : ∀ {a b c : List Nat}, ltCps a b = true → ltCps b c = true → ltCps a c = true
  | [], _ :: _, _ :: _, _, _ => by simp [ltCps]
  | [], [], _, h, _ => by simp [ltCps] at h
  | _ :: _, [], _, h, _ => by simp [ltCps] at h
  | _, _ :: _, [], _, h => by simp [ltCps] at h
  | x :: xs, y :: ys, z :: zs, h1, h2 => by
    rw [ltC_cons] at *
    rcases h1 with h1 | ⟨rfl, h1⟩
    · rcases h2 with h2 | ⟨rfl, h2⟩
      · exact .inl (by omega)
      · exact .inl h1
    · rcases h2 with h2 | ⟨rfl, h2⟩
      · exact .inl h2
      · exact .inr ⟨rfl, ltC_tr h1 h2⟩
theorem ltC_tot : ∀ {a b : List Nat}, ltCps a b = false → ltCps b a = false → a = b
  | [], [], _, _ => rfl
  | [], _ :: _, h, _ => by simp [ltCps] at h
  | _ :: _, [], _, h => by simp [ltCps] at h
  | x :: xs, y :: ys, h1, h2 => by
    rw [← Bool.not_eq_true, ltC_cons] at h1 h2
    have e : x = y := by omega
    subst e
    rw [ltC_tot (a := xs) (b := ys) (Bool.not_eq_true _ ▸ fun z => h1 (.inr ⟨rfl, z⟩)) (Bool.not_eq_true _ ▸ fun z => h2 (.inr ⟨rfl, z⟩))]
theorem ltC_ntr {a b c : List Nat} (h1 : ltCps b a = false) (h2 : ltCps c b = false) : ltCps c a = false := by
  cases e : ltCps c a with
  | false => rfl
  | true =>
    cases e2 : ltCps a b with
    | true => rw [ltC_tr e e2] at h2; cases h2
    | false => rw [ltC_tot e2 h1] at e; rw [e] at h2; cases h2
def ltStr (x y : Str) : Bool := ltCps x.cps.toList y.cps.toList
theorem ltStr_tot {x y : Str} (h1 : ltStr x y = false) (h2 : ltStr y x = false) : x = y := by
  have e := ltC_tot h1 h2
  cases x; cases y
  simp at e
  rw [e]
def sortS (xs : List Str) : List Str := xs.mergeSort fun a b => !ltStr b a
theorem sortS_perm (xs : List Str) : (sortS xs).Perm xs := List.mergeSort_perm _ _
theorem sortS_pw (xs : List Str) : (sortS xs).Pairwise fun a b => ltStr b a = false := by
  have := List.pairwise_mergeSort (le := fun a b : Str => !ltStr b a) (fun a b c h1 h2 => by
    simp only [Bool.not_eq_true'] at *
    exact ltC_ntr h1 h2) (fun a b => by
    cases e : ltStr b a with
    | false => rfl
    | true =>
      have := ltC_asym e
      simp [ltStr, this]) xs
  exact this.imp fun h => by simpa using h
theorem sortS_of {xs ys : List Str} (p : ys.Perm xs) (h : ys.Pairwise fun a b => ltStr b a = false) : ys = sortS xs :=
  List.Perm.eq_of_pairwise (le := fun a b : Str => ltStr b a = false) (fun a b _ _ h1 h2 => ltStr_tot h2 h1) h (sortS_pw xs) (p.trans (sortS_perm xs).symm)
theorem rising_pw : ∀ {ys : List Str}, sortedS ys = true → ys.Pairwise fun a b => ltStr b a = false
  | [], _ => List.Pairwise.nil
  | [x], _ => List.pairwise_singleton _ _
  | x :: y :: r, h => by
    simp only [sortedS, risingS, Bool.and_eq_true, Bool.not_eq_true'] at h
    have ih := rising_pw (ys := y :: r) h.2
    refine List.pairwise_cons.mpr ⟨fun z hz => ?_, ih⟩
    rcases List.mem_cons.mp hz with rfl | hz
    · exact h.1
    · exact ltC_ntr h.1 ((List.pairwise_cons.mp ih).1 z hz)
def rSortSt (K : PySem.W.Frag) : List V → Hp → VK → Prop := fun vs H Q => ∃ (a : Addr) (xs : List Str), vs = [V.ref a] ∧ SqL K H a (xs.map V.str) ∧ ∀ p, H p = none → Q (.ref p) (upd H p (.lst ((sortS xs).map V.str)))
theorem cr_sortSt {X : Cx} : CallR X (.builtin "sorted") (rSortSt X.K) := by
  intro pins s σ H vs us Q I r ⟨a, xs, e0, hs, q⟩
  subst e0
  obtain ⟨its, rv, hl, hz⟩ := I.list hs
  rw [Vals.ref1 r]
  refine sorted_strsAny hl.isList rv.strs (by rw [← rv.length]; exact hz) fun out ys h1 h2 h3 => ?_
  obtain ⟨n, hn⟩ := PyProof.Rows.sortedAll_at s.heap its out
  have ey := sortS_of h2 (rising_pw h3)
  subst ey
  have zl : ((sortS xs).map V.str).length ≤ sizeLine := by rw [List.length_map, h2.length_eq]; rw [List.length_map] at hz; exact hz
  exact ⟨.ref _, upd H (s.heap.objs.size + 1) (.lst ((sortS xs).map V.str)), I.laid (t' := s.toks) (fun _ _ => PyProof.Rows.sortedAll_old) (Nat.le_succ _) ⟨zl, out.toList, n, vals_of_strs h1, hn⟩, rfl, q _ (I.hok.fresh (Nat.le_succ _))⟩
def intTup : D → Option (List Int)
  | .tup ds => intsOf ds
  | _ => none
def tupsOf : List D → Option (List (List Int))
  | [] => some []
  | d :: ds => match intTup d, tupsOf ds with
    | some n, some ns => some (n :: ns)
    | _, _ => none
def sortOk (xs : List (List Int)) : Bool := decide (xs.length < 2) || xs.all fun x => !x.isEmpty
def sortD : List D → R D
  | [.lst ds] => match intsOf ds with
    | some ns => .ok (.lst ((sortI ns).map D.int))
    | none => match strsOf ds with
    | some ss => .ok (.lst ((sortS ss).map D.str))
    | none => match tupsOf ds with
      | some xs => if sortOk xs = true then .ok (.lst ((sortL xs).map fun x => D.tup (x.map D.int))) else .stk
      | none => .stk
  | _ => .stk
def intV : V → Int
  | .int i => i
  | _ => 0
def keyV (H : Hp) : V → List Int
  | .ref t => match H t with
    | some (.tup ws) => ws.map intV
    | _ => []
  | _ => []
theorem ints_back (ns : List Int) : (ns.map V.int).map intV = ns := by
  rw [List.map_map]
  induction ns with
  | nil => rfl
  | cons x xs ih => simp [intV] at ih ⊢; exact ih
theorem reps_strs {K : PySem.W.Frag} {H : Hp} {P : Pr} : ∀ ns : List Str, Reps K H (ns.map D.str) P (ns.map V.str)
  | [] => Reps.nil
  | n :: ns => Reps.cons (by unfold Rep; rfl) (reps_strs ns)
section
variable {K : PySem.W.Frag} {X : Cx}
theorem tups_rep {H : Hp} {P : Pr} : ∀ {ds : List D} {xs : List (List Int)} {vs : List V}, tupsOf ds = some xs → Reps K H ds P vs → vs.map (keyV H) = xs ∧ ∀ v ∈ vs, ∃ t, v = V.ref t ∧ H t = some (.tup ((keyV H v).map V.int))
  | [], xs, vs, e, h => by simp [tupsOf] at e; subst e; rw [h.nil_iff]; simp
  | d :: ds, xs, vs, e, h => by
    obtain ⟨v, ws, rfl, h1, h2⟩ := h.cons_iff
    unfold tupsOf at e
    cases e1 : intTup d with
    | none => rw [e1] at e; simp at e
    | some n =>
      cases e2 : tupsOf ds with
      | none => rw [e1, e2] at e; simp at e
      | some ns =>
        rw [e1, e2] at e
        simp at e
        subst e
        obtain ⟨i1, i2⟩ := tups_rep e2 h2
        cases d <;> simp [intTup] at e1
        rename_i ds'
        unfold Rep at h1
        obtain ⟨t, us, rfl, ht, hr⟩ := h1
        rw [ints_rep e1 hr] at ht
        have kt : keyV H (.ref t) = n := by
          show (match H t with | some (.tup ws) => ws.map intV | _ => []) = n
          rw [ht]
          exact ints_back n
        refine ⟨by rw [List.map_cons, kt, i1], fun v hv => ?_⟩
        rcases List.mem_cons.mp hv with rfl | hv
        · exact ⟨t, rfl, by rw [kt]; exact ht⟩
        · exact i2 v hv
theorem cd_sort : CallR X (.builtin "sorted") (rDs X.K sortD) := by
  intro pins s σ H xs us Q I r ⟨P, ds, dz, hm, rs, e, out⟩
  unfold sortD at e
  split at e
  · split at e
    · rename_i ds0 _ ns ei
      refine cd_sortedI pins s σ H xs us Q I r ⟨P, _, dz, hm, rs, ?_, out⟩
      show (match intsOf ds0 with | some ns => R.ok (D.lst ((sortI ns).map D.int)) | none => .stk) = _
      rw [ei]
      exact e
    · split at e
      · rename_i ss es
        cases e
        obtain ⟨v, rfl, r1⟩ := rs.get1
        obtain ⟨a, vs, rfl, h1, h2⟩ := r1.lst
        rw [strs_rep es h2] at h1
        exact cr_sortSt pins s σ H _ us Q I r ⟨a, ss, rfl, SqL.of h1, fun p hp => out_lst hm out (fun _ _ => reps_strs _) p hp⟩
      split at e
      · rename_i nss et
        split at e
        · rename_i ok
          cases e
          obtain ⟨v, rfl, r1⟩ := rs.get1
          obtain ⟨a, vs, rfl, h1, h2⟩ := r1.lst
          obtain ⟨k1, k2⟩ := tups_rep et h2
          have lv : vs.length = nss.length := by rw [← k1, List.length_map]
          refine cr_sortTs pins s σ H _ us Q I r ⟨a, vs, keyV H, rfl, SqL.of h1, fun x hx => ?_, fun ys p pw pm hp => ?_⟩
          · obtain ⟨t, e1, e2⟩ := k2 x hx
            refine ⟨t, e1, e2, fun h2' => ?_⟩
            unfold sortOk at ok
            rw [decide_eq_false (by omega), Bool.false_or, List.all_eq_true] at ok
            have := ok (keyV H x) (by rw [← k1]; exact List.mem_map.mpr ⟨x, hx, rfl⟩)
            intro z
            rw [z] at this
            simp at this
          · have sm : Same H (upd H p (.lst ys)) := fun b o eb => by rw [upd_ne (ne_of_none eb hp)]; exact eb
            have es : ys.map (keyV H) = sortL nss := sortL_of (by rw [← k1]; exact pm.map _) (List.pairwise_map.mpr pw)
            refine out _ _ sm ?_ fun _ b eb => by cases eb; exact hp
            unfold Rep
            refine ⟨p, ys, rfl, fun z => (hm p z).some hp, upd_same, ?_⟩
            rw [← es, List.map_map]
            have : ∀ (zs : List V) (P' : Pr), (∀ z ∈ zs, z ∈ vs) → Reps X.K (upd H p (.lst ys)) (zs.map ((fun x => D.tup (x.map D.int)) ∘ keyV H)) P' zs := fun zs P' => by
              induction zs with
              | nil => intro _; exact Reps.nil
              | cons z zs ih =>
                intro hz
                obtain ⟨t, e1, e2⟩ := k2 z (hz z (by simp))
                refine Reps.cons ?_ (ih fun y hy => hz y (by simp [hy]))
                show Rep X.K _ (D.tup ((keyV H z).map D.int)) P' z
                unfold Rep
                exact ⟨t, _, e1, sm _ _ e2, reps_ints _⟩
            exact this ys _ fun z hz => pm.mem_iff.mp hz
        · cases e
      · cases e
  · cases e
end
theorem tups_map : ∀ xs : List (List Int), tupsOf (xs.map fun x => D.tup (x.map D.int)) = some xs
  | [] => rfl
  | x :: xs => by
    simp only [List.map_cons, tupsOf, intTup, ints_map, tups_map xs]
@[simp] theorem d_sortN {xs : List Int} : sortD [.lst (xs.map D.int)] = .ok (.lst ((sortI xs).map D.int)) := by
  show (match intsOf (xs.map .int) with | some ns => R.ok (D.lst ((sortI ns).map D.int)) | none => _) = _
  rw [ints_map]
theorem sortD_tups {x : List Int} {xs : List (List Int)} (h : sortOk (x :: xs) = true) : sortD [.lst ((x :: xs).map fun x => D.tup (x.map D.int))] = .ok (.lst ((sortL (x :: xs)).map fun x => D.tup (x.map D.int))) := by
  have e : intsOf ((x :: xs).map fun x => D.tup (x.map D.int)) = none := rfl
  have e2 : strsOf ((x :: xs).map fun x => D.tup (x.map D.int)) = none := rfl
  unfold sortD
  simp only [e, e2, tups_map, h, if_true]
end Y

set_option Elab.async false
set_option linter.all false
set_option maxRecDepth 100000
namespace Y
open PySem PySem.Spec PyProof.Rows L2
def whileN (t : BM) (body : SM) (vs : List Nat) : Nat → Y.Env → R (Fl × Y.Env)
  | 0, _ => .stk
  | n + 1, ρ => do
    let (k, ρ1) ← t ρ
    if k = true then do
      let (f, ρ2) ← body ρ1
      match f with
      | .bk => pure (.nx, ρ2)
      | .rt h => pure (.rt h, ρ2)
      | _ => whileN t body vs n (wipeE ρ2 vs)
    else pure (.nx, ρ1)
open Classical in
noncomputable def sWhile (t : BM) (body : SM) (vs : List Nat) : SM := fun ρ => if h : ∃ n, whileN t body vs n ρ ≠ .stk then whileN t body vs h.choose ρ else .stk
theorem whileN_up {t : BM} {body : SM} {vs : List Nat} : ∀ {n : Nat} {ρ : Y.Env}, whileN t body vs n ρ ≠ .stk → whileN t body vs (n + 1) ρ = whileN t body vs n ρ
  | 0, ρ, h => absurd rfl h
  | n + 1, ρ, h => by
    unfold whileN at h
    conv => lhs; unfold whileN
    conv => rhs; unfold whileN
    cases e : t ρ with
    | stk => rfl
    | er c ds => rfl
    | ok p =>
      obtain ⟨k, ρ1⟩ := p
      rw [e] at h
      simp only [R.bind_ok] at h ⊢
      cases k with
      | false => rfl
      | true =>
        simp only [if_true] at h ⊢
        cases e2 : body ρ1 with
        | stk => rfl
        | er c ds => rfl
        | ok q =>
          obtain ⟨f, ρ2⟩ := q
          rw [e2] at h
          simp only [R.bind_ok] at h ⊢
          cases f with
          | bk => rfl
          | rt _ => rfl
          | nx => exact whileN_up h
          | ct => exact whileN_up h
theorem whileN_le {t : BM} {body : SM} {vs : List Nat} {n : Nat} {ρ : Y.Env} (h : whileN t body vs n ρ ≠ .stk) : ∀ m, whileN t body vs (n + m) ρ = whileN t body vs n ρ
  | 0 => rfl
  | m + 1 => by
    have ih := whileN_le h m
    rw [← Nat.add_assoc, whileN_up (by rw [ih]; exact h), ih]
/-- a run of so many turns tells what the loop yields -/
theorem sWhile_of {t : BM} {body : SM} {vs : List Nat} {n : Nat} {ρ : Y.Env} {a : Fl × Y.Env} (h : whileN t body vs n ρ = .ok a) : sWhile t body vs ρ = .ok a := by
  have hx : ∃ n, whileN t body vs n ρ ≠ .stk := ⟨n, by rw [h]; intro z; cases z⟩
  unfold sWhile
  rw [dif_pos hx]
  have h2 := hx.choose_spec
  rcases Nat.le_total n hx.choose with l | l
  · obtain ⟨m, e⟩ := Nat.exists_eq_add_of_le l
    rw [e, whileN_le (by rw [h]; intro z; cases z), h]
  · obtain ⟨m, e⟩ := Nat.exists_eq_add_of_le l
    rw [← whileN_le h2 m, ← e, h]
section
variable {X : Cx} {P0 : Pr} {O W U : List Nat} {E : EK} {c : Expr} {pos : Pos} {m : SM}
theorem cs_while {t : BM} {vs : List Nat} {xs : List Stmt} (hp : PassesOwn (model X.prog X.w) X.A X.env X.xe) (hc : CT X P0 O W E c t) (hb : CSs X P0 O W U E xs m) : CS X P0 O W U E (.While c xs [] pos) (sWhile t m vs) := PS.imp (ps_while hp hc hb) fun D σ H ⟨ρ, S, h⟩ => by
  let Post : Fl × Y.Env → Prop := fun a => ∀ σ' H', Sim X.K P0 O W a.2 σ' H' → Tr O U σ H σ' H' → σ'.length = σ.length → Fin X.K P0 O H D σ' H' a.1
  have h : Res E O σ H (sWhile t m vs ρ) Post := h
  unfold sWhile at h
  by_cases hx : ∃ n, whileN t m vs n ρ ≠ .stk
  · rw [dif_pos hx] at h
    refine ⟨fun k σx Hx => ∃ ρx, Sim X.K P0 O W ρx σx Hx ∧ Tr O U σ H σx Hx ∧ σx.length = σ.length ∧ Res E O σx Hx (whileN t m vs k ρx) Post, ⟨_, ρ, S, .refl, rfl, h⟩, ?_⟩
    rintro k σx Hx ⟨ρx, Sx, tx, lx, qx⟩
    cases k with
    | zero => exact qx.elim
    | succ k =>
      unfold whileN at qx
      refine ⟨ρx, Sx, (qx.of_bind.down Sx.sub).mono fun ⟨b, ρ1⟩ q1 H1 S1 k1 => ?_⟩
      have t1 : Tr O U σx Hx σx H1 := Tr.of Sx.sub k1
      cases b with
      | false =>
        refine (if_neg Bool.false_ne_true).mpr ?_
        exact q1 σx H1 S1 (tx.trans t1) lx
      | true =>
        refine (if_pos rfl).mpr ⟨fun σ' H' => ∃ ρ', Sim X.K P0 O W ρ' σ' H' ∧ Tr O U σ H σ' H' ∧ σ'.length = σ.length ∧ Res E O σ' H' (whileN t m vs k ρ') Post, fun σ' H' n => ⟨k, Nat.lt_succ_self k, n⟩, ρ1, S1, ?_⟩
        have q1 : Res E O σx Hx (m ρ1 >>= fun p => match p.1 with | .bk => pure (.nx, p.2) | .rt h => pure (.rt h, p.2) | _ => whileN t m vs k (wipeE p.2 vs)) Post := q1
        refine (Res.keepT q1.of_bind t1).mono fun ⟨f, ρ2⟩ q2 σ3 H3 S3 t3 l3 => ?_
        have t4 : Tr O U σx Hx σ3 H3 := t1.trans t3
        have t5 : Tr O U σ H σ3 H3 := tx.trans t4
        have l5 : σ3.length = σ.length := l3.trans lx
        cases f with
        | nx => exact ⟨wipeE ρ2 vs, S3.wipe vs, t5, l5, Res.keepT q2 t4⟩
        | ct => exact ⟨wipeE ρ2 vs, S3.wipe vs, t5, l5, Res.keepT q2 t4⟩
        | bk => exact q2 σ3 H3 S3 t5 l5
        | rt hd =>
          intro v r
          exact q2 σ3 H3 S3 t5 l5 v (r.back fun b e => (tx.trans t1).some b e)
  · rw [dif_neg hx] at h
    exact h.elim
end
end Y

set_option Elab.async false
set_option linter.all false
set_option maxRecDepth 100000
namespace Y
open PySem PySem.Spec PyProof.Rows L2
section
variable {X : Cx} {P0 : Pr} {O W U : List Nat} {E : EK} {a e : Expr} {ma mb : EM} {pos : Pos}
theorem ce_globI {x : Str} {i : Int} (h : ∃ t, X.mg x = some (.int i t)) (hg : Gl X x := by rfl) (hd : (x == ("__debug__" : Str)) = false := by decide) : CEx X P0 O W E (.Name x pos) (cC (.int i)) :=
  h.elim fun t ht => ce_glob (v := .int i) (fun _ _ => by unfold Rep; rfl) rfl ⟨t, rfl⟩ ht hg hd
end
end Y

set_option Elab.async false
set_option linter.all false
set_option maxRecDepth 100000
namespace Y
open PySem PySem.Spec PyProof.Rows L2
section
variable {X : Cx} {P0 : Pr} {O W U : List Nat} {E : EK} {e : Expr} {ma : EM} {pos : Pos}
end
variable {ρ : Y.Env}
end Y

set_option Elab.async false
set_option linter.all false
set_option maxRecDepth 100000
namespace Y
open PySem PySem.Spec PyProof.Rows L2
section
variable {X : Cx}
end
end Y

set_option Elab.async false
set_option linter.all false
set_option maxRecDepth 100000
namespace Y
open PySem PySem.Spec PyProof.Rows L2
section
variable {K : PySem.W.Frag} {X : Cx} {P0 : Pr} {O W U : List Nat} {E : EK} {e : Expr} {ma : EM} {pos : Pos}
end
variable {ρ : Y.Env}
end Y

set_option Elab.async false
set_option linter.all false
set_option maxRecDepth 100000
namespace Y
open PySem PySem.Spec PyProof.Rows L2
variable {ρ : Y.Env}
@[simp] theorem e_rg1 {l : Bool} {m : EM} : cRg1 l m ρ = (m ρ >>= fun p => p.1.v.nox >>= fun d => match d with | .int n => (if rgB 0 n = true then R.ok (.fr (if l = true then .lst (rgD 0 n) else .tup (rgD 0 n)), p.2) else .stk) | _ => .stk) := by
  unfold cRg1; congr
@[simp] theorem e_popAt {i : Nat} {m : EM} : cPopAt i m ρ = ((lstAt i ρ).nox >>= fun _ => m ρ >>= fun p => p.1.v.nox >>= fun d => match d with | .int z => ((lstAt i p.2).nox >>= fun ds => popRes i ds z p.2) | _ => .stk) := by
  unfold cPopAt; congr
theorem rgB_of {n : Nat} (h : n ≤ 16777216) : rgB 0 n = true := by
  unfold rgB
  rw [rngOk_of (by omega) (by omega), rngOk_of (by omega) (by omega)]
  simp; omega
theorem rgD_nat {n : Nat} : rgD 0 n = (List.range n).map fun k : Nat => D.int (k : Nat) := by unfold rgD; simp
end Y

set_option Elab.async false
set_option linter.all false
set_option maxRecDepth 100000
namespace Y
open PySem PySem.Spec PyProof.Rows L2
inductive Kd where
  | l (a : Addr) | t (a : Addr) | s (z : Str)
def strV (z : Str) : List V := z.cps.toList.map fun c => V.str ⟨#[c]⟩
def Kd.has (K : PySem.W.Frag) (H : Hp) : Kd → List V → Prop
  | .l a, xs => SqL K H a xs
  | .t a, xs => SqT K H a xs
  | .s z, xs => xs = strV z
def Kd.val : Kd → V
  | .l a => .ref a
  | .t a => .ref a
  | .s z => .str z
def Kd.lo : Kd → Nat → Prop
  | .l a, n => a < n
  | .t a, n => a < n
  | .s _, _ => True
/-- the iterator it over it, i items told -/
def Kd.at (it : Addr) (tk : Tok) : Kd → Nat → Heap → Prop
  | .l a, i, h => h.IsListIter it a i
  | .t a, i, h => h.IsTupleIter it a i
  | .s z, i, h => h.IsStrIter it (strIterType z) z tk i
section
variable {X : Cx} {pins : List (Addr × Obj)} {σ : St} {H : Hp} {s : Shared}
theorem Kd.inj {k : Kd} {xs ys : List V} (I : Inv X pins σ H s) (h : k.has X.K H xs) (h2 : k.has X.K H ys) : xs = ys := by
  cases k with
  | l a => exact I.list_inj h h2
  | t a => exact I.tuple_inj h h2
  | s z => exact Eq.trans h (Eq.symm h2)
end
theorem ad {a b : Nat} (h : ¬ a = b) : @Ne Addr a b := h
section
variable {X : Cx} {pins : List (Addr × Obj)} {σ : St} {H : Hp} {s : Shared}
end
def kdOf : D → V → Option Kd
  | .lst _, .ref a => some (.l a)
  | .arg _, .ref a => some (.l a)
  | .tup _, .ref a => some (.t a)
  | .str z, _ => some (.s z)
  | .ftu _, .ref a => some (.t a)
  | _, _ => none
section
variable {K : PySem.W.Frag} {P0 : Pr} {O W : List Nat} {ρ ρ' : Env} {σ σ' : St} {H H' Hs : Hp} {h h2 : Hd} {d d2 : D} {v : V}
/-- a datum that is walked: its kind and the items' values -/
theorem RepW.kd {ds : List D} {P : Pr} (r : RepW K H d P v) (e : itD d = .ok ds) : ∃ k vs, v = Kd.val k ∧ k.has K H vs ∧ Reps K H ds P vs ∧ kdOf d v = some k := by
  cases d <;> simp only [itD, R.ok.injEq, reduceCtorEq] at e
  · subst e
    rename_i z
    obtain rfl := r.str
    refine ⟨.s z, strV z, rfl, rfl, ?_, rfl⟩
    unfold strV
    generalize z.cps.toList = l
    induction l with
    | nil => exact Reps.nil
    | cons c l ih => exact Reps.cons (by unfold Rep; rfl) ih
  · subst e
    obtain ⟨a, vs, rfl, t1, t2⟩ := r.tup
    exact ⟨.t a, vs, rfl, SqT.of t1, t2, rfl⟩
  · subst e
    obtain ⟨a, vs, rfl, t1, t2⟩ := r.lst
    exact ⟨.l a, vs, rfl, SqL.of t1, t2, rfl⟩
  · subst e
    obtain ⟨a, rfl, t1⟩ := r.arg
    exact ⟨.l a, _, rfl, t1, reps_ints _, rfl⟩
  · subst e
    obtain ⟨a, vs, o, rfl, t1, _, t2⟩ := r.ftu
    exact ⟨.t a, vs, rfl, SqT.fz t1, t2, rfl⟩
/-- .. from what holds of it -/
theorem Hold.kd {ds : List D} {k : Kd} (S : Sim K P0 O W ρ σ H) (o : Hold K O h d v P0 ρ σ H) (e : itD d = .ok ds) (ek : kdOf d v = some k) : ∃ vs, k.has K H vs ∧ Reps K H ds (FA P0 O σ) vs := by
  obtain ⟨k', vs, _, h1, h2, h3⟩ := (o.rep S).kd e
  rw [ek] at h3; cases h3
  exact ⟨vs, h1, h2⟩
end
section
variable {X : Cx} {P0 : Pr} {O W : List Nat} {E : EK} {a b c e tg : Expr} {es : List Expr} {ma mb mc : EM} {ms : AM} {pos : Pos}
end
section
variable {ρ : Y.Env}
end
abbrev fp2 (n : Nat) : List Addr := [n + 1, n]
section
variable {X : Cx} {P0 : Pr} {O W : List Nat} {E : EK} {a b c e tg : Expr} {es : List Expr} {ma mb mc : EM} {ms : AM} {pos : Pos}
section
variable {K : PySem.W.Frag} {ρ ρ' : Env} {σ σ' : St} {H H' Hs : Hp} {h h2 : Hd} {d d2 : D} {v : V}
end
end
section
variable {ρ : Y.Env}
end
end Y

set_option Elab.async false
set_option linter.all false
set_option maxRecDepth 100000
namespace Y
open PySem PySem.Spec PyProof.Rows L2
abbrev veB : List Value := [.type "ValueError", .type "Exception", .type "BaseException", .type "object"]
structure ErrT (K : PySem.W.Frag) (mg : Str → Option Value) (x : Str) : Prop where
  ex : ∃ C, mg x = some (.ref C) ∧ PySem.W.excIn K C veB "ValueError.__new__" = true ∧ PySem.W.keepIn K (.ref C) = true ∧ PySem.W.subIn K (.ref C) (.type "BaseException") = some true ∧ PySem.W.typeIn K (.ref C) = some (.type "type")
def sRaise (c : Str) : SM := fun _ => .er c []
section
variable {K : PySem.W.Frag} {X : Cx} {P0 : Pr} {O W U : List Nat} {E : EK} {XE : XK} {e : Expr} {ma : EM} {pos : Pos}
theorem cs_raise {x m : Str} {j : Nat} {p p2 q pos : Pos} (T : ErrT X.K X.mg x) (hc : X.calm = true) (tk : L2N.Takes X fun cls d _ H => XE cls d H) (hg : Gl X x := by rfl) (hdb : (x == ("__debug__" : Str)) = false := by decide) :
    CS X P0 O W U (exE X.mg XE) (.Raise (some (.Call (.Name x p) [.Constant (.str m) j p2] [] q)) none pos) (sRaise x) := by
  obtain ⟨C, gC, q, kC, b, t⟩ := T.ex
  refine PS.imp (L2N.ps_raise hc tk (L2N.pmk_own PySem.F.excBase_ValueError q gC kC (raises_own b t) hg hdb)) fun D σ H ⟨ρ, S, h⟩ => ?_
  rcases h H (Keep.refl) with ⟨_, C', e1, e2⟩ | ⟨_, e0, _⟩
  · rw [gC] at e1; cases e1
    exact e2
  · cases e0
end
@[simp] theorem e_raise {c : Str} {ρ : Y.Env} : sRaise c ρ = .er c [] := id rfl
end Y

set_option Elab.async false
set_option linter.all false
set_option maxRecDepth 100000
namespace Y
open PySem PySem.Spec PyProof.Rows L2
abbrev setO0 (w : World) : Obj := { cls := .type "set", dict := none, data := .set #[] 0 (.fresh 0 0 (!w.params.followText "set-order")) }
section
variable {P : Program} {w : World} {A : Around} {E : Value → Shared → Prop} {s : Shared}
set_option maxHeartbeats 3200000 in
theorem set_ofL {l : Addr} {ys : Array Value} (ns : List Int) {Q : Value → Shared → Prop} (hh : A.handled = none) (hl : s.heap.IsList l ys) (hi : IntsAre ys.toList ns) (hb : ns.length + 1 < scanBound)
    (q : ∀ (h' : Heap) (tk c : Nat), SetR w h' s.heap.objs.size (fun j => decide (j ∈ ns)) c → c ≤ ns.length → (∀ b o, s.heap.get? b = some o → h'.get? b = some o) → Q (.ref s.heap.objs.size) { s with heap := h', toks := tk }) :
    wpAny (model P w) A (call (.type "set") [.ref l]) Q E s := by
  have zy : ys.size = ns.length := by
    have z := IntsAre.length hi
    rwa [Array.length_toList] at z
  obtain ⟨_, _, z0⟩ := F.called_set.mro
  have z1 := F.called_set.made
  have z2 := F.called_set.sub
  refine wpAny_call (codeAny_of_tree (show wpAny _ _ (callAny (.type "set") _) _ _ _ from ?_))
  refine wpAny_pure ⟨Code.quiet_builtin _ (by decide +kernel), codeAny_builtin (F.entry_type_call) (?_)⟩
  rw [Around.under_plain (weight_type_call_type "set" [.ref l] []) (rfl)]
  have z3 := F.called_set.notType
  have z4 := F.called_set.canCreate
  have z5 := F.typeCall_set_1 (.ref l)
  repeat (any_goals (first | wp_step | assumption))
  refine codeAny_mono (code_set_led1 (.ref l) (E := E) (Q₁ := fun obj t => obj = .ref s.heap.objs.size ∧ t = { s with heap := s.heap.push (setO0 w) }) ⟨rfl, rfl⟩) fun r t hr => ?_
  cases r with
  | error e => exact hr
  | ok fl =>
    cases fl with
    | ret obj =>
      obtain ⟨e1, e2⟩ := hr
      subst e1 e2
      have gS : (s.heap.push (setO0 w)).get? s.heap.objs.size = some (setO0 w) := Heap.get?_push_size _ rfl
      have tS : Shared.TypeIs { s with heap := s.heap.push (setO0 w) } (.ref s.heap.objs.size) "set" := ⟨_, gS, rfl⟩
      have z6 := F.called_set.init.lookup
      have z7 := F.called_set.init.bind (.ref s.heap.objs.size)
      repeat (any_goals (first | wp_step | assumption))
      refine codeAny_mono (codeAny_call_builtin (R := wants (fun r t => r = .none ∧ ∃ h' tk c, t = { s with heap := h', toks := tk } ∧ SetR w h' s.heap.objs.size (fun j => decide (j ∈ ns)) c ∧ c ≤ ns.length ∧ ∀ b o, s.heap.get? b = some o → h'.get? b = some o) E) F.called_set.init.plain F.entry_set_init (check_set_init_1 tS ?_)) fun r2 t2 hr2 => ?_
      · obtain ⟨⟨cls, od, data, os⟩, ho, ec, m, ed⟩ := hl
        simp only at ec ed
        subst ec ed
        have ho1 : (s.heap.push (setO0 w)).get? l = some { cls := .type "list", dict := od, data := .seq ys m, slots := os } := Heap.get?_push_of_some _ ho
        have z8 := F.sub_list_set
        have z9 := F.sub_list_frozenset
        have za : (Value.type "list" == Value.type "dict") = false := by decide
        have hl1 : (s.heap.push (setO0 w)).IsList l ys := ⟨_, ho1, rfl, m, rfl⟩
        unfold Builtin.«set.__init__» noKeywords Builtin.Frozenset.updateFrom
        generalize hp : pyIter = p
        wp_walk
        subst hp
        refine wpAny_pyIter_list hl1 (wpAny_bind (wpAny_runValue ?_))
        have ls : l < s.heap.objs.size := Heap.lt_size ho
        have h3 : A.in1.in1.in1.handled = none := by simp [hh]
        have zp : (s.heap.push (setO0 w)).objs.size = s.heap.objs.size + 1 := Heap.size_push ..
        have ne : l ≠ (s.heap.push (setO0 w)).objs.size := by rw [zp]; exact Nat.ne_of_lt (Nat.lt_succ_of_lt ls)
        have nf : s.heap.objs.size ∉ [(s.heap.push (setO0 w)).objs.size, l] := by
          rw [zp]
          intro z
          rcases List.mem_cons.mp z with z | z
          · exact Nat.ne_of_lt (Nat.lt_succ_self _) z
          · exact Nat.ne_of_gt ls (by simpa using z)
        have hv : ∀ (i : Nat) (v : Value), ys[i]? = some v → ∃ k t, ns[i]? = some k ∧ v = .int k t := fun i v e => by
          have lt : i < ns.length := by rw [← zy]; exact (Array.getElem?_eq_some_iff.mp e).1
          obtain ⟨t, e2⟩ := IntsAre.int_at hi i v (by rw [Array.getElem?_toList]; exact e)
          exact ⟨ns[i], t, List.getElem?_eq_getElem lt, by rw [e2, List.getD_eq_getElem?_getD, List.getElem?_eq_getElem lt]; rfl⟩
        refine set_update_ints ((Walks.list h3 _ l ne ys).toS) s.heap.objs.size nf ns zy hb hv (ys.size - 0) 0 _ (by omega) (Nat.zero_le _) ⟨⟨_, Heap.get?_push_size _ rfl, rfl, rfl⟩, (hl1.push _)⟩ ?ha ?hb
        case ha =>
          have g2 : ((s.heap.push (setO0 w)).push { cls := .type "list_iterator", data := .fields #[.ref l, .int 0 0] }).get? s.heap.objs.size = some (setO0 w) := Heap.get?_push_of_some _ gS
          exact ⟨0, Nat.le_refl 0, setR_new_at g2⟩
        case hb =>
          intro t c mv lc hS
          obtain ⟨h', g2, d2, tk2, o2⟩ := t
          have e1 : g2 = s.gens := mv.gens
          have e2 : d2 = s.drawn := mv.drawn
          have e3 : o2 = s.os := mv.os
          subst e1 e2 e3
          refine wpAny_pure (show wpAny _ _ (ret Value.none) _ _ _ from ?_)
          rw [zy] at lc
          refine wpAny_pure ⟨rfl, h', tk2, c, rfl, hS, lc, fun b o e => ?_⟩
          have b0 : b < s.heap.objs.size := Heap.lt_size e
          refine mv.heap b o (fun z => ?_) (Heap.get?_push_of_some _ (Heap.get?_push_of_some _ (e)))
          rcases List.mem_cons.mp z with z | z
          · exact Nat.ne_of_lt b0 z
          · have z : b = (s.heap.push (setO0 w)).objs.size := by simpa using z
            rw [zp] at z
            exact Nat.ne_of_lt (Nat.lt_succ_of_lt b0) z
      · cases r2 with
        | error e => exact hr2
        | ok fl2 =>
          cases fl2 with
          | ret r =>
            obtain ⟨e1, h', tk, c, e2, hS, lc, hk⟩ := hr2
            subst e1 e2
            repeat (any_goals (first | wp_step | assumption))
            exact q _ _ _ hS lc hk
          | _ => exact hr2.elim
    | _ => exact hr.elim
end
end Y

set_option Elab.async false
set_option linter.all false
set_option maxRecDepth 100000
namespace Y
open PySem PySem.Spec PyProof.Rows L2
def dedupI : List Int → List Int
  | [] => []
  | x :: xs => if x ∈ xs then dedupI xs else x :: dedupI xs
@[simp] theorem mem_dedupI : ∀ {xs : List Int} {k : Int}, k ∈ dedupI xs ↔ k ∈ xs
  | [], k => by simp [dedupI]
  | x :: xs, k => by
    unfold dedupI
    split
    · rename_i h
      rw [mem_dedupI, List.mem_cons]
      exact ⟨.inr, fun z => z.elim (fun z => z ▸ h) id⟩
    · rw [List.mem_cons, mem_dedupI, List.mem_cons]
theorem nodup_dedupI : ∀ {xs : List Int}, (dedupI xs).Nodup
  | [] => by simp [dedupI]
  | x :: xs => by
    unfold dedupI
    split
    · exact nodup_dedupI
    · rename_i h
      exact List.nodup_cons.mpr ⟨fun z => h (mem_dedupI.mp z), nodup_dedupI⟩
theorem card_eq {xs ys : List Int} (h1 : xs.Nodup) (h2 : ys.Nodup) (h : ∀ k, k ∈ xs ↔ k ∈ ys) : xs.Perm ys := (List.perm_ext_iff_of_nodup h1 h2).mpr h
def rSetOf (K : PySem.W.Frag) (w : World) : List V → Hp → VK → Prop := fun vs H Q => ∃ (l : Addr) (ns : List Int), vs = [V.ref l] ∧ (SqL K H l (ns.map V.int) ∨ SqT K H l (ns.map V.int)) ∧ ns.length ≤ 4000 ∧
  ∀ p, H p = none → Q (.ref p) (upd H p (SetO w p (fun j => decide (j ∈ ns)) (dedupI ns).length))
section
variable {X : Cx}
theorem setR_card {w : World} {h : Heap} {a : Addr} {ns : List Int} {c : Nat} (R : SetR w h a (fun j => decide (j ∈ ns)) c) : c = (dedupI ns).length := by
  obtain ⟨o, es, ep, t, ho, hx, hd, g, nd, hm, hb, hf, hn, _⟩ := R
  have := (card_eq nd (nodup_dedupI (xs := ns)) fun k => by rw [mem_dedupI, ← hm k]; simp).length_eq
  rw [← hn, ← this]
  simp
theorem cr_setOf (hc : X.calm = true) : CallR X (.type "set") (rSetOf X.K X.w) := by
  intro pins s σ H vs us Q I r ⟨l, ns, e0, hq, hz, q⟩
  subst e0
  rw [Vals.ref1 r]
  have fin : ∀ (h' : Heap) (tk c : Nat), SetR X.w h' s.heap.objs.size (fun j => decide (j ∈ ns)) c → (∀ b o, s.heap.get? b = some o → h'.get? b = some o) → EP X pins σ Q (.ref s.heap.objs.size) { s with heap := h', toks := tk } := fun h' tk c R k => by
    rw [setR_card R] at R
    exact ⟨.ref _, upd H s.heap.objs.size (SetO X.w s.heap.objs.size (fun j => decide (j ∈ ns)) (dedupI ns).length), I.laid (t' := tk) k (Nat.le_refl _) (setO_new R), rfl, q _ (I.hok.fresh (Nat.le_refl _))⟩
  have hb : ns.length + 1 < scanBound := by unfold scanBound; omega
  rcases hq with hq | hq
  · obtain ⟨its, rv, p, _⟩ := I.list hq
    exact set_ofL ns (I.ok.hd hc) p.isList (by simpa using rv.ints) hb fun h' tk c R _ k => fin h' tk c R k
  · obtain ⟨its, rv, p, _⟩ := I.tuple hq
    exact call_set_tupI ns (I.ok.hd hc) p (by simpa using rv.ints) hb fun h' tk c R _ k => fin h' tk c R k
def rLenSet (w : World) : List V → Hp → VK → Prop := fun vs H Q => ∃ (a : Addr) (S : Int → Bool) (n : Nat), vs = [V.ref a] ∧ H a = some (SetO w a S n) ∧ Q (.int n) H
theorem cr_lenSet : CallR X (.builtin "len") (rLenSet X.w) := by
  intro pins s σ H vs us Q I r ⟨a, S, n, e0, ha, q⟩
  subst e0
  rw [Vals.ref1 r]
  obtain ⟨o, es, ep, t, ho, hx, hd, g, nd, hm, hb, hf, hn, _⟩ := setO_get I ha
  exact call_len_set ho hx hd hf (by unfold scanBound at hb; omega) ⟨.int n, H, I.tok _, ⟨_, by rw [hn]⟩, q⟩
end
def seqI : D → Option (List Int)
  | .lst ds => intsOf ds
  | .tup ds => intsOf ds
  | .arg ns => some ns
  | _ => none
def cLenSet (m : EM) : EM := fun ρ => do
  let (h, ρ1) ← m ρ
  let d ← (h.d ρ1).nox
  match seqI d with
  | some ns => if ns.length ≤ 4000 then pure (.fr (.int (dedupI ns).length), ρ1) else .stk
  | none => .stk
section
variable {K : PySem.W.Frag} {X : Cx} {P0 : Pr} {O W : List Nat} {E : EK} {a e : Expr} {ma : EM} {pos : Pos}
theorem RepW.seqI {H : Hp} {d : D} {P : Pr} {v : V} {ns : List Int} (r : RepW K H d P v) (e : seqI d = some ns) : ∃ l, v = .ref l ∧ (SqL K H l (ns.map V.int) ∨ SqT K H l (ns.map V.int)) := by
  cases d <;> simp only [Y.seqI, reduceCtorEq, Option.some.injEq] at e
  · obtain ⟨l, vs, rfl, t1, t2⟩ := r.tup
    rw [ints_rep e t2] at t1
    exact ⟨l, rfl, .inr (SqT.of t1)⟩
  · obtain ⟨l, vs, rfl, t1, t2⟩ := r.lst
    rw [ints_rep e t2] at t1
    exact ⟨l, rfl, .inl (SqL.of t1)⟩
  · subst e
    obtain ⟨l, rfl, t1⟩ := r.arg
    exact ⟨l, rfl, .inl t1⟩
theorem ce_lenSet {p p2 q : Pos} (hc : X.calm = true) (hm : X.mg "len" = none) (hm2 : X.mg "set" = none) (ha : CEx X P0 O W E a ma) (hg : Gl X "len" := by rfl) (hg2 : Gl X "set" := by rfl)
    (na : starEach [a] X.env = (false, eval a X.env) :: starEach [] X.env := by rfl) (n2 : starEach [.Call (.Name "set" p2) [a] [] q] X.env = (false, eval (.Call (.Name "set" p2) [a] [] q) X.env) :: starEach [] X.env := by rfl) :
    CEx X P0 O W E (.Call (.Name "len" p) [.Call (.Name "set" p2) [a] [] q] [] pos) (cLenSet ma) :=
  PE.imp (pe_callB cr_lenSet hg hm bo_len (pa_cons (pe_callTy (cr_setOf hc) hg2 hm2 bo_set (pa_cons ha pa_nil na) (by decide) (by decide) na rfl) pa_nil n2) (by decide) (by decide) n2 rfl) fun σ H Q ⟨ρ, S, h⟩ => by
    refine ⟨ρ, S, h.of_bind.mono fun ⟨h1, ρ1⟩ q v H1 S1 k1 r1 => ?_⟩
    obtain ⟨d, e1, q⟩ := q.of_nox
    have rw1 := r1.d S1 e1
    have q : Res E W σ H (match seqI d with | some ns => if ns.length ≤ 4000 then R.ok (Hd.fr (.int (dedupI ns).length), ρ1) else .stk | none => .stk) _ := q
    cases es : seqI d with
    | none => rw [es] at q; exact q.elim
    | some ns =>
      rw [es] at q
      simp only at q
      by_cases c : ns.length ≤ 4000
      · rw [if_pos c] at q
        obtain ⟨l, rfl, hl⟩ := rw1.seqI es
        refine ⟨l, ns, rfl, hl, c, fun p hp => ⟨p, _, _, rfl, upd_same, ?_⟩⟩
        exact out_of (K := X.K) S1 k1 q _ _ (Same.new hp) (by unfold Rep; rfl) fun z => by cases z
      · rw [if_neg c] at q
        exact q.elim
end
variable {ρ : Y.Env}
@[simp] theorem e_lenSet {m : EM} : cLenSet m ρ = (m ρ >>= fun p => (p.1.d p.2).nox >>= fun d => match seqI d with | some ns => if ns.length ≤ 4000 then R.ok (.fr (.int (dedupI ns).length), p.2) else .stk | none => .stk) := id rfl
@[simp] theorem seqI_l {ns : List Int} : seqI (.lst (ns.map D.int)) = some ns := ints_map ns
@[simp] theorem seqI_t {ns : List Int} : seqI (.tup (ns.map D.int)) = some ns := ints_map ns
end Y

set_option Elab.async false
set_option linter.all false
set_option maxRecDepth 100000
namespace Y
open PySem PySem.Spec PyProof.Rows L2
section
variable {K : PySem.W.Frag} {X : Cx} {P0 : Pr} {O W U : List Nat} {E : EK} {a b e : Expr} {sts : List Stmt} {ma mb : EM} {pos : Pos}
theorem cs_stk : CSs X P0 O W U E sts (fun _ => .stk) := ⟨fun pins s σ H D I ⟨ρ, S, h⟩ => h.elim⟩
def indexD : D → D → R D
  | .lst ds, y => if (dOk (.lst ds) && dOk y) = true then (match ds.findIdx? fun z => eqP z y with | some j => .ok (.int j) | none => .stk) else .stk
  | .str x, .str y => (match Builtin.Str.occurrences x y 0 x.length 1 with | i :: _ => .ok (.int (i : Nat)) | [] => .stk)
  | _, _ => .stk
def cIndex (a b : EM) : EM := fun ρ => do
  let (h1, ρ1) ← a ρ
  let x0 ← (h1.d ρ1).nox
  match x0 with
  | .str x => do
    let (h2, ρ2) ← b ρ1
    let y ← (h2.d ρ2).nox
    let z ← (indexD (.str x) y).nox
    pure (.fr z, ρ2)
  | .lst _ => do
    let (h2, ρ2) ← b ρ1
    let x ← (h1.d ρ2).nox
    let y ← (h2.d ρ2).nox
    let z ← (indexD x y).nox
    pure (.fr z, ρ2)
  | _ => .stk
theorem dps_find {y : D} : ∀ {ds : List D} {j : Nat}, (ds.findIdx? fun z => eqP z y) = some j → (∃ z, (toPys ds)[j]? = some z ∧ PyData.eqv z (toPy y) = true) ∧ ∀ (m : Nat) (z : PyData), m < j → (toPys ds)[m]? = some z → PyData.eqv z (toPy y) = false
  | [], j, h => by simp at h
  | d :: ds, j, h => by
    rw [List.findIdx?_cons] at h
    by_cases c : eqP d y = true
    · rw [if_pos c] at h
      cases h
      exact ⟨⟨toPy d, by unfold toPys; rfl, c⟩, fun m z hm => by omega⟩
    · rw [if_neg c] at h
      cases e : ds.findIdx? fun z => eqP z y with
      | none => rw [e] at h; cases h
      | some i =>
        rw [e] at h
        cases h
        obtain ⟨⟨z, e1, e2⟩, e3⟩ := dps_find e
        refine ⟨⟨z, by unfold toPys; simpa using e1, e2⟩, fun m z hm hz => ?_⟩
        unfold toPys at hz
        cases m with
        | zero => simp at hz; subst hz; exact Bool.not_eq_true _ ▸ c
        | succ m => exact e3 m z (by have hm : m + 1 < i + 1 := hm; omega) (by simpa using hz)
theorem ce_index {apos : Pos} (hu : X.A.units + 65 < cLine) (ha : CEx X P0 O W E a ma) (hb : CEx X P0 O W E b mb) (hs : starEach [b] X.env = (false, eval b X.env) :: starEach [] X.env := by rfl) (hs2 : starEach [b] X.env = [(false, eval b X.env)] := by rfl) (hpl : (backTo pos (starEach [] X.env)).any (·.1) = false := by rfl)
    (hbase : attributeBase a "index" X.env (eval a X.env) = eval a X.env := by rfl) (hline : (apos.endLine == pos.line) = true := by rfl) (hfew : Few X pos [b] := by rfl) : CEx X P0 O W E (.Call (.Attribute a "index" apos) [b] [] pos) (cIndex ma mb) :=
  PE.imp (PE.or (pe_bm PySem.F.plainAttrs_list PySem.F.slot_list_index PySem.F.type_list_index (mt_indexD hu) ha (pa_cons hb pa_nil hs) hbase hfew hline hs hpl)
    (pe_m1 PySem.F.slot_str_index PySem.F.type_str_index mt_sindex ha hb hs2 hbase hline)) fun σ H Q ⟨ρ, S, h⟩ => by
    unfold cIndex at h
    cases em : ma ρ with
    | stk => rw [em] at h; exact h.elim
    | er c ds =>
      rw [em] at h
      exact .inl ⟨ρ, S, by rw [em]; exact h⟩
    | ok p =>
      obtain ⟨h1, ρ1⟩ := p
      rw [em] at h
      obtain ⟨x0, e0, h⟩ := Res.of_nox (show Res E W σ H ((h1.d ρ1).nox >>= _) _ from h)
      cases x0 <;> first | (exact h.elim) | skip
      · rename_i x
        refine .inr ⟨ρ, S, ?_⟩
        rw [em]
        intro v H1 S1 k1 r1
        obtain rfl := (r1.d S1 e0).str
        have h : Res E W σ H (mb ρ1 >>= fun q => (q.1.d q.2).nox >>= fun y => (indexD (.str x) y).nox >>= fun z => R.ok (Hd.fr z, q.2)) _ := h
        refine ⟨⟨x, rfl⟩, ρ1, S1, (h.of_bind.keep k1).mono fun ⟨h2, ρ2⟩ q w H2 S2 k2 r2 => ?_⟩
        obtain ⟨y, e2, q⟩ := q.of_nox
        obtain ⟨z, e3, q⟩ := q.of_nox
        have rw2 := r2.d S2 e2
        cases y <;> simp only [indexD, reduceCtorEq] at e3
        rename_i y
        obtain rfl := rw2.str
        split at e3
        · rename_i i rest eo
          cases e3
          exact ⟨x, y, i, rest, rfl, rfl, eo, (out_of (K := X.K) S2 (k1.trans k2) q).flat (by unfold Rep; rfl) rfl⟩
        · cases e3
      · rename_i ds0 _
        refine .inl ⟨ρ, S, ?_⟩
        rw [em]
        intro v H1 S1 k1 r1
        obtain ⟨l, vs, rfl, t1, t2⟩ := (r1.d S1 e0).lst
        have h : Res E W σ H (mb ρ1 >>= fun q => (h1.d q.2).nox >>= fun x => (q.1.d q.2).nox >>= fun y => (indexD x y).nox >>= fun z => R.ok (Hd.fr z, q.2)) _ := h
        refine ⟨.inl ⟨rfl, _, SqL.of t1⟩, ρ1, S1, (h.of_bind.keep k1).mono fun ⟨h2, ρ2⟩ q w H2 S2 k2 r2 => ?_⟩
        obtain ⟨x, e1, q⟩ := q.of_nox
        obtain ⟨y, e2, q⟩ := q.of_nox
        obtain ⟨z, e3, q⟩ := q.of_nox
        have rw1 := (r1.keep S1 k2).d S2 e1
        have rw2 := r2.d S2 e2
        have o := out_of (K := X.K) S2 (k1.trans k2) q
        cases x <;> simp only [indexD, reduceCtorEq] at e3
        · obtain ⟨_, _, e, _⟩ := rw1
        · rename_i ds _
          split at e3
          · rename_i c
            rw [Bool.and_eq_true] at c
            split at e3
            · rename_i j ej
              cases e3
              obtain ⟨⟨z, g1, g2⟩, g3⟩ := dps_find ej
              exact ⟨l, w, toPy y, toPys ds, j, z, rfl, rfl, by have q := rw1.dp c.1; unfold toPy at q; exact q, rw2.dp c.2, by have q := c.1; unfold dOk toPy at q; exact q, c.2, g1, g2, g3, o.flat (by unfold Rep; rfl) rfl⟩
            · cases e3
          · cases e3
end
variable {ρ : Y.Env}
@[simp] theorem e_index {a b : EM} : cIndex a b ρ = (a ρ >>= fun p => (p.1.d p.2).nox >>= fun x0 => match x0 with
    | .str x => (b p.2 >>= fun q => (q.1.d q.2).nox >>= fun y => (indexD (.str x) y).nox >>= fun z => R.ok (.fr z, q.2))
    | .lst _ => (b p.2 >>= fun q => (p.1.d q.2).nox >>= fun x => (q.1.d q.2).nox >>= fun y => (indexD x y).nox >>= fun z => R.ok (.fr z, q.2))
    | _ => .stk) := by
  unfold cIndex; congr
end Y

set_option Elab.async false
set_option linter.all false
set_option maxRecDepth 100000
namespace Y
open PySem PySem.Spec PyProof.Rows L2
theorem chkO_ws {O W : List Nat} {ρ : Y.Env} (h : (W.all fun i => O.contains i && shAt i ρ) = true) : chkO O W ρ ρ = .ok () := by
  unfold chkO
  rw [if_pos]
  intro j d e
  by_cases c : j ∈ W
  · have := List.all_eq_true.mp h j c
    rw [Bool.and_eq_true] at this
    obtain ⟨h1, h2⟩ := this
    unfold shAt at h2
    rw [e] at h2
    exact .inr (.inl ⟨by simpa using h1, h2⟩)
  · exact .inl ⟨e, c⟩
theorem nls_map {α : Type} {f : α → D} {xs : List α} (h : ∀ x ∈ xs, (f x).nl = true) : nls (xs.map f) = true := nls_all fun d hd => by
  obtain ⟨x, hx, rfl⟩ := List.mem_map.mp hd
  exact h x hx
end Y

set_option Elab.async false
set_option linter.all false
set_option maxRecDepth 100000
namespace Y
open PySem PySem.Spec PyProof.Rows L2
section
variable {X : Cx} {P0 : Pr} {O W : List Nat} {E : EK} {XE : XK} {e : Expr} {es : List Expr} {ms : AM} {pos : Pos} {k np : Nat} {name : Str}
end
end Y

set_option Elab.async false
set_option linter.all false
set_option maxRecDepth 100000
namespace Y.HR
open PySem PySem.Spec PyProof.Rows L2 _root_.HT PySem.W PySem.SeqAt PySem.AutoSeq1 PySem.MeetsSeq PySem.MeetsSeq2 PySem.MeetsSeq3
section
variable {prog : Program} {w : World} {A : Around} {E : Value → Shared → Prop} {s : Shared}
end
end Y.HR
namespace Y
open PySem PySem.Spec PyProof.Rows L2
def RvR (X : Cx) (r : V → Hp → VK → Prop) : Prop :=
  ∀ (pins : List (Addr × Obj)) (s : Shared) (σ : St) (H : Hp) (x : V) (v vk : Value) (sl : Addr) (Q : VK), Inv X pins σ H s → RelV x v → s.heap.IsSliceOf sl .none .none vk → IsPart vk (some (-1)) → r x H Q →
    ∃ T id, typeLookup (.type T) "__getitem__" = pure (some (.builtin id)) ∧ s.TypeIs v T ∧ wpAny (model X.prog X.w) X.A (getItem v (.ref sl)) (EP X pins σ Q) X.xe s
theorem RvR.or {X : Cx} {r r' : V → Hp → VK → Prop} (h : RvR X r) (h' : RvR X r') : RvR X (fun x H Q => r x H Q ∨ r' x H Q) := by
  intro pins s σ H x v vk sl Q I rx hs pk q
  rcases q with q | q
  · exact h pins s σ H x v vk sl Q I rx hs pk q
  · exact h' pins s σ H x v vk sl Q I rx hs pk q
section
variable {X : Cx} {e k : Expr} {te : TE} {p2 pos : Pos}
variable {P0 : Pr} {O W : List Nat} {E : EK} {ma : EM} {mk : OM}
end
@[simp] theorem d_mulS {x : Str} {k : Int} : mulD (.str x) (.int k) = if k < 2 ^ 20 ∧ -(2 ^ 20) < k ∧ szOk (x.length * k.toNat) = true then .ok (.str (repS k x)) else .stk := id rfl
@[simp] theorem d_mulT {x : List D} {k : Int} : mulD (.tup x) (.int k) = if x.isEmpty = false ∧ -(2 ^ 20) < k ∧ k ≤ 1000 ∧ x.length ≤ 1000 then .ok (.tup (List.replicate k.toNat x).flatten) else .stk := id rfl
@[simp] theorem d_mulL {x : List D} {k : Int} : mulD (.lst x) (.int k) = if k < 2 ^ 20 ∧ -(2 ^ 20) < k ∧ szOk (x.length * k.toNat) = true then .ok (.lst (List.replicate k.toNat x).flatten) else .stk := id rfl
end Y

set_option Elab.async false
set_option linter.all false
set_option maxRecDepth 100000
namespace Y
open PySem PySem.Spec PyProof.Rows L2
section
variable {K : PySem.W.Frag} {P0 : Pr} {O W U : List Nat} {ρ : Y.Env} {σ : L2.St} {H : Hp}
end
section
variable {X : Cx} {P0 : Pr} {O W U : List Nat} {E : EK} {st2 : Stmt} {m : SM}
end
end Y

set_option Elab.async false
set_option linter.all false
set_option maxRecDepth 100000
namespace Y
open PySem PySem.Spec PyProof.Rows L2
section
variable {K : PySem.W.Frag} {H : Hp} {P : Pr}
theorem Reps.at' : ∀ {ds : List D} {vs : List V} {j : Nat} {d : D}, Reps K H ds P vs → ds[j]? = some d → ∃ v, vs[j]? = some v ∧ Rep K H d P v
  | [], _, j, d, _, e => by simp at e
  | x :: ds, _, j, d, h, e => by
    obtain ⟨v, ws, rfl, h1, h2⟩ := h.cons_iff
    cases j with
    | zero => simp at e; subst e; exact ⟨v, rfl, h1⟩
    | succ j => simpa using Reps.at' h2 (by simpa using e)
end
section
variable {X : Cx} {P0 : Pr} {Oc : List Nat} {E : EK} {XE : XK} {e : Expr} {es : List Expr} {ms : AM} {pos : Pos} {k np : Nat} {name : Str}
end
end Y

set_option Elab.async false
set_option linter.all false
set_option maxRecDepth 100000
namespace Y
open PySem PySem.Spec PyProof.Rows L2
section
variable {κ : Type} [DecidableEq κ]
def findD : List κ → List D → κ → Option D
  | k' :: ks, d :: ds, k => if k' = k then some d else findD ks ds k
  | _, _, _ => none
theorem findD_rep {K : PySem.W.Frag} {H : Hp} {P : Pr} {k : κ} : ∀ {ks : List κ} {ds : List D} {vs : List V}, Reps K H ds P vs → ks.length = vs.length →
    (∀ d, findD ks ds k = some d → ∃ v, valV (ks.zip vs) k = some v ∧ Rep K H d P v) ∧ (findD ks ds k = none → valV (ks.zip vs) k = none)
  | [], ds, vs, h, hl => by
    have : vs = [] := List.eq_nil_of_length_eq_zero hl.symm
    subst this
    exact ⟨fun d e => by simp [findD] at e, fun _ => rfl⟩
  | k' :: ks, [], vs, h, hl => by
    have : vs = [] := h.nil_iff
    subst this
    simp at hl
  | k' :: ks, d' :: ds, vs, h, hl => by
    obtain ⟨v, ws, rfl, h1, h2⟩ := h.cons_iff
    obtain ⟨i1, i2⟩ := findD_rep (k := k) (ks := ks) h2 (by simpa using hl)
    by_cases e : k' = k
    · refine ⟨fun d q => ?_, fun q => ?_⟩
      · rw [findD, if_pos e] at q
        cases q
        exact ⟨v, by rw [List.zip_cons_cons]; exact valV_pos e, h1⟩
      · rw [findD, if_pos e] at q; cases q
    · refine ⟨fun d q => ?_, fun q => ?_⟩
      · rw [findD, if_neg e] at q
        obtain ⟨w, w1, w2⟩ := i1 d q
        exact ⟨w, by rw [List.zip_cons_cons, valV_neg e]; exact w1, w2⟩
      · rw [findD, if_neg e] at q
        rw [List.zip_cons_cons, valV_neg e]
        exact i2 q
end
def keyOf : D → Option Key
  | .int i => some (.inl i)
  | .str x => some (.inr x)
  | _ => none
def keysOf : List D → Option (List Key)
  | [] => some []
  | d :: ds => match keyOf d with
    | some k => (keysOf ds).map (k :: ·)
    | none => none
theorem keyOf_rep {K : PySem.W.Frag} {H : Hp} {P : Pr} {d : D} {v : V} {k : Key} (h : RepW K H d P v) (e : keyOf d = some k) : v = kV k := by
  cases d <;> simp only [keyOf, Option.some.injEq, reduceCtorEq] at e
  · subst e; rw [h.int]; rfl
  · subst e; rw [h.str]; rfl
theorem keysOf_rep {K : PySem.W.Frag} {H : Hp} {P : Pr} : ∀ {ds : List D} {vs : List V} {ks : List Key}, Reps K H ds P vs → keysOf ds = some ks → vs = ks.map kV
  | [], vs, ks, h, e => by simp [keysOf] at e; subst e; exact h.nil_iff
  | d :: ds, vs, ks, h, e => by
    obtain ⟨v, ws, rfl, h1, h2⟩ := h.cons_iff
    unfold keysOf at e
    cases q : keyOf d with
    | none => rw [q] at e; cases e
    | some k =>
      rw [q] at e
      cases r : keysOf ds with
      | none => rw [r] at e; cases e
      | some ks' =>
        rw [r] at e
        cases e
        have i := keysOf_rep h2 r
        have j : v = kV k := by
          cases d <;> simp only [keyOf, Option.some.injEq, reduceCtorEq] at q
          · subst q; unfold Rep at h1; rw [h1]; rfl
          · subst q; unfold Rep at h1; rw [h1]; rfl
        rw [i, j]; rfl
/-- what d holds at the key: none where it holds nothing -/
def getDic : D → D → R (Option D)
  | .dik ks ds, y => match keyOf y with
    | some k => .ok (findD ks ds k)
    | none => .stk
  | .dit ks ds, .tup ys => match keysOf ys with
    | some k => .ok (findD ks ds k)
    | none => .stk
  | _, _ => .stk
section
variable {K : PySem.W.Frag} {H : Hp} {P : Pr}
theorem getDic_rep {dx dy : D} {x y : V} {o : Option D} (rx : RepW K H dx P x) (ry : RepW K H dy P y) (e : getDic dx dy = .ok o) :
    ∃ a r, x = .ref a ∧ DGet H a y r ∧ r.isSome = o.isSome ∧ ∀ d, o = some d → ∃ v, r = some v ∧ Rep K H d P v := by
  unfold getDic at e
  split at e
  · rename_i ks ds
    obtain ⟨a, vs, rfl, hl, rd, rs⟩ := rx
    cases q : keyOf dy with
    | none => rw [q] at e; cases e
    | some k =>
      rw [q] at e
      cases e
      obtain ⟨f1, f2⟩ := findD_rep (k := k) rs hl
      refine ⟨a, valV (ks.zip vs) k, rfl, .inl ⟨_, k, rd, keyOf_rep ry q, rfl⟩, ?_, f1⟩
      cases z : findD ks ds k with
      | none => rw [f2 z]; rfl
      | some d => obtain ⟨v, v1, _⟩ := f1 d z; rw [v1]; rfl
  · rename_i ks ds ys
    obtain ⟨a, vs, rfl, hl, rd, rs⟩ := rx
    obtain ⟨b, us, rfl, h1, h2⟩ := ry.tup
    cases q : keysOf ys with
    | none => rw [q] at e; cases e
    | some k =>
      rw [q] at e
      cases e
      obtain ⟨f1, f2⟩ := findD_rep (k := k) rs hl
      have eu := keysOf_rep h2 q
      subst eu
      refine ⟨a, valV (ks.zip vs) k, rfl, .inr ⟨_, k, b, rd, rfl, h1, rfl⟩, ?_, f1⟩
      cases z : findD ks ds k with
      | none => rw [f2 z]; rfl
      | some d => obtain ⟨v, v1, _⟩ := f1 d z; rw [v1]; rfl
  · cases e
end
def cDGet (a b : EM) : EM := fun ρ => do
  let (h1, ρ1) ← a ρ
  let (h2, ρ2) ← b ρ1
  let x ← (h1.d ρ2).nox
  let y ← (h2.d ρ2).nox
  let o ← (getDic x y).nox
  match o with
  | some z => pure (.vl z, ρ2)
  | none => .stk
def cDIn (neg : Bool) (b a : EM) : EM := fun ρ => do
  let (h2, ρ1) ← b ρ
  let (h1, ρ2) ← a ρ1
  let x ← (h1.d ρ2).nox
  let y ← (h2.d ρ2).nox
  let o ← (getDic x y).nox
  pure (.fr (.bl (if neg = true then !o.isSome else o.isSome)), ρ2)
section
variable {X : Cx} {P0 : Pr} {O W : List Nat} {E : EK} {a b : Expr} {ma mb : EM} {pos : Pos}
theorem ce_dget (hu : X.A.units + 1 < cLine) (ha : CEx X P0 O W E a ma) (hb : CEx X P0 O W E b mb) (hs : NoSl b := by intro _ _; rfl) : CEx X P0 O W E (.Subscript a b pos) (cDGet ma mb) := PE.imp (pe_dget hu ha hb hs) fun σ H Q ⟨ρ, S, h⟩ => by
  refine ⟨ρ, S, h.of_bind.mono fun ⟨h1, ρ1⟩ q x H1 S1 k1 r1 => ⟨ρ1, S1, (q.keep k1).of_bind.mono fun ⟨h2, ρ2⟩ q2 y H2 S2 k2 r2 => ?_⟩⟩
  obtain ⟨dx, e1, q3⟩ := q2.of_nox
  obtain ⟨dy, e2, q4⟩ := q3.of_nox
  obtain ⟨o, e3, q5⟩ := q4.of_nox
  have rx := (r1.keep S1 k2).d S2 e1
  have ry := r2.d S2 e2
  obtain ⟨c, r, rfl, g, _, f⟩ := getDic_rep rx ry e3
  cases o with
  | none => exact q5.elim
  | some z =>
    obtain ⟨v, rfl, rv⟩ := f z rfl
    exact ⟨c, v, rfl, g, q5 v H2 S2 (k1.trans k2) rv⟩
end
section
variable {K : PySem.W.Frag} {P0 : Pr} {O W U : List Nat} {ρ : Y.Env} {σ : L2.St} {H : Hp}
end
section
variable {X : Cx} {P0 : Pr} {O W U : List Nat} {E : EK}
end
@[simp] theorem e_dget {a b : EM} {ρ : Y.Env} : cDGet a b ρ = (a ρ >>= fun p => b p.2 >>= fun q => (p.1.d q.2).nox >>= fun x => (q.1.d q.2).nox >>= fun y => (getDic x y).nox >>= fun o => match o with | some z => R.ok (.vl z, q.2) | none => .stk) := by
  unfold cDGet; congr
end Y

set_option Elab.async false
set_option linter.all false
set_option maxRecDepth 100000
namespace Y
open PySem PySem.Spec PyProof.Rows L2
section
variable {κ : Type} [DecidableEq κ]
def setD : List κ → List D → κ → D → List D
  | k' :: ks, d' :: ds, k, d => (if k' = k then d else d') :: setD ks ds k d
  | _, _, _, _ => []
def setV : List κ → List V → κ → V → List V
  | k' :: ks, d' :: ds, k, d => (if k' = k then d else d') :: setV ks ds k d
  | _, _, _, _ => []
theorem setV_len {k : κ} {v : V} : ∀ {ks : List κ} {vs : List V}, ks.length = vs.length → (setV ks vs k v).length = ks.length
  | [], _, _ => rfl
  | _ :: _, [], h => by simp at h
  | _ :: ks, _ :: vs, h => by simp [setV, setV_len (ks := ks) (vs := vs) (by simpa using h)]
theorem set_rep {K : PySem.W.Frag} {H : Hp} {P : Pr} {k : κ} {d : D} {v : V} (r : Rep K H d P v) : ∀ {ks : List κ} {ds : List D} {vs : List V}, Reps K H ds P vs → ks.length = vs.length → Reps K H (setD ks ds k d) P (setV ks vs k v)
  | [], ds, vs, h, hl => by
    have : vs = [] := List.eq_nil_of_length_eq_zero hl.symm
    subst this
    cases ds <;> exact Reps.nil
  | k' :: ks, [], vs, h, hl => by
    have : vs = [] := h.nil_iff
    subst this
    simp at hl
  | k' :: ks, d' :: ds, vs, h, hl => by
    obtain ⟨w, ws, rfl, h1, h2⟩ := h.cons_iff
    have ih := set_rep (k := k) r (ks := ks) h2 (by simpa using hl)
    show Reps K H ((if k' = k then d else d') :: setD ks ds k d) P ((if k' = k then v else w) :: setV ks ws k v)
    by_cases e : k' = k
    · rw [if_pos e, if_pos e]; exact Reps.cons r ih
    · rw [if_neg e, if_neg e]; exact Reps.cons h1 ih
theorem map_put {k : κ} {v : V} : ∀ {ks : List κ} {vs : List V}, (ks.zip vs).map (fun kv => if kv.1 = k then (kv.1, v) else kv) = ks.zip (setV ks vs k v)
  | [], _ => rfl
  | _ :: _, [] => rfl
  | k' :: ks, w :: vs => by
    have ih := map_put (k := k) (v := v) (ks := ks) (vs := vs)
    rw [List.zip_cons_cons, List.map_cons, ih]
    show _ = (k' :: ks).zip ((if k' = k then v else w) :: setV ks vs k v)
    rw [List.zip_cons_cons]
    by_cases e : k' = k
    · rw [if_pos e, if_pos e]
    · rw [if_neg e, if_neg e]
theorem any_zip {k : κ} : ∀ {ks : List κ} {vs : List V}, ks.length = vs.length → ((ks.zip vs).any fun kv => decide (kv.1 = k)) = decide (k ∈ ks)
  | [], vs, h => by
    have : vs = [] := List.eq_nil_of_length_eq_zero h.symm
    subst this
    simp
  | _ :: _, [], h => by simp at h
  | k' :: ks, w :: vs, h => by
    have ih := any_zip (k := k) (ks := ks) (vs := vs) (by simpa using h)
    rw [List.zip_cons_cons, List.any_cons, ih, Bool.eq_iff_iff]
    simp only [Bool.or_eq_true, decide_eq_true_eq, List.mem_cons]
    exact ⟨fun h => h.imp (fun h => h.symm) id, fun h => h.imp (fun h => h.symm) id⟩
theorem zip_snoc {k : κ} {v : V} : ∀ {ks : List κ} {vs : List V}, ks.length = vs.length → ks.zip vs ++ [(k, v)] = (ks ++ [k]).zip (vs ++ [v])
  | [], vs, h => by
    have : vs = [] := List.eq_nil_of_length_eq_zero h.symm
    subst this
    rfl
  | _ :: _, [], h => by simp at h
  | k' :: ks, w :: vs, h => by
    have ih := zip_snoc (k := k) (v := v) (ks := ks) (vs := vs) (by simpa using h)
    rw [List.zip_cons_cons, List.cons_append, ih]
    rfl
def putKs (ks : List κ) (k : κ) : List κ := if k ∈ ks then ks else ks ++ [k]
def putDs (ks : List κ) (ds : List D) (k : κ) (d : D) : List D := if k ∈ ks then setD ks ds k d else ds ++ [d]
def putVs (ks : List κ) (vs : List V) (k : κ) (v : V) : List V := if k ∈ ks then setV ks vs k v else vs ++ [v]
theorem put_zip {k : κ} {v : V} {ks : List κ} {vs : List V} (hl : ks.length = vs.length) : putK (ks.zip vs) k v = (putKs ks k).zip (putVs ks vs k v) ∧ (putKs ks k).length = (putVs ks vs k v).length := by
  unfold putK putKs putVs
  rw [any_zip hl]
  by_cases c : k ∈ ks
  · rw [if_pos (decide_eq_true c), if_pos c, if_pos c, map_put]
    exact ⟨rfl, (setV_len hl).symm⟩
  · rw [if_neg (by simpa using c), if_neg c, if_neg c, zip_snoc hl]
    exact ⟨rfl, by simp [hl]⟩
theorem put_reps {K : PySem.W.Frag} {H : Hp} {P : Pr} {k : κ} {d : D} {v : V} {ks : List κ} {ds : List D} {vs : List V} (r : Rep K H d P v) (h : Reps K H ds P vs) (hl : ks.length = vs.length) : Reps K H (putDs ks ds k d) P (putVs ks vs k v) := by
  unfold putDs putVs
  by_cases c : k ∈ ks
  · rw [if_pos c, if_pos c]; exact set_rep r h hl
  · rw [if_neg c, if_neg c]; exact h.append (Reps.cons r Reps.nil)
end
def putDic : D → D → D → R D
  | .dik ks ds, y, d => match keyOf y with
    | some k => if szOk (ks.length + 1) = true then .ok (.dik (putKs ks k) (putDs ks ds k d)) else .stk
    | none => .stk
  | .dit ks ds, .tup ys, d => match keysOf ys with
    | some k => if szOk (ks.length + 1) = true then .ok (.dit (putKs ks k) (putDs ks ds k d)) else .stk
    | none => .stk
  | _, _, _ => .stk
def dicAt (i : Nat) (ρ : Y.Env) : R D := match ρ[i]? with
  | some (some (.dik ks ds)) => .ok (.dik ks ds)
  | some (some (.dit ks ds)) => .ok (.dit ks ds)
  | _ => .stk
def sDPutS (i : Nat) (mk mv : EM) : SM := fun ρ => do
  let (h, ρ1) ← mv ρ
  let d ← h.v.nox
  let _ ← (dicAt i ρ1).nox
  let (h2, ρ2) ← mk ρ1
  let k ← h2.v.nox
  let x ← (dicAt i ρ2).nox
  let z ← (putDic x k d).nox
  pure (.nx, ρ2.set i (some z))
section
variable {K : PySem.W.Frag} {X : Cx} {P0 : Pr} {O W U : List Nat} {E : EK} {e k : Expr} {ma mk : EM}
theorem dicAt_ok {i : Nat} {ρ : Y.Env} {x : D} (h : dicAt i ρ = .ok x) : ρ[i]? = some (some x) := by
  unfold dicAt at h
  split at h
  · rename_i q; cases h; exact q
  · rename_i q; cases h; exact q
  · cases h
theorem dicAt_ref {ρ : Y.Env} {σ : L2.St} {H : Hp} (S : Sim K P0 O W ρ σ H) {i : Nat} {x : D} (hi : i ∈ O) (h : dicAt i ρ = .ok x) : ∃ a, σ[i]? = some (some (.ref a)) := by
  have q := dicAt_ok h
  obtain ⟨v, h1, h2⟩ := S.own i x q hi
  cases x with
  | dik ks ds => obtain ⟨a, vs, rfl, _⟩ := h2; exact ⟨a, h1⟩
  | dit ks ds => obtain ⟨a, vs, rfl, _⟩ := h2; exact ⟨a, h1⟩
  | _ => unfold dicAt at h; rw [q] at h; cases h
theorem cs_dput {i : Nat} {x : Str} {p sp pos : Pos} (hu : X.A.units + 1 < cLine) (h : CEx X P0 O W E e ma) (hk : CEx X P0 O W E k mk) (hi : i ∈ O := by decide) (hx : X.N[i]? = some x := by rfl) (hv : Vis X.env.scope x := by first | exact Or.inl rfl | exact Or.inr (Or.inl rfl) | exact Or.inr (Or.inr rfl)) (hd : (x == ("__debug__" : Str)) = false := by decide) (hcd : (x == ("__classdict__" : Str)) = false := by decide)
    (hs : swapsWith e (some (.Subscript (.Name x p) k sp)) pos.line X.env = pure false := by rfl) :
    CS X P0 O W U E (.Assign [.Subscript (.Name x p) k sp] e pos) (sDPutS i mk ma) := PS.imp (ps_dput hu (pe_var (i := i) hx hv hd hcd) hk h hs) fun D σ H ⟨ρ, S, h⟩ => by
  refine ⟨ρ, S, (h.of_bind.down S.sub).mono fun ⟨hd, ρ1⟩ q v H1 S1 k1 r1 => ?_⟩
  obtain ⟨d, e1, q1⟩ := q.of_nox
  obtain ⟨x0, e0, q2⟩ := q1.of_nox
  obtain ⟨l, h1⟩ := dicAt_ref S1 hi e0
  refine ⟨.ref l, h1, ρ1, S1, ((q2.of_bind.down S1.sub).keep k1).mono fun ⟨hd2, ρ2⟩ q3 w H2 S2 k2 r2 => ?_⟩
  obtain ⟨dk, e2, q4⟩ := q3.of_nox
  obtain ⟨x1, e3, q5⟩ := Res.of_nox (show Res E O σ H ((dicAt i ρ2).nox >>= _) _ from q4)
  obtain ⟨z, e4, q6⟩ := Res.of_nox (show Res E O σ H ((putDic x1 dk d).nox >>= _) _ from q5)
  have rk := r2.v e2
  have rv := S1.rep k2 (r1.v e1)
  obtain ⟨v1, g1, g2⟩ := S2.own i x1 (dicAt_ok e3) hi
  rw [h1] at g1
  cases g1
  have pa : FA P0 O σ l := .inr ⟨i, hi, h1⟩
  have up : ∀ (o : HO) b u, H2 b = some u → ¬ FA P0 O σ b → upd H2 l o b = some u := fun o b u e n => by rw [upd_ne fun z => n (by rw [z]; exact pa)]; exact e
  unfold putDic at e4
  split at e4
  · rename_i ks ds
    obtain ⟨a, vs, ea, hl, hH, rs⟩ := g2
    cases ea
    cases qk : keyOf dk with
    | none => rw [qk] at e4; cases e4
    | some kk =>
      rw [qk] at e4
      simp only at e4
      split at e4
      · rename_i zs
        cases e4
        obtain ⟨pz, pl⟩ := put_zip (k := kk) (v := v) hl
        have ew : w = kV kk := keyOf_rep (rk.weak S2.dom) qk
        subst ew
        refine ⟨l, _, rfl, DPut.k hH (by rw [List.length_zip, ← hl, Nat.min_self]; exact of_decide_eq_true zs), ?_⟩
        rw [pz]
        exact q6 σ _ (S2.ownW hi h1 trivial ⟨l, _, rfl, pl, upd_same, (put_reps rv rs hl).mono _ S2.dom (up _) fun b z => .inl z⟩) (Tr.ownW S.sub (k1.trans k2) hi h1) rfl
      · cases e4
  · rename_i ks ds ys
    obtain ⟨a, vs, ea, hl, hH, rs⟩ := g2
    cases ea
    cases qk : keysOf ys with
    | none => rw [qk] at e4; cases e4
    | some kk =>
      rw [qk] at e4
      simp only at e4
      split at e4
      · rename_i zs
        cases e4
        obtain ⟨pz, pl⟩ := put_zip (k := kk) (v := v) hl
        unfold Rep at rk
        obtain ⟨b, us, rfl, b1, b2⟩ := rk
        have eu := keysOf_rep b2 qk
        subst eu
        refine ⟨l, _, rfl, DPut.t hH b1 (by rw [List.length_zip, ← hl, Nat.min_self]; exact of_decide_eq_true zs), ?_⟩
        rw [pz]
        exact q6 σ _ (S2.ownW hi h1 trivial ⟨l, _, rfl, pl, upd_same, (put_reps rv rs hl).mono _ S2.dom (up _) fun b z => .inl z⟩) (Tr.ownW S.sub (k1.trans k2) hi h1) rfl
      · cases e4
  · cases e4
end
end Y

set_option Elab.async false
set_option linter.all false
set_option maxRecDepth 100000
namespace Y
open PySem PySem.Spec PyProof.Rows L2
/-- a flow, or the class of a refusal -/
abbrev TM := Env → R ((Fl ⊕ Str) × Env)
abbrev XM := Env → R ((Hd ⊕ Str) × Env)
def sTry (i : Nat) (es : List Str) (m : TM) (h : Str → SM) : SM := fun ρ => do
  let (x, ρ1) ← (m ρ).nox
  match x with
  | .inl f => pure (f, ρ1)
  | .inr c => if c ∈ es ∧ i < ρ1.length then (do
      let (f, ρ2) ← (h c (ρ1.set i none)).nox
      pure (f, ρ2.set i none)) else .stk
/-- what an own class of refusals bears -/
structure ErrZ (K : PySem.W.Frag) (mg : Str → Option Value) (c : Str) : Prop where
  ex : ∃ C, mg c = some (.ref C) ∧ ExcC K C
/-- isinstance(e, x) of the classes es -/
structure IsF (K : PySem.W.Frag) (mg : Str → Option Value) (es : List Str) (x : Str) (f : Str → Bool) : Prop where
  ex : ∃ u, mg x = some (.ref u) ∧ ∀ c ∈ es, ∃ C, mg c = some (.ref C) ∧ PySem.W.kitOne K (.ref C) (.ref u) = some (f c)
/-- except x takes all of the classes es -/
structure CatF (K : PySem.W.Frag) (mg : Str → Option Value) (es : List Str) (x : Str) : Prop where
  ex : ∃ u, mg x = some (.ref u) ∧ ∀ c ∈ es, ∃ C, mg c = some (.ref C) ∧ PySem.W.exmOne K (.ref C) (.ref u) = some true
theorem call_isP {X : Cx} {a D : Addr} {oe : Obj} (Z : ExcC X.K D) (hz : Zc (.ref D) none oe) (hf : ∃ vs, oe.data = .fields vs) (hp : (a, oe) ∈ X.pn) : CallR X (.builtin "isinstance") (rIsE X.K D a) := by
  intro pins s σ H xs us Q I r q
  rcases q with ⟨c, cv, b, rfl, hc, kb, q⟩
  rcases r with _ | ⟨ra, r⟩
  rcases r with _ | ⟨rb, r⟩
  rcases r with _ | _
  have eu := hc _ rb
  subst eu
  obtain rfl := ra
  have g := (I.pin (a, oe) (List.mem_append_left _ hp)).1
  rcases hf with ⟨fs, hd⟩
  rcases oe with ⟨oc, od, oda, osl⟩
  rcases hz with ⟨z1, z2⟩
  dsimp only at z1 z2 hd
  subst z1; subst z2; subst hd
  have J : PySem.W.InstAt s.heap a ⟨.ref D, none, .fields fs, osl⟩ D none := ⟨g, rfl, rfl, trivial⟩
  exact PySem.W.kia_one (PySem.W.handS_kitx_exc Z.hg Z.hk Z.hs Z.hd Z.ha Z.hn Z.ht Z.hm) I.kIn J kb (fun y => nomatch y) fun tk => ⟨V.bl b, H, I.kept (t' := tk) fun _ _ y => y, rfl, q⟩
section
variable {X : Cx} {P0 : Pr} {O W U : List Nat} {E : EK} {XE : XK} {a b c e : Expr} {es : List Expr} {ma mb mc : EM} {ms : AM} {pos : Pos} {k np : Nat} {name : Str} {st : Stmt} {sts : List Stmt} {m n : SM}
def tX (K : PySem.W.Frag) (mg : Str → Option Value) (P0 : Pr) (O W : List Nat) (m : XM) (Ws : WX) : TE := fun σ H Q => ∃ ρ, Sim K P0 O W ρ σ H ∧
  Res E00 W σ H (m ρ) fun a => match a.1 with
    | .inl h => ∀ v H', Sim K P0 O W a.2 σ H' → Keep W σ H H' → HdR K P0 O H σ H' h v → Q v H'
    | .inr c => ∀ H', Sim K P0 O W a.2 σ H' → Keep W σ H H' → ∃ C, mg c = some (.ref C) ∧ Ws (.ref C) none σ H'
def tTb (K : PySem.W.Frag) (mg : Str → Option Value) (P0 : Pr) (O W U : List Nat) (m : TM) (Ws : WX) : TS := fun D σ H => ∃ ρ, Sim K P0 O W ρ σ H ∧
  Res E00 O σ H (m ρ) fun a => match a.1 with
    | .inl f => ∀ σ' H', Sim K P0 O W a.2 σ' H' → Tr O U σ H σ' H' → σ'.length = σ.length → Fin K P0 O H D σ' H' f
    | .inr c => ∀ σ' H', Sim K P0 O W a.2 σ' H' → Tr O U σ H σ' H' → σ'.length = σ.length → ∃ C, mg c = some (.ref C) ∧ Ws (.ref C) none σ' H'
/-- f(..) that may refuse -/
def cXcall (g : List D → R Hd) (m : AM) : XM := fun ρ => do
  let (hs, ρ1) ← m ρ
  let ds ← (vsOf hs).nox
  match g ds with
  | .ok (.ow _) => .stk
  | .ok h => pure (.inl h, ρ1)
  | .er c [] => pure (.inr c, ρ1)
  | _ => .stk
theorem tX_call {g : List D → R Hd} {Ws : WX} (hl : ALen ms np) (σ : St) (H : Hp) (Q : VK) (h : tX X.K X.mg P0 O W (cXcall g ms) Ws σ H Q) :
    tCallS (spD X.K X.mg np [] (pureF g)) (WE Ws) (tMs X.K P0 O W E00 ms) σ H Q := by
  obtain ⟨ρ, S, h⟩ := h
  refine ⟨ρ, S, ?_⟩
  cases em : ms ρ with
  | stk => unfold cXcall at h; rw [em] at h; exact h.elim
  | er c ds => unfold cXcall at h; rw [em] at h; exact h
  | ok p =>
    obtain ⟨hs, ρ1⟩ := p
    unfold cXcall at h
    rw [em] at h
    intro vs H1 S1 k1 r1
    obtain ⟨ds, e1, q⟩ := Res.of_nox (show Res E00 W σ H ((vsOf hs).nox >>= _) _ from h)
    have rr := HdRs.vs r1 e1
    have lv : vs.length = np := by rw [HdRs.len r1]; exact hl ρ hs ρ1 em
    refine ⟨lv, ds, FA P0 O σ, sim_args S1.dom rr, by rw [← rr.length]; exact lv, ?_⟩
    unfold pureF
    cases eg : g ds with
    | stk => rw [eg] at q; exact q.elim
    | er c xs =>
      rw [eg] at q
      cases xs with
      | cons x xs => exact q.elim
      | nil =>
        have q : ∀ H', Sim X.K P0 O W ρ1 σ H' → Keep W σ H H' → ∃ C, X.mg c = some (.ref C) ∧ Ws (.ref C) none σ H' := q
        exact fun H' kp => .inl ⟨rfl, q H' (S1.same kp.nil) (k1.trans (Keep.same kp.nil))⟩
    | ok hd =>
      rw [eg] at q
      intro v H2 k2 _ r2
      have sm := Keep.nil k2
      cases hd with
      | ow j => exact q.elim
      | fr d =>
        have q : ∀ v H', Sim X.K P0 O W ρ1 σ H' → Keep W σ H H' → HdR X.K P0 O H σ H' (.fr d) v → Q v H' := q
        exact q v H2 (S1.same sm) (k1.trans (Keep.same sm)) ⟨r2.1.less (fun b z => (S1.same sm).dom b ((FA_nil b).mp z)) fun b z => .inl z, fun m a e => Classical.byContradiction fun z => k1.some a z (r2.2 m a e)⟩
      | vl d =>
        have q : ∀ v H', Sim X.K P0 O W ρ1 σ H' → Keep W σ H H' → HdR X.K P0 O H σ H' (.vl d) v → Q v H' := q
        exact q v H2 (S1.same sm) (k1.trans (Keep.same sm)) (Rep.less (fun b z => (S1.same sm).dom b ((FA_nil b).mp z)) r2 fun b z => .inl z)
theorem cx_call {g : List D → R Hd} {p : Pos} {Ws : WX} (G : Glo X.prog X.w X.K X.mg X.base name k np [] (pureF g)) (tk : L2N.Takes X Ws) (hr : Room k X.A) (ha : CA X P0 O W E00 (e :: es) ms) (hl : ALen ms np) (hg : Gl X name := by rfl) (hdb : (name == ("__debug__" : Str)) = false := by decide)
    (he : starEach (e :: es) X.env = (false, eval e X.env) :: starEach es X.env := by rfl) (hpl : (backTo pos (starEach es X.env)).any (·.1) = false := by rfl) : PE X (.Call (.Name name p) (e :: es) [] pos) (tX X.K X.mg P0 O W (cXcall g ms) Ws) := by
  obtain ⟨f, fd, ps, hm, hk, hb, _, F⟩ := G.ex
  exact PE.imp (pe_callS (E := WE Ws) F hr hg hm hk hb (fun σ => L2N.passAt tk σ) ha hdb he hpl) fun σ H Q h => tX_call hl σ H Q h
def tbRet (m : XM) : TM := fun ρ => do
  let (x, ρ1) ← m ρ
  match x with
  | .inl h => pure (.inl (.rt h), ρ1)
  | .inr c => pure (.inr c, ρ1)
theorem cb_ret {xm : XM} {Ws : WX} (h : PE X e (tX X.K X.mg P0 O W xm Ws)) : PS X (.Return (some e) pos) (tTb X.K X.mg P0 O W U (tbRet xm) Ws) := PS.imp (ps_ret h) fun D σ H ⟨ρ, S, h⟩ =>
  ⟨ρ, S, (h.of_bind.down S.sub).mono fun ⟨x, ρ1⟩ q => by
    cases x with
    | inl hd => exact fun v H1 S1 k1 r1 => q σ H1 S1 (Tr.of S.sub k1) rfl v r1
    | inr c => exact fun H1 S1 k1 => q σ H1 S1 (Tr.of S.sub k1) rfl⟩
def tbNil : TM := fun ρ => .ok (.inl .nx, ρ)
def tbIf (t : BM) (m n : TM) : TM := fun ρ => do
  let (k, ρ1) ← t ρ
  if k = true then m ρ1 else n ρ1
def tbSeq (m n : TM) : TM := fun ρ => do
  let (f, ρ1) ← m ρ
  match f with
  | .inl .nx => n ρ1
  | f => pure (f, ρ1)
theorem cb_nil {Ws : WX} : PSs X [] (tTb X.K X.mg P0 O W U tbNil Ws) := PSs.imp pss_nil fun D σ H ⟨ρ, S, h⟩ => h σ H S .refl rfl
theorem cb_one {Ws : WX} {m : TM} (h : PS X st (tTb X.K X.mg P0 O W U m Ws)) : PSs X [st] (tTb X.K X.mg P0 O W U m Ws) := pss_one h
theorem tTb_then {K : PySem.W.Frag} {mg : Str → Option Value} {Ws : WX} {m : TM} {D : Ends} {σ σ1 : St} {H H1 : Hp} {ρ1 : Env} (S1 : Sim K P0 O W ρ1 σ1 H1) (t1 : Tr O U σ H σ1 H1) (l1 : σ1.length = σ.length)
    (q : Res E00 O σ H (m ρ1) fun a => match a.1 with
    | .inl f => ∀ σ' H', Sim K P0 O W a.2 σ' H' → Tr O U σ H σ' H' → σ'.length = σ.length → Fin K P0 O H D σ' H' f
    | .inr c => ∀ σ' H', Sim K P0 O W a.2 σ' H' → Tr O U σ H σ' H' → σ'.length = σ.length → ∃ C, mg c = some (.ref C) ∧ Ws (.ref C) none σ' H') : tTb K mg P0 O W U m Ws D σ1 H1 :=
  ⟨ρ1, S1, (q.keepT t1).mono fun ⟨x, ρ2⟩ q2 => by
    cases x with
    | inl f =>
      intro σ2 H2 S2 t2 l2
      have q3 := q2 σ2 H2 S2 (t1.trans t2) (l2.trans l1)
      cases f with
      | nx => exact q3
      | bk => exact q3
      | ct => exact q3
      | rt hd => exact fun v r => q3 v (r.back t1.some)
    | inr c => exact fun σ2 H2 S2 t2 l2 => q2 σ2 H2 S2 (t1.trans t2) (l2.trans l1)⟩
theorem cb_cons {Ws : WX} {m n : TM} (h : PS X st (tTb X.K X.mg P0 O W U m Ws)) (h2 : PSs X sts (tTb X.K X.mg P0 O W U n Ws)) : PSs X (st :: sts) (tTb X.K X.mg P0 O W U (tbSeq m n) Ws) := PSs.imp (pss_cons h h2) fun D σ H ⟨ρ, S, h⟩ =>
  ⟨ρ, S, h.of_bind.mono fun ⟨f, ρ1⟩ q => by
    cases f with
    | inr c => exact q
    | inl f =>
      cases f with
      | nx => exact fun σ1 H1 S1 t1 l1 => tTb_then S1 t1 l1 q
      | bk => exact q
      | ct => exact q
      | rt hd => exact q⟩
theorem cb_if {Ws : WX} {t : BM} {m n : TM} {xs ys : List Stmt} (hc : CT X P0 O W E00 c t) (h1 : PSs X xs (tTb X.K X.mg P0 O W U m Ws)) (h2 : PSs X ys (tTb X.K X.mg P0 O W U n Ws)) : PS X (.If c xs ys pos) (tTb X.K X.mg P0 O W U (tbIf t m n) Ws) := PS.imp (ps_if hc h1 h2) fun D σ H ⟨ρ, S, h⟩ =>
  ⟨ρ, S, (h.of_bind.down S.sub).mono fun ⟨k, ρ1⟩ q H1 S1 k1 => by
    cases k with
    | true => exact (if_pos rfl).mpr (tTb_then S1 (Tr.of S.sub k1) rfl q)
    | false => exact (if_neg Bool.false_ne_true).mpr (tTb_then S1 (Tr.of S.sub k1) rfl q)⟩
/-- the error lies in slot i -/
def tZ (K : PySem.W.Frag) (P0 : Pr) (O W U : List Nat) (i : Nat) (a : Addr) (m : SM) : TS := fun D σ H => σ[i]? = some (some (.ref a)) ∧ tSt K P0 O W U E00 m D σ H
def tZe (K : PySem.W.Frag) (P0 : Pr) (O W : List Nat) (i : Nat) (a : Addr) (m : EM) : TE := fun σ H Q => σ[i]? = some (some (.ref a)) ∧ tM K P0 O W E00 m σ H Q
def tZa (K : PySem.W.Frag) (P0 : Pr) (O W : List Nat) (i : Nat) (a : Addr) (m : AM) : TA := fun σ H Q => σ[i]? = some (some (.ref a)) ∧ tMs K P0 O W E00 m σ H Q
variable {i : Nat} {ad : Addr}
theorem cz_of (h : CS X P0 O W U E00 st m) : PS X st (tZ X.K P0 O W U i ad m) := PS.imp h fun _ _ _ q => q.2
theorem cz_one (h : PS X st (tZ X.K P0 O W U i ad m)) : PSs X [st] (tZ X.K P0 O W U i ad m) := pss_one h
theorem cz_cons (h : PS X st (tZ X.K P0 O W U i ad m)) (h2 : PSs X sts (tZ X.K P0 O W U i ad n)) (hi : i ∈ U := by decide) : PSs X (st :: sts) (tZ X.K P0 O W U i ad (sSeq m n)) := PSs.imp (pss_cons h h2) fun D σ H ⟨e, ρ, S, h⟩ =>
  ⟨e, ρ, S, h.of_bind.mono fun ⟨f, ρ1⟩ q σ1 H1 S1 t1 l1 => by
    cases f with
    | nx =>
      refine ⟨by rw [t1.unch i hi]; exact e, ρ1, S1, (Res.keepT (show Res E00 O σ H (n ρ1) _ from q) t1).mono fun ⟨f2, ρ2⟩ q2 σ2 H2 S2 t2 l2 => ?_⟩
      have q3 := q2 σ2 H2 S2 (t1.trans t2) (l2.trans l1)
      cases f2 with
      | nx => exact q3
      | bk => exact q3
      | ct => exact q3
      | rt hd => exact fun v r => q3 v (r.back t1.some)
    | bk => exact q σ1 H1 S1 t1 l1
    | ct => exact q σ1 H1 S1 t1 l1
    | rt hd => exact q σ1 H1 S1 t1 l1⟩
/-- isinstance(e, x) -/
theorem cz_isi {C : Addr} {oe : Obj} {cn x nm : Str} {f : Str → Bool} {cl : List Str} {p q q2 : Pos} (Z : ErrZ X.K X.mg cn) (F : IsF X.K X.mg cl x f) (hc : cn ∈ cl) (hC : X.mg cn = some (.ref C)) (hz : Zc (.ref C) none oe) (hf : ∃ vs, oe.data = .fields vs) (hp : (ad, oe) ∈ X.pn) (hm : X.mg "isinstance" = none)
    (hN : X.N[i]? = some nm := by rfl) (hv : Vis X.env.scope nm := by first | exact Or.inl rfl | exact Or.inr (Or.inl rfl)) (hd : (nm == ("__debug__" : Str)) = false := by decide) (hcd : (nm == ("__classdict__" : Str)) = false := by decide)
    (hg : Gl X "isinstance" := by rfl) (hg2 : Gl X x := by rfl) (hdb : (x == ("__debug__" : Str)) = false := by decide)
    (he : starEach [.Name nm q, .Name x q2] X.env = (false, eval (.Name nm q) X.env) :: starEach [.Name x q2] X.env := by rfl) (hpl : (backTo pos (starEach [.Name x q2] X.env)).any (·.1) = false := by rfl) (he2 : starEach [.Name x q2] X.env = (false, eval (.Name x q2) X.env) :: starEach [] X.env := by rfl) :
    PE X (.Call (.Name "isinstance" p) [.Name nm q, .Name x q2] [] pos) (tZe X.K P0 O W i ad (cC (.bl (f cn)))) := by
  obtain ⟨C', hC', Zc'⟩ := Z.ex
  rw [hC] at hC'
  cases hC'
  obtain ⟨u, hu, hk⟩ := F.ex
  refine PE.imp (pe_callB (call_isP Zc' hz hf hp) hg hm bo_isinstance (pa_cons (pe_var (i := i) hN hv hd hcd) (pa_cons (pe_glob (v := .ref u) hg2 hu rfl hdb) pa_nil he2) he) (by decide) (by decide) he hpl) fun σ H Q ⟨e, ρ, S, q⟩ => ?_
  obtain ⟨C2, hC2, hk⟩ := hk cn hc
  rw [hC] at hC2
  cases hC2
  exact ⟨.ref ad, e, .ref u, .ref u, f cn, rfl, fun _ z => z, hk, q (.bl (f cn)) H S .refl ⟨by unfold Rep; rfl, fun z => by cases z⟩⟩
theorem cz_asg {tm : GM} {is : List Nat} (h : PE X e (tZe X.K P0 O W i ad ma)) (hg : CG X P0 O W tg tm is) (ho : ∀ i ∈ is, i ∉ O := by decide) (hu : ∀ i ∈ is, i ∉ U := by decide) (hs : swapsWithSole [tg] e pos.line X.env = pure false := by rfl) (hw : swappedStores [tg] e X.env = pure none := by rfl) (h1 : (assignEach [tg] X.env).map (·.2) = [assign tg X.env] := by rfl) : PS X (.Assign [tg] e pos) (tZ X.K P0 O W U i ad (sAsg ma tm)) :=
  PS.imp (ps_asg h hg hs hw h1) fun D σ H ⟨e, ρ, S, h⟩ => by
    refine ⟨e, ρ, S, (h.of_bind.down S.sub).mono fun ⟨hd, ρ1⟩ q v H1 S1 k1 r1 => ?_⟩
    obtain ⟨d, e1, q⟩ := q.of_nox
    obtain ⟨ρ2, e2, q⟩ := q.of_nox
    exact ⟨ρ1, d, ρ2, S1, r1.v e1, e2, fun σ' S' l h' => q σ' H1 S' ((Tr.of S.sub k1).trans ⟨fun _ _ e _ => e, fun _ e => e, fun b z => .inl ((OA_of (fun i hi => h' i fun y => ho i y hi) b).mp z), fun j hj => h' j fun y => hu j y hj⟩) l⟩
theorem cz_ret (h : PE X e (tZe X.K P0 O W i ad ma)) : PS X (.Return (some e) pos) (tZ X.K P0 O W U i ad (sRet ma)) := PS.imp (ps_ret h) fun D σ H ⟨e, ρ, S, h⟩ =>
  ⟨e, ρ, S, (h.of_bind.down S.sub).mono fun ⟨hd, ρ1⟩ q v H1 S1 k1 r1 => q σ H1 S1 (Tr.of S.sub k1) rfl v r1⟩
/-- in a suite a slot is set -/
theorem cs_asgU {tm : GM} {is : List Nat} (h : CEx X P0 O W E e ma) (hg : CG X P0 O W tg tm is) (ho : ∀ i ∈ is, i ∉ O := by decide) (hu : ∀ i ∈ is, i ∉ U := by decide) (hs : swapsWithSole [tg] e pos.line X.env = pure false := by rfl) (hw : swappedStores [tg] e X.env = pure none := by rfl) (h1 : (assignEach [tg] X.env).map (·.2) = [assign tg X.env] := by rfl) : CS X P0 O W U E (.Assign [tg] e pos) (sAsg ma tm) :=
  PS.imp (ps_asg h hg hs hw h1) fun D σ H ⟨ρ, S, h⟩ => by
    refine ⟨ρ, S, (h.of_bind.down S.sub).mono fun ⟨hd, ρ1⟩ q v H1 S1 k1 r1 => ?_⟩
    obtain ⟨d, e1, q⟩ := q.of_nox
    obtain ⟨ρ2, e2, q⟩ := q.of_nox
    exact ⟨ρ1, d, ρ2, S1, r1.v e1, e2, fun σ' S' l h' => q σ' H1 S' ((Tr.of S.sub k1).trans ⟨fun _ _ e _ => e, fun _ e => e, fun b z => .inl ((OA_of (fun i hi => h' i fun y => ho i y hi) b).mp z), fun j hj => h' j fun y => hu j y hj⟩) l⟩
end
section
variable {K : PySem.W.Frag} {P0 : Pr} {O W U : List Nat} {ρ : Env} {σ : St} {H : Hp}
theorem Sim.unset (S : Sim K P0 O W ρ σ H) {i : Nat} (hi : i ∉ O) (x : Option V) : Sim K P0 O W (ρ.set i none) (σ.set i x) H := by
  have no : ∀ {j : Nat} {d : D}, (ρ.set i none)[j]? = some (some d) → i ≠ j ∧ ρ[j]? = some (some d) := fun {j d} e => by
    by_cases hj : i = j
    · subst hj
      have h1 : i < ρ.length := by have := (List.getElem?_eq_some_iff.mp e).1; simpa using this
      rw [List.getElem?_set_self h1] at e; cases e
    · rw [List.getElem?_set_ne hj] at e; exact ⟨hj, e⟩
  refine S.move (by simpa using S.len) (fun j hj => ?_) (fun j hj d' e => (no e).2) fun j d' e n => ?_
  · exact List.getElem?_set_ne (fun (e : i = j) => hi (by rw [e]; exact hj))
  · obtain ⟨h1, h2⟩ := no e
    rw [List.getElem?_set_ne h1]
    exact S.val j d' h2 n
theorem Tr.unset {i : Nat} {x : Option V} (hi : i ∉ O) (hu : i ∉ U) : Tr O U σ H (σ.set i x) H :=
  ⟨fun _ _ e _ => e, fun _ e => e, fun b ⟨j, hj, z⟩ => .inl ⟨j, hj, by rwa [List.getElem?_set_ne fun (y : i = j) => hi (y ▸ hj)] at z⟩, fun j hj => List.getElem?_set_ne fun (y : i = j) => hu (y ▸ hj)⟩
theorem Tr.fewer {U' : List Nat} {σ' : St} {H' : Hp} (t : Tr O U σ H σ' H') (h : ∀ i ∈ U', i ∈ U) : Tr O U' σ H σ' H' := ⟨t.keep, t.some, t.own, fun i hi => t.unch i (h i hi)⟩
end
section
variable {X : Cx} {P0 : Pr} {O W U : List Nat} {E : EK}
theorem PSs.exi {sts : List Stmt} {α : Type} {p : α → Prop} {t : α → TS} (h : ∀ a, p a → PSs X sts (t a)) : PSs X sts (fun D σ H => ∃ a, p a ∧ t a D σ H) := ⟨fun pins s σ H D I ⟨a, pa, q⟩ => (h a pa).run pins s σ H D I q⟩
/-- try: body; except x as n: suite -/
theorem cs_try {tm : TM} {h : Str → SM} {i : Nat} {cl : List Str} {x n : Str} {body suite : List Stmt} {b₀ : Stmt} {np pos pos' : Pos} (hN : X.N.Nodup) (hcat : CatF X.K X.mg cl x) (hi : X.N[i]? = some n)
    (hb : ∀ (Ws : WX) (pn : List (Addr × Obj)) (xe : Value → Shared → Prop), L2N.Takes (X.tr pn xe) Ws → PSs (X.tr pn xe) body (tTb X.K X.mg P0 O W U tm Ws))
    (hsu : ∀ (a : Addr) (oe : Obj) (C : Addr) (cn : Str) (pn : List (Addr × Obj)), X.mg cn = some (.ref C) → cn ∈ cl → L2N.Zn (.ref C) none oe → (∃ vs, oe.data = .fields vs) → PSs (X.suite a ((a, oe) :: pn)) (b₀ :: suite) (tZ X.K P0 O W (i :: U) i a (h cn)))
    (hio : i ∉ O := by decide) (hiu : i ∉ U := by decide) (hs : X.stack = X.env :: X.outer := by rfl) (hf : X.env.frame = some X.env.locals := by rfl) (hln : X.env.kindOf n = some .local := by rfl) (hg : Gl X x := by rfl) (hdb : (x == ("__debug__" : Str)) = false := by decide) (tk : L2N.Takes X fun _ _ _ _ => False := by exact fun _ _ z => by rcases z with ⟨_, _, _, _, _, _, _, _, _, _, _, _, _, _, _, _, y⟩; exact y.elim) :
    CS X P0 O W U E (.Try body [.ExceptHandler (some (.Name x np)) (some n) (b₀ :: suite) pos'] [] [] pos) (sTry i cl tm h) := by
  obtain ⟨u, hu, hk⟩ := hcat.ex
  refine PS.imp (L2N.ps_try_as (i := i) (c := .ref u) (Wout := fun _ _ _ _ => False) (ts := fun a cls d D σ H => ∃ q : Addr × Str, (cls = .ref q.1 ∧ d = none ∧ X.mg q.2 = some (.ref q.1) ∧ q.2 ∈ cl) ∧ tZ X.K P0 O W (i :: U) i a (h q.2) D σ H) hs hf hN hi hln ⟨hg, hdb, .inl hu⟩ tk (fun Ws pn xe t _ => hb Ws pn xe t) (fun a oe cls d pn hz hfl => PSs.exi fun q hq => ?_)) fun D σ H ⟨ρ, S, r⟩ => ?_
  · obtain ⟨rfl, rfl, h1, h2⟩ := hq
    exact hsu a oe q.1 q.2 pn h1 h2 hz hfl
  · obtain ⟨⟨y, ρ1⟩, em, r⟩ := Res.of_nox r
    refine ⟨ρ, S, ?_⟩
    rw [em]
    cases y with
    | inl f => exact r
    | inr c =>
      have r : Res E O σ H (if c ∈ cl ∧ i < ρ1.length then (do
        let (f, ρ2) ← (h c (ρ1.set i none)).nox
        pure (f, ρ2.set i none)) else .stk) _ := r
      by_cases hc : c ∈ cl ∧ i < ρ1.length
      · rw [if_pos hc] at r
        intro σ1 H1 S1 t1 l1
        obtain ⟨C, hC, hm⟩ := hk c hc.1
        refine ⟨C, hC, true, hm, fun _ a na => ⟨(C, c), ⟨rfl, rfl, hC, hc.1⟩, List.getElem?_set_self (Nat.lt_of_lt_of_le hc.2 S1.len), ρ1.set i none, S1.unset hio _, ?_⟩, fun z => Bool.noConfusion z⟩
        obtain ⟨⟨f, ρ2⟩, eh, r0⟩ := Res.of_nox r
        · rw [eh]
          intro σ2 H2 S2 t2 l2
          have t3 : Tr O U σ H σ2 H2 := t1.trans ((Tr.unset hio hiu).trans (t2.fewer fun j hj => List.mem_cons_of_mem _ hj))
          have l3 : σ2.length = σ.length := by rw [l2, List.length_set, l1]
          have q := r0 (σ2.set i none) H2 (S2.unset hio none) (t3.trans (Tr.unset hio hiu)) (by rw [List.length_set, l3])
          have tt : Tr O (i :: U) σ1 H1 σ1 H1 := .refl
          cases f with
          | nx => exact q
          | bk => exact q
          | ct => exact q
          | rt hd => 
            intro v r
            refine q v ?_
            have r := r.back (Hs' := H) t1.some
            have fa : ∀ b, FA P0 O (σ2.set i none) b → FA P0 O σ2 b := fun b z => z.imp id fun ⟨j, hj, e⟩ => ⟨j, hj, by rwa [List.getElem?_set_ne fun (y : i = j) => hio (y ▸ hj)] at e⟩
            cases hd with
            | fr d => exact ⟨r.1.less S2.dom fa, r.2⟩
            | vl d => exact Rep.less S2.dom r fa
            | ow j => exact ⟨r.1, by rw [List.getElem?_set_ne fun (y : i = j) => hio (y ▸ r.1)]; exact r.2⟩
      · rw [if_neg hc] at r; exact r.elim
end
end Y

set_option Elab.async false
set_option linter.all false
set_option maxRecDepth 100000
namespace Y
open PySem PySem.Spec PyProof.Rows L2
/-- x stands for all refusals, or is the class -/
def isErr (x c : Str) : Bool := x == c || x == "NetError"
theorem all_nil {α : Type} {p : α → Prop} : ∀ c ∈ ([] : List α), p c := fun _ h => nomatch h
theorem all_cons {α : Type} {p : α → Prop} {c : α} {cl : List α} (h : p c) (t : ∀ c ∈ cl, p c) : ∀ x ∈ c :: cl, p x := List.forall_mem_cons.mpr ⟨h, t⟩
theorem isi_of {o : Option Bool} {b x : Bool} (h : o = some b) (e : b = x := by decide +kernel) : o = some x := e ▸ h
theorem kit_own {K : PySem.W.Frag} {C X : Addr} {b : Bool} (hs : PySem.W.subIn K (.ref C) (.ref C) = some true) (hd : PySem.W.hasDictIn K X = true) (ht : PySem.W.typeIn K (.ref X) = some (.type "type")) (h : PySem.W.subIn K (.ref C) (.ref X) = some b) : PySem.W.kitOne K (.ref C) (.ref X) = some b := by
  unfold PySem.W.kitOne
  by_cases e : C = X
  · subst e
    rw [hs] at h
    cases h
    rw [if_pos (by simp)]
  · rw [if_neg (by simpa using e)]
    obtain ⟨cd, hc, _⟩ := PySem.W.any_some hd
    show (if ((PySem.W.clsIn K X).isSome && PySem.W.typeIn K (.ref X) == some (.type "type")) = true then PySem.W.subIn K (.ref C) (.ref X) else none) = some b
    rw [hc, ht, if_pos (by simp)]
    exact h
variable {ρ : Y.Env}
@[simp] theorem e_try {i : Nat} {es : List Str} {m : TM} {h : Str → SM} : sTry i es m h ρ = ((m ρ).nox >>= fun p => match p.1 with | .inl f => R.ok (f, p.2) | .inr c => if c ∈ es ∧ i < p.2.length then ((h c (p.2.set i none)).nox >>= fun q => R.ok (q.1, q.2.set i none)) else .stk) := by
  unfold sTry; congr
@[simp] theorem e_xcall {g : List D → R Hd} {m : AM} : cXcall g m ρ = (m ρ >>= fun p => (vsOf p.1).nox >>= fun ds => match g ds with | .ok (.ow _) => .stk | .ok h => R.ok (.inl h, p.2) | .er c [] => R.ok (.inr c, p.2) | _ => .stk) := id rfl
@[simp] theorem e_tbret {m : XM} : tbRet m ρ = (m ρ >>= fun p => match p.1 with | .inl h => R.ok (.inl (.rt h), p.2) | .inr c => R.ok (.inr c, p.2)) := id rfl
@[simp] theorem e_tbnil : tbNil ρ = .ok (.inl .nx, ρ) := id rfl
@[simp] theorem e_tbif {t : BM} {m n : TM} : tbIf t m n ρ = (t ρ >>= fun p => if p.1 = true then m p.2 else n p.2) := id rfl
@[simp] theorem e_tbseq {m n : TM} : tbSeq m n ρ = (m ρ >>= fun p => match p.1 with | .inl .nx => n p.2 | f => R.ok (f, p.2)) := by
  unfold tbSeq; congr
end Y

set_option Elab.async false
set_option linter.all false
set_option maxRecDepth 100000
namespace Y
open PySem PySem.Spec PyProof.Rows L2
def DicU : HO → Prop
  | .dK _ => True
  | .dT _ => True
  | _ => False
theorem Rd.only {H : Hp} {a b : Addr} {u o : HO} (hu : DicU u) (r : Rd H a u) (e : H b = Option.some o) (n1 : ¬ DicU o) (n2 : ∀ x w, o = .frz x w → ¬ DicU w) : b ≠ a := by
  rintro rfl
  rcases r with r | ⟨x, r⟩
  · rw [e] at r; cases r; exact n1 hu
  · rw [e] at r; cases r; exact n2 _ _ rfl hu
section
variable {K : PySem.W.Frag} {H H' : Hp} {a : Addr} {u : HO}
theorem Rd.move (hu : DicU u) (k : ∀ b, b ≠ a → H' b = H b) (r : Rd H a u) (r' : Rd H' a u) {b : Addr} {o : HO} (n2 : ∀ x w, o ≠ .frz x w) (h : Rd H b o) : Rd H' b o := by
  by_cases e : b = a
  · subst e
    have : o = u := by
      rcases r with r | ⟨x, r⟩ <;> rcases h with h | ⟨y, h⟩ <;> rw [r] at h <;> cases h <;> first | rfl | exact absurd rfl (n2 _ _) | exact hu.elim
    rw [this]; exact r'
  · rcases h with h | ⟨y, h⟩
    · exact .inl (by rw [k b e]; exact h)
    · exact .inr ⟨y, by rw [k b e]; exact h⟩
theorem TabS.rd (hu : DicU u) (k : ∀ b, b ≠ a → H' b = H b) (r : Rd H a u) {p b : Addr} {q : Str} (t : TabP H p q b) : TabP H' p q b := by
  obtain ⟨e, ps, h1, h2, h3⟩ := t
  refine ⟨e, ps, ?_, h2, fun pos cv hc => ?_⟩
  · rw [k b (Rd.only hu r h1 (fun z => z) fun x w z => by cases z)]
    exact h1
  · obtain ⟨c, e1, e2⟩ := h3 pos cv hc
    refine ⟨c, e1, ?_⟩
    rw [k c (Rd.only hu r e2 (fun z => z) fun x w z => by unfold LamX.CodeO at z; cases z)]
    exact e2
mutual
theorem Rep.rd (hu : DicU u) (k : ∀ b, b ≠ a → H' b = H b) (r : Rd H a u) (r' : Rd H' a u) : ∀ {d : D} {P : Pr} {v : V}, Rep K H d P v → Rep K H' d P v
  | .non, _, _, h => by unfold Rep at h ⊢; exact h
  | .bl _, _, _, h => by unfold Rep at h ⊢; exact h
  | .int _, _, _, h => by unfold Rep at h ⊢; exact h
  | .str _, _, _, h => by unfold Rep at h ⊢; exact h
  | .tup ds, P, v, h => by
    unfold Rep at h ⊢
    obtain ⟨b, vs, e, h1, h2⟩ := h
    exact ⟨b, vs, e, by rw [k b (Rd.only hu r h1 id fun _ _ z => by cases z)]; exact h1, Reps.rd hu k r r' h2⟩
  | .lst ds, P, v, h => by
    unfold Rep at h ⊢
    obtain ⟨b, vs, e, h0, h1, h2⟩ := h
    exact ⟨b, vs, e, h0, by rw [k b (Rd.only hu r h1 id fun _ _ z => by cases z)]; exact h1, Reps.rd hu k r r' h2⟩
  | .arg ns, P, v, h => by
    unfold Rep at h ⊢
    obtain ⟨b, e, h⟩ := h
    refine ⟨b, e, ?_⟩
    rcases h with ⟨h0, h1⟩ | h
    · exact .inl ⟨h0, Rd.move hu k r r' (fun _ _ z => by cases z) h1⟩
    · exact .inr h
  | .dik ks ds, P, v, h => by
    unfold Rep at h ⊢
    obtain ⟨b, vs, e, h0, hl, h1, h2⟩ := h
    exact ⟨b, vs, e, h0, hl, Rd.move hu k r r' (fun _ _ z => by cases z) h1, Reps.rd hu k r r' h2⟩
  | .dit ks ds, P, v, h => by
    unfold Rep at h ⊢
    obtain ⟨b, vs, e, h0, hl, h1, h2⟩ := h
    exact ⟨b, vs, e, h0, hl, Rd.move hu k r r' (fun _ _ z => by cases z) h1, Reps.rd hu k r r' h2⟩
  | .ftu ds, P, v, h => by
    unfold Rep at h ⊢
    obtain ⟨b, vs, o, e, h1, hd, h2⟩ := h
    have nb : b ≠ a := fun z => by
      subst z
      rcases r with r | ⟨x, r⟩ <;> rw [r] at h1 <;> cases h1 <;> exact hu.elim
    exact ⟨b, vs, o, e, by rw [k b nb]; exact h1, hd, Reps.rd hu k r r' h2⟩
  | .tab p q, P, v, h => by
    unfold Rep at h ⊢
    obtain ⟨b, e, h0, h1⟩ := h
    exact ⟨b, e, h0, TabS.rd hu k r h1⟩
theorem Reps.rd (hu : DicU u) (k : ∀ b, b ≠ a → H' b = H b) (r : Rd H a u) (r' : Rd H' a u) : ∀ {ds : List D} {P : Pr} {vs : List V}, Reps K H ds P vs → Reps K H' ds P vs
  | [], _, _, h => by rw [h.nil_iff]; exact Reps.nil
  | d :: ds, P, vs, h => by
    obtain ⟨v, ws, rfl, h1, h2⟩ := h.cons_iff
    exact Reps.cons (Rep.rd hu k r r' h1) (Reps.rd hu k r r' h2)
end
variable {P0 : Pr} {O W U : List Nat} {ρ : Y.Env} {σ : L2.St}
theorem Sim.rd (S : Sim K P0 O W ρ σ H) (hu : DicU u) (k : ∀ b, b ≠ a → H' b = H b) (r : Rd H a u) (r' : Rd H' a u) (n : ¬ FA P0 O σ a) : Sim K P0 O W ρ σ H' where
  sub := S.sub
  len := S.len
  dom := fun b z => by rw [k b fun e => n (e ▸ z)]; exact S.dom b z
  val := fun i d e h => let ⟨v, h1, h2⟩ := S.val i d e h; ⟨v, h1, h2.rd hu k r r'⟩
  own := fun i d e h => by
    obtain ⟨v, h1, h2⟩ := S.own i d e h
    have na : ∀ b, v = .ref b → b ≠ a := fun b e z => n (.inr ⟨i, h, by rw [h1, e, z]⟩)
    refine ⟨v, h1, ?_⟩
    cases d with
    | lst ds => obtain ⟨b, vs, e, g1, g2⟩ := h2; exact ⟨b, vs, e, by rw [k b (na b e)]; exact g1, g2.rd hu k r r'⟩
    | dik ks ds => obtain ⟨b, vs, e, hl, g1, g2⟩ := h2; exact ⟨b, vs, e, hl, by rw [k b (na b e)]; exact g1, g2.rd hu k r r'⟩
    | dit ks ds => obtain ⟨b, vs, e, hl, g1, g2⟩ := h2; exact ⟨b, vs, e, hl, by rw [k b (na b e)]; exact g1, g2.rd hu k r r'⟩
    | non => exact h2
    | bl _ => exact h2
    | int _ => exact h2
    | str _ => exact h2
    | tup _ => exact h2
    | arg _ => exact h2
    | ftu _ => exact h2
    | tab p q => obtain ⟨b, e, g1⟩ := h2; exact ⟨b, e, TabS.rd hu k r g1⟩
  sep := S.sep
  sep0 := S.sep0
end
section
variable {P : Program} {w : World} {K : PySem.W.Frag} {d : Addr} {o : Obj} {es : Array DictEntry} {ep : Nat}
end
def keyD : Key → D
  | .inl i => .int i
  | .inr x => .str x
theorem rep_key {K : PySem.W.Frag} {H : Hp} {P : Pr} (k : Key) : Rep K H (keyD k) P (kV k) := by
  cases k <;> (show Rep K H _ P _; unfold keyD Rep; rfl)
theorem reps_keys {K : PySem.W.Frag} {H : Hp} {P : Pr} : ∀ k : List Key, Reps K H (k.map keyD) P (k.map kV)
  | [] => Reps.nil
  | k :: ks => Reps.cons (rep_key k) (reps_keys ks)
section
variable {K : PySem.W.Frag} {O W : List Nat} {a : Addr} {o : Obj} {ds : List D} {vs : List V}
theorem zip_at {α β : Type} {ks : List α} {ds : List β} {i : Nat} {p : α × β} (h : (ks.zip ds)[i]? = some p) : ks[i]? = some p.1 ∧ ds[i]? = some p.2 := by
  obtain ⟨k, d⟩ := p
  exact List.getElem?_zip_eq_some.mp h
end

theorem PS.or {X : Cx} {st : Stmt} {t t' : TS} (h : PS X st t) (h' : PS X st t') : PS X st fun D σ H => t D σ H ∨ t' D σ H :=
  ⟨fun pins s σ H D I q => q.elim (h.run pins s σ H D I) (h'.run pins s σ H D I)⟩
abbrev Ends.lock (a : Addr) (od : Obj) (u : HO) (D : Ends) : Ends := ⟨fun σ' H' => H' a = some (.frz od u) ∧ D.nx σ' (upd H' a u), fun v H' => H' a = some (.frz od u) ∧ D.rt v (upd H' a u), fun σ' H' => H' a = some (.frz od u) ∧ D.bk σ' (upd H' a u), fun σ' H' => H' a = some (.frz od u) ∧ D.ct σ' (upd H' a u)⟩
section
variable {K : PySem.W.Frag} {P0 : Pr} {O W U : List Nat} {E : EK} {ρ : Y.Env} {σ : L2.St} {H : Hp} {m : SM} {D : Ends} {a : Addr} {u : HO}
end
section
variable {X : Cx} {P0 : Pr} {O W U : List Nat} {E : EK} {m : SM}
end
end Y

set_option Elab.async false
set_option linter.all false
set_option maxRecDepth 100000
namespace Y
open PySem PySem.Spec PyProof.Rows L2
section
variable {X : Cx} {pins : List (Addr × Obj)} {σ : L2.St} {H : Hp} {s : Shared}
end
variable {ρ : Y.Env}
@[simp] theorem e_dicAtK {i : Nat} : dicAt i ρ = (match ρ[i]? with | some (some (.dik ks ds)) => .ok (.dik ks ds) | some (some (.dit ks ds)) => .ok (.dit ks ds) | _ => .stk) := id rfl
@[simp] theorem e_dput {i : Nat} {mk mv : EM} : sDPutS i mk mv ρ = (mv ρ >>= fun p => p.1.v.nox >>= fun d => (dicAt i p.2).nox >>= fun _ => mk p.2 >>= fun q => q.1.v.nox >>= fun k => (dicAt i q.2).nox >>= fun x => (putDic x k d).nox >>= fun z => R.ok (.nx, q.2.set i (some z))) := id rfl
@[simp] theorem e_din {neg : Bool} {a b : EM} : cDIn neg b a ρ = (b ρ >>= fun p => a p.2 >>= fun q => (q.1.d q.2).nox >>= fun x => (p.1.d q.2).nox >>= fun y => (getDic x y).nox >>= fun o => R.ok (.fr (.bl (if neg = true then !o.isSome else o.isSome)), q.2)) := id rfl
@[simp] theorem d_putK {ks : List Key} {ds : List D} {i : Int} {d : D} : putDic (.dik ks ds) (.int i) d = if szOk (ks.length + 1) = true then .ok (.dik (putKs ks (.inl i)) (putDs ks ds (.inl i) d)) else .stk := id rfl
@[simp] theorem d_getK {ks : List Key} {ds : List D} {i : Int} : getDic (.dik ks ds) (.int i) = .ok (findD ks ds (.inl i)) := id rfl
end Y

set_option Elab.async false
set_option linter.all false
set_option maxRecDepth 100000
set_option maxHeartbeats 4000000
namespace Y
open PySem PySem.Spec PyProof.Rows L2
section
variable {X : Cx} {pins : List (Addr × Obj)} {σ : L2.St} {H : Hp} {s : Shared}
end
end Y

set_option Elab.async false
set_option linter.all false
set_option maxRecDepth 100000
set_option maxHeartbeats 4000000
namespace Y
open PySem PySem.Spec PyProof.Rows L2
section
variable {K : PySem.W.Frag} {X : Cx} {H : Hp} {P : Pr}
end
section
variable {X : Cx}
end
end Y

set_option Elab.async false
set_option linter.all false
set_option maxRecDepth 100000
namespace Y
open PySem PySem.Spec PyProof.Rows L2
def D1 (p : Addr) (Q : VK) (x y : V) (H2 : Hp) : Prop := H2 p = some (.dT []) ∧ ∃ (q : Addr) (k : List Key), x = .ref q ∧ H2 q = some (.tup (k.map kV)) ∧ Q (.ref p) (upd H2 p (.dT [(k, y)]))
end Y

set_option Elab.async false
set_option linter.all false
set_option maxRecDepth 100000
namespace Y
open PySem PySem.Spec PyProof.Rows L2
section
variable {K : PySem.W.Frag} {X : Cx} {P0 : Pr} {O W U : List Nat} {E : EK} {pos : Pos}
end
section
variable {X : Cx} {P0 : Pr} {O W : List Nat} {E : EK} {a b : Expr} {ma mb : EM} {pos : Pos}
theorem ct_dnin (hu : X.A.units + 1 < cLine) (hb : CEx X P0 O W E b mb) (ha : CEx X P0 O W E a ma) (hm : behindInMarks .NotIn a = false := by rfl) : CT X P0 O W E (.Compare b [.NotIn] [a] pos) (cBl (cDIn true mb ma)) := PT.imp (pt_cmp (pc_dnotin hu hb ha) hm) fun σ H Q h => by
  obtain ⟨ρ, S, h⟩ := tM_bl σ H Q h
  refine ⟨ρ, S, h.of_bind.mono fun ⟨h2, ρ1⟩ q y H1 S1 k1 r2 => ⟨ρ1, S1, (q.keep k1).of_bind.mono fun ⟨h1, ρ2⟩ q2 x H2 S2 k2 r1 => ?_⟩⟩
  obtain ⟨dx, e1, q3⟩ := q2.of_nox
  obtain ⟨dy, e2, q4⟩ := q3.of_nox
  obtain ⟨o, e3, q5⟩ := q4.of_nox
  have rx := r1.d S2 e1
  have ry := (r2.keep S1 k2).d S2 e2
  obtain ⟨c, r, rfl, g, i, _⟩ := getDic_rep rx ry e3
  refine ⟨c, r, rfl, g, ?_⟩
  rw [i]
  exact (out_of (K := X.K) S2 (k1.trans k2) q5).bl
end
end Y

set_option Elab.async false
set_option linter.all false
set_option maxRecDepth 100000
namespace Y
open PySem PySem.Spec PyProof.Rows L2
section
variable {K : PySem.W.Frag} {P0 : Pr} {O W U : List Nat} {ρ ρ1 ρ2 : Y.Env} {σ σ1 σ3 : L2.St} {H H1 H2 H3 : Hp} {i : Nat} {vs : List Nat}
/-- what the state is apart from the new objects A -/
theorem Sim.apart (S1 : Sim K P0 O W ρ1 σ H1) (S2 : Sim K P0 O W ρ2 σ H2) (kp : ∀ b o, H1 b = some o → ¬ OA W σ b → H2 b = some o) {A : Pr} (hA : ∀ b, A b → H1 b = none ∧ isMut (H2 b))
    (c : ∀ (j : Nat) d, ρ2[j]? = some (some d) → (ρ1[j]? = some (some d) ∧ j ∉ W) ∨ (j ∈ O ∧ d.shallow = true) ∨ d.nl = true) : Sim K (fun b => P0 b ∨ A b) O W ρ2 σ H2 := by
  have fa : ∀ b, FA (fun b => P0 b ∨ A b) O σ b → FA P0 O σ b ∨ H1 b = none := fun b z => by
    rcases z with (z | z) | z
    · exact .inl (.inl z)
    · exact .inr (hA b z).1
    · exact .inl (.inr z)
  have kf : ∀ b o, H1 b = some o → ¬ FA P0 O σ b → H2 b = some o := fun b o e n => kp b o e fun z => n (.inr (S1.oaw z))
  refine ⟨S2.sub, S2.len, fun b z => ?_, fun j d e n => ?_, fun j d e n => ?_, S2.sep, fun a z y => ?_⟩
  · rcases z with (z | z) | z
    · exact S2.dom b (.inl z)
    · exact (hA b z).2
    · exact S2.dom b (.inr z)
  · rcases c j d e with ⟨e0, _⟩ | ⟨z, _⟩ | nl
    · obtain ⟨w, h1, h2⟩ := S1.val j d e0 n
      exact ⟨w, h1, h2.mono d S1.dom kf fa⟩
    · exact absurd z n
    · obtain ⟨w, h1, h2⟩ := S2.val j d e n
      exact ⟨w, h1, h2.nl nl⟩
  · rcases c j d e with ⟨e0, hw⟩ | ⟨_, sh⟩ | nl
    · obtain ⟨w, h1, h2⟩ := S1.own j d e0 n
      refine ⟨w, h1, h2.mono S1.dom kf fa fun a o e1 e2 => ?_⟩
      subst e1
      refine kp a o e2 fun ⟨x, hx, ex⟩ => ?_
      have := S1.sep x j a (S1.sub x hx) n ex h1
      exact hw (this ▸ hx)
    · obtain ⟨w, h1, h2⟩ := S2.own j d e n
      exact ⟨w, h1, h2.shallow sh⟩
    · obtain ⟨w, h1, h2⟩ := S2.own j d e n
      refine ⟨w, h1, ?_⟩
      cases d <;> first | exact h2 | (simp [D.nl] at nl)
  · rcases y with y | y
    · exact S2.sep0 a z y
    · have q := S1.dom a (.inr z)
      rw [(hA a y).1] at q
      exact q
end
section
variable {X : Cx} {P0 : Pr} {O W U : List Nat} {E : EK} {XE : XK} {c e e2 : Expr} {es : List Expr} {ms : AM} {mr : EM} {pos pos2 p p2 p3 px : Pos} {k np i : Nat} {name x : Str} {t : BM} {n : SM} {tl : List Stmt} {tr : D → Bool} {R : PySem.W.Frag → Pr → V → Hp → Prop} {vs qs : List Nat}
end
end Y

set_option Elab.async false
set_option linter.all false
set_option maxRecDepth 100000
namespace Y
open PySem PySem.Spec PyProof.Rows L2
section
variable {X : Cx} {pins : List (Addr × Obj)} {σ : L2.St} {H : Hp} {s : Shared} {a b : Addr} {r : Value} {d : V} {k : List Key} {A : Around} {E : Value → Shared → Prop}
theorem d_setdT {kvs : List (List Key × V)} {Q : Value → Shared → Prop} (hu : A.units + 1 < cLine) (I : Inv X pins σ H s) (e : H a = some (.dT kvs)) (eb : H b = some (.tup (k.map kV))) (rd : RelV d r) (hl : kvs.length < sizeLine)
    (h1 : ∀ v, valV kvs k = some v → ∀ (w' : Value) (s' : Shared), Inv X pins σ H s' → RelV v w' → Q w' s') (h2 : valV kvs k = none → ∀ (w' : Value) (s' : Shared), Inv X pins σ (upd H a (.dT (putK kvs k d))) s' → RelV d w' → Q w' s') :
    wpAny (model X.prog X.w) A (call (.builtin "dict.setdefault") [.ref a, .ref b, r]) Q E s := by
  obtain ⟨z, hd, xs, rel, dd⟩ := dt_of I.hok e
  have hz : xs.length ≤ sizeLine := by rw [← Paired.length rel]; exact z
  refine call_setdefault_heap (hsz := hz) (tupleKind_room_in1 hu) (key_of I.hok eb) hd dd (fun p hp => ?_) fun hn h' dd' hs => ?_
  · have q := rel.val k
    rw [hp] at q
    cases q0 : valV kvs k with
    | none => rw [q0] at q; exact (show False from q).elim
    | some v0 => rw [q0] at q; exact h1 v0 q0 _ _ (I.tok _) q
  · have q := rel.val k
    rw [hn] at q
    cases q0 : valV kvs k with
    | some v0 => rw [q0] at q; exact (show False from q).elim
    | none =>
      have hl2 : (putK kvs k d).length ≤ sizeLine := by have := length_putK kvs k d; omega
      refine h2 q0 _ _ ?_ rd
      obtain ⟨q, es, ep, hq, h2, h3, h4, _, h5⟩ := dd'
      refine d_write I (by rw [e]; exact True.intro) hs ⟨q, hq⟩ ⟨hl2, hd, _, (rel.put k eb rd).keeps fun c ys ec => ?_, q, es, ep, hq, h2, h3, h4, h5⟩
      rw [upd_ne (ne_of ec e (fun z => nomatch z))]
      exact ec
end
def tDSetdT (td ty tx : TE) : TE := fun σ H Q => td σ H fun x H1 => ∃ a, x = .ref a ∧ IsD H1 a ∧ ty σ H1 fun y H2 => tx σ H2 fun z H3 => ∃ (kvs : List (List Key × V)) (k : List Key) (b : Addr), H3 a = some (.dT kvs) ∧ y = .ref b ∧ H3 b = some (.tup (k.map kV)) ∧ kvs.length < sizeLine ∧
  (∀ v, valV kvs k = some v → Q v H3) ∧ (valV kvs k = none → Q z (upd H3 a (.dT (putK kvs k z))))
section
variable {X : Cx} {o e f : Expr} {td ty tx : TE} {apos cpos : Pos}
theorem pe_dsetdT (hu : X.A.units + 1 < cLine) (ho : PE X o td) (he : PE X e ty) (hf : PE X f tx) (m : M2 X o "setdefault" apos e f cpos) : PE X (.Call (.Attribute o "setdefault" apos) [e, f] [] cpos) (tDSetdT td ty tx) := by
  refine ⟨fun pins s σ H Q I h => ?_⟩
  refine wpAny_Call_method m.base m.few m.line PySem.F.plainAttrs_dict PySem.F.slot_dict_setdefault PySem.F.type_dict_setdefault (thn (ho.run pins s σ H _ I h) fun u s1 ⟨x, H1, I1, rx, a, ex, d, q1⟩ => ?_)
  subst ex
  obtain rfl : u = Value.ref a := rx
  obtain ⟨t1, t2, _⟩ := isD_at I1 d
  refine ⟨t1, t2, ?_⟩
  rw [m.trees]
  refine Calls.callWith_builtin rfl (Calls.evalArgs_plain (Calls.spliced_cons (thn (he.run pins s1 σ H1 _ I1 q1) fun iv s2 ⟨y, H2, I2, ry, q2⟩ =>
    Calls.spliced_cons (thn (hf.run pins s2 σ H2 _ I2 q2) fun fv s3 ⟨z, H3, I3, rz, kvs, k, b, ea, ey, eb, hl, q3, q4⟩ => Calls.spliced_nil ?_))))
  subst ey
  obtain rfl : iv = Value.ref b := ry
  exact d_setdT hu I3 ea eb rz hl (fun v hv w' s4 I4 rw' => ⟨v, _, I4, rw', q3 v hv⟩) fun hn w' s4 I4 rw' => ⟨z, _, I4, rw', q4 hn⟩
end
abbrev Grp := List (List Key × List Int)
def gAdd (k : List Key) (s : Int) : Grp → Grp
  | [] => [(k, [s])]
  | (k', l) :: g => if k' = k then (k', l ++ [s]) :: g else (k', l) :: gAdd k s g
/-- the groups lie in objects of their own, new since H1 -/
def GOk (H1 Hx : Hp) : Grp → List Addr → Prop
  | [], bs => bs = []
  | (_, l) :: g, bs => ∃ b r, bs = b :: r ∧ H1 b = none ∧ Hx b = some (.lst (l.map V.int)) ∧ b ∉ r ∧ GOk H1 Hx g r
def kvG : Grp → List Addr → List (List Key × V)
  | (k, _) :: g, b :: bs => (k, .ref b) :: kvG g bs
  | _, _ => []
section
variable {H1 Hx Hy : Hp}
theorem GOk.keep : ∀ {g : Grp} {bs : List Addr}, GOk H1 Hx g bs → (∀ b ∈ bs, Hy b = Hx b) → GOk H1 Hy g bs
  | [], bs, h, _ => h
  | (_, l) :: g, bs, ⟨b, r, e, h1, h2, h3, h4⟩, k => ⟨b, r, e, h1, by rw [k b (by simp [e])]; exact h2, h3, h4.keep fun c hc => k c (by simp [e, hc])⟩
theorem GOk.mem : ∀ {g : Grp} {bs : List Addr}, GOk H1 Hx g bs → ∀ b ∈ bs, H1 b = none ∧ ∃ l, Hx b = some (.lst l)
  | [], bs, h, b, hb => by
    have h : bs = [] := h
    rw [h] at hb
    cases hb
  | (_, l) :: g, bs, ⟨b0, r, e, h1, h2, h3, h4⟩, b, hb => by
    rw [e] at hb
    rcases List.mem_cons.mp hb with rfl | hb
    · exact ⟨h1, _, h2⟩
    · exact h4.mem b hb
theorem GOk.get {k : List Key} {s : Int} : ∀ {g : Grp} {bs : List Addr} {v : V}, GOk H1 Hx g bs → valV (kvG g bs) k = some v → ∃ b l, v = .ref b ∧ b ∈ bs ∧ Hx b = some (.lst (l.map V.int)) ∧ (∃ k', (k', l) ∈ g) ∧ GOk H1 (upd Hx b (.lst (l.map V.int ++ [.int s]))) (gAdd k s g) bs ∧ kvG (gAdd k s g) bs = kvG g bs
  | [], bs, v, h, e => by cases e
  | (k', l) :: g, bs, v, ⟨b, r, eb, h1, h2, h3, h4⟩, e => by
    subst eb
    unfold gAdd
    by_cases c : k' = k
    · have e : valV ((k', V.ref b) :: kvG g r) k = some v := e
      rw [valV_pos c] at e
      cases e
      rw [if_pos c]
      refine ⟨b, l, rfl, by simp, h2, ⟨k', by simp⟩, ⟨b, r, rfl, h1, by rw [upd_same, List.map_append]; rfl, h3, h4.keep fun c hc => upd_ne fun z => h3 (by rw [← z]; exact hc)⟩, rfl⟩
    · have e : valV ((k', V.ref b) :: kvG g r) k = some v := e
      rw [valV_neg c] at e
      obtain ⟨b2, l2, e1, e2, e3, ⟨k2, ek⟩, e4, e5⟩ := h4.get (s := s) e
      rw [if_neg c]
      refine ⟨b2, l2, e1, by simp [e2], e3, ⟨k2, by simp [ek]⟩, ⟨b, r, rfl, h1, by rw [upd_ne fun z => h3 (by rw [z]; exact e2)]; exact h2, h3, e4⟩, ?_⟩
      show (k', V.ref b) :: kvG (gAdd k s g) r = (k', V.ref b) :: kvG g r
      rw [e5]
theorem GOk.len : ∀ {g : Grp} {bs : List Addr}, GOk H1 Hx g bs → (kvG g bs).length = g.length ∧ bs.length = g.length
  | [], bs, h => by
    have h : bs = [] := h
    subst h
    exact ⟨rfl, rfl⟩
  | (k, l) :: g, bs, ⟨b, r, e, _, _, _, h⟩ => by
    subst e
    have := h.len
    exact ⟨by show (kvG g r).length + 1 = _; rw [this.1]; rfl, by simp [this.2]⟩
end
section
variable {K : PySem.W.Frag} {P0 : Pr} {O W U : List Nat} {ρ : Y.Env} {σ σ3 : L2.St} {H1 H3 : Hp} {i : Nat} {sl : List Nat}
end
section
variable {X : Cx} {P0 : Pr} {O W U : List Nat} {E : EK} {tg iter : Expr} {pos pos3 p1 p2 p3 p4 p5 ap ap2 cp cp2 : Pos} {x ya yb ys : Str}
end
end Y

set_option Elab.async false
set_option linter.all false
set_option maxRecDepth 100000
namespace Y
open PySem PySem.Spec PyProof.Rows L2
section
variable {prog : Program} {w : World} {A : Around} {E : Value → Shared → Prop} {s : Shared}
theorem list_done_hot {it l x1 : Addr} {i : Nat} {items : Array Value} {Q : Option Value → Shared → Prop} (hot : HotX.HotAt A x1 s.heap) (ne : x1 ≠ it) (hi : s.heap.IsListIter it l i) (hl : s.heap.IsList l items) (hx : items[i]? = none)
    (q : ∀ h', (∀ b o, b ≠ it → s.heap.get? b = some o → h'.get? b = some o) → Q none { s with heap := h' }) : wpAny (model prog w) A (pyNext (.ref it)) Q E s := by
  obtain ⟨hh, oe, ve, ge, de, ce⟩ := hot
  obtain ⟨oi, gi, ci, di⟩ := id hi
  obtain ⟨ol, gl, _, n, dl⟩ := hl
  unfold pyNext
  refine wpAny_bind (wpAny_attempt (wpAny_callSpecial?_slot (name := Str.ofString "__next__") hi.typeIs slot_listiter_next (wpAny_call_entry slot_listiter_next hi.typeIs entry_listiter_next ?_ (args_listiter_next _))))
  show wpAny _ _ (field (.ref it) 0 >>= _) _ _ s
  refine wpAny_bind (wpAny_field gi di (x := .ref l) rfl ?_)
  show wpAny _ _ (if (Value.ref l == Value.none) = true then _ else _) _ _ s
  rw [if_neg (show ¬ ((Value.ref l == Value.none) = true) from Bool.false_ne_true)]
  show wpAny _ _ (field (.ref it) 1 >>= _) _ _ s
  refine wpAny_bind (wpAny_field gi di (x := .int i 0) rfl ?_)
  show wpAny _ _ (seqItems? (.ref l) >>= _) _ _ s
  refine wpAny_bind (wpAny_seqItems gl dl ?_)
  simp only [Int.toNat_natCast, hx]
  refine wpAny_bind (wpAny_rule (wpAny_bind (wpAny_setField gi di (by simp) ?_)))
  show wpAny _ _ (newExc (.type "StopIteration") [] >>= _) _ _ _
  refine wpAny_bind ?_
  simp only [newExc, newTuple]
  refine wpAny_bind (wpAny_newObj_type ?_ (by size_fits))
  refine wpAny_bind (m := firstArgMember _ _) (wpAny_of_eq (a := Value.none) (by first | rfl | (simp only [firstArgMember]; rfl)) ?_)
  refine wpAny_newObj_type ?_ (by size_fits)
  have gx := (Heap.get?_update_other s.heap (Obj.mapFields fun x => x.setIfInBounds 0 Value.none) (fun z : it = x1 => ne z.symm)).trans ge
  refine HotX.raiseNew_hot ⟨hh, oe, ve, Heap.get?_push_of_some _ (Heap.get?_push_of_some _ gx), de, ce⟩ (Nat.ne_of_lt (Heap.lt_size (Heap.get?_push_of_some _ gx))) (Heap.get?_push_size _ rfl) rfl (by first | (simp; done) | (simp; omega) | (simp only [Array.size_append]; simp; omega)) ?_
  refine wpAny_bind (wpAny_isInstance (T := "StopIteration") (b := true) ⟨_, Heap.get?_update_self _ (Heap.get?_push_size _ rfl) rfl, rfl⟩ isSubtype_stop ?_)
  refine wpAny_pure (q _ fun b o nb e => ?_)
  have e1 := (Heap.get?_update_other s.heap (Obj.mapFields fun x => x.setIfInBounds 0 Value.none) (fun z : it = b => nb z.symm)).trans e
  rw [Heap.get?_update_other _ _ (Nat.ne_of_gt (Heap.lt_size (Heap.get?_push_of_some _ e1)))]
  exact Heap.get?_push_of_some _ (Heap.get?_push_of_some _ e1)
theorem walks_hot {x1 I ax : Addr} (hh : A.handled = some (.ref x1)) (n1 : ax ≠ I) (n2 : x1 ≠ I) (items : Array Value) :
    Walks prog w A I [I, ax, x1] [I] items.size (fun i v => items[i]? = some v) (fun i h => h.IsListIter I ax i ∧ h.IsList ax items ∧ ∃ (o : Obj) (vs : Array Value), h.get? x1 = some o ∧ o.data = .fields vs ∧ vs[2]? = some .none) where
  sub := fun b hb => by
    have e : b = I := by simpa using hb
    rw [e]; exact List.mem_cons_self
  frame := fun _ _ _ ⟨a, b, o, vs, g, d, c⟩ hk => ⟨a.at fun o e => hk I (by simp) o e, b.at fun o e => hk ax (by simp) o e, o, vs, hk x1 (by simp) o g, d, c⟩
  item := fun i s Q E hi ⟨a, b, o, vs, g, d, c⟩ q => by
    refine wpAny_pyNext_list_item a b (x := items[i]) (by simp [hi]) fun h' a' sb => ?_
    exact q _ h' s.toks (by simp [hi]) ⟨a', b.extBut sb.extBut n1, o, vs, sb.extBut x1 o n2 g, d, c⟩ fun b o hb e => sb.extBut b o (fun h => hb (by simp [h])) e
  done := fun s Q E ⟨a, b, o, vs, g, d, c⟩ q => list_done_hot ⟨hh, o, vs, g, d, c⟩ n2 a b (by simp) fun h' k => q h' s.toks fun b o hb e => k b o (fun h => hb (by simp [h])) e
  self := fun _ _ _ _ st q => wpAny_pyIter_listiter st.1 q
theorem sum_hotR {x1 l : Addr} {vs : List Value} {ns : List Int} {Q : Value → Shared → Prop} (hot : HotX.HotAt A x1 s.heap) (hl : s.heap.IsList l vs.toArray) (hi : IntsAre vs ns)
    (q : ∀ h' tk t', (∀ b o, s.heap.get? b = some o → h'.get? b = some o) → Q (.int ns.sum t') { s with heap := h', toks := tk }) : wpAny (model prog w) A (call (.builtin "sum") [.ref l]) Q E s := by
  obtain ⟨hh, oe, ve, ge, de, ce⟩ := hot
  obtain ⟨xs, hx⟩ := hi.allInts.items
  have hn : numsOf vs.toArray.toList = ns := by rw [show vs.toArray.toList = vs from rfl, hi.numsOf]
  rw [hx] at hl hn
  rw [nums_intItems] at hn
  obtain ⟨ol, gl, cl, n, dl⟩ := id hl
  have n1 : l ≠ s.heap.objs.size := Nat.ne_of_lt (Heap.lt_size gl)
  have n2 : x1 ≠ s.heap.objs.size := Nat.ne_of_lt (Heap.lt_size ge)
  have hz : (intItems xs).size = xs.size := by simp [intItems]
  have W := (walks_hot (prog := prog) (w := w) (A := A.in1) (I := s.heap.objs.size) hh n1 n2 (intItems xs)).toS
  rw [hz] at W
  refine call_sum_walkAnyS (wpAny_pyIter_list hl ⟨s.heap.objs.size, _, _, _, _, _, _, numAt xs, rfl, W, ⟨⟨_, Heap.get?_push_size _ rfl, rfl, rfl⟩, hl.at fun o e => Heap.get?_push_of_some _ e, oe, ve, Heap.get?_push_of_some _ ge, de, ce⟩, fun b hb => ?_, fun i v hP => intItems_at hP, fun s' t' hm => ?_⟩)
  · rcases List.mem_cons.mp hb with rfl | hb
    · exact Heap.lt_size (Heap.get?_push_size _ rfl)
    · rcases List.mem_cons.mp hb with rfl | hb
      · exact Heap.lt_size (Heap.get?_push_of_some _ gl)
      · obtain rfl := List.mem_singleton.mp hb
        exact Heap.lt_size (Heap.get?_push_of_some _ ge)
  · obtain ⟨h', g', d', tk', os'⟩ := s'
    have e1 : g' = s.gens := hm.gens
    have e2 : d' = s.drawn := hm.drawn
    have e3 : os' = s.os := hm.os
    subst e1 e2 e3
    have z := q h' tk' t' fun b o e => hm.heap b o (fun hb => absurd (Heap.lt_size e) ((List.mem_singleton.mp hb) ▸ Nat.lt_irrefl _)) (Heap.get?_push_of_some _ e)
    rw [← hn] at z
    rw [preSum_eq, List.take_of_length_le (by simp)]
    exact z
end
section
variable {X : Cx}
theorem cd_sumH (hot : L2H.HotC X) : CallR X (.builtin "sum") (rDs X.K sumD) := by
  intro pins s σ H xs us Q I r ⟨P, ds, dz, hm, rs, e, out⟩
  obtain ⟨x1, h1⟩ := hot.at I
  unfold sumD at e
  split at e
  · split at e
    · rename_i ns c; cases e
      obtain ⟨v, rfl, r1⟩ := rs.get1
      obtain ⟨a, vs, rfl, g1, g2⟩ := r1.lst
      obtain rfl := ints_rep c g2
      obtain ⟨its, rv, hl, _⟩ := I.list (SqL.of g1)
      rw [Vals.ref1 r]
      exact sum_hotR h1 hl.isList rv.ints fun h' tk t' hk => ⟨.int _, H, I.kept hk, ⟨_, rfl⟩, out.int⟩
    · cases e
  · cases e
end
end Y

set_option Elab.async false
set_option linter.all false
set_option maxRecDepth 100000
namespace Y
open PySem PySem.Spec PyProof.Rows L2
def i01 (b : Bool) : V := .int (if b then 1 else 0)
theorem SqL.laid {K : PySem.W.Frag} {H : Hp} {a D : Addr} {xs : List V} {o : HO} (h : SqL K H a xs) (n : H D = none) : SqL K (upd H D o) a xs := by
  rcases h with h | h
  · refine .inl (h.imp (fun e => ?_) fun ⟨o, e⟩ => ⟨o, ?_⟩)
    · rw [upd_ne (ne_of_none e n)]; exact e
    · rw [upd_ne (ne_of_none e n)]; exact e
  · exact .inr h
def tIntsH (K : PySem.W.Frag) (i : Nat) : TE := fun σ H Q => ∃ (a : Addr) (bs : List Bool), σ[i]? = some (some (.ref a)) ∧ SqL K H a (bs.map V.bl) ∧ ∀ D, H D = none → Q (.ref D) (upd H D (.lst (bs.map i01)))
section
variable {X : Cx} {i j : Nat}
theorem pe_intsH {elt tgt : Expr} {x y : Str} {scope : Scope} {pos p : Pos} (hot : L2H.HotC X) (hN : X.N.Nodup) (ok : BlkOk X.N X.env.scope scope [(x, j)])
    (hi : X.N[i]? = some y) (hv : Vis X.env.scope y)
    (hg : ∀ (s : Shared) (H : Hp) (C : Addr) (cl : List (Str × Addr)) (fp : List Addr), PG (X.blk s H scope (compEnvC scope cl C X.env) fp) tgt (gName j))
    (he : ∀ (s : Shared) (H : Hp) (C : Addr) (cl : List (Str × Addr)) (fp : List Addr), PE (X.blk s H scope (compEnvC scope cl C X.env) fp) elt (tCB (fun xs H Q => (∃ i, xs = [.int i] ∧ Q (.int i) H) ∨ ∃ k, xs = [.bl k] ∧ Q (i01 k) H) (tCons (tVar j) tNil)))
    (hs : ∀ v, foldedSetIterable (.Name y p) X.env v = pure v := by intro _; rfl) (hd : (y == ("__debug__" : Str)) = false := by decide) (hcd : (y == ("__classdict__" : Str)) = false := by decide) :
    PE X (.ListComp elt [⟨tgt, .Name y p, [], 0⟩] scope pos) (tIntsH X.K i) := by
  refine ⟨fun pins s σ H Q I h => ?_⟩
  obtain ⟨a, bs, ea, hq, q⟩ := h
  rw [eval_ListComp]
  have hfree : ∀ n ∈ scope.names, n.2 = .free → ∃ c, X.env.cells.lookup n.1 = some c := fun n hn e => (ok.free n hn e).elim (fun k => I.ok.has _ (.inl k)) fun k => I.ok.has _ (.inr k)
  refine wpAny_comprehension_free (use := none) rfl hs (closure_ok hfree) ok.kind (fun n hn e => by rw [ok.uniq n hn, e]) (thn ((pe_var (i := i) hi hv hd hcd).run pins s σ H (fun v H1 => v = .ref a ∧ H1 = H) I ⟨_, ea, rfl, rfl⟩) fun xv s1 ⟨v, H1, I1, r1, ev, eH⟩ => ?_)
  subst ev eH
  cases r1
  obtain ⟨its, rv, pl, hz⟩ := I1.list hq
  refine wpAny_pyIter_list pl.isList ?_
  generalize e2 : ({ s1 with heap := s1.heap.push { cls := .type "list_iterator", data := .fields #[.ref a, .int 0 0] } } : Shared) = s2
  have I2 : Inv X pins σ H1 s2 := by rw [← e2]; exact I1.kept (t' := s1.toks) fun b o e => Heap.get?_push_of_some _ e
  have it2 : s2.heap.IsListIter s1.heap.objs.size a 0 := by rw [← e2]; exact ⟨_, Heap.get?_push_size _ rfl, rfl, rfl⟩
  have fit : FpOk X pins H1 s1.heap.objs.size := I1.fpOk (Nat.le_refl _) (I1.hok.fresh (Nat.le_refl _))
  have nit : ∀ q ∈ X.pn, q.1 ≠ s1.heap.objs.size := fun q hq => fit.2.2.2.2.2 q (List.mem_append_left _ hq)
  generalize hit : s1.heap.objs.size = it at fit it2 nit ⊢
  refine wpAny_newObj_type (newEnv_comp ?_) (by show 0 ≤ sizeLine; decide)
  generalize hD : s2.heap.objs.size = D
  have nD : H1 D = none := I2.hok.fresh (Nat.le_of_eq hD)
  have lit : it < s2.heap.objs.size := by obtain ⟨o, e, _⟩ := it2; exact Heap.lt_size e
  have itD : it ≠ D := by rw [← hD]; exact Nat.ne_of_lt lit
  generalize e3 : ({ s2 with heap := s2.heap.push { cls := .type "list", data := .seq ([] : List Value).toArray } } : Shared) = s3
  have I3 : Inv X pins σ (upd H1 D (.lst [])) s3 := by
    rw [← e3]
    refine I2.laid (t' := s2.toks) (fun b o e => Heap.get?_push_of_some _ e) (Nat.le_of_eq hD) ⟨Nat.zero_le _, [], 0, .nil, ?_⟩
    rw [← hD]
    exact Heap.get?_push_size _ rfl
  have it3 : s3.heap.IsListIter it a 0 := by rw [← e3]; exact it2.at fun o e => Heap.get?_push_of_some _ e
  have l3 : it < s3.heap.objs.size := by obtain ⟨o, e, _⟩ := it3; exact Heap.lt_size e
  have f3 : ∀ b ∈ [it], FpOk X pins (upd H1 D (.lst [])) b ∧ b < s3.heap.objs.size := fun b hb => by
    obtain rfl := List.mem_singleton.mp hb
    exact ⟨⟨by rw [upd_ne itD]; exact fit.1, fit.2⟩, l3⟩
  have I4 := block_start I3 ok hN f3
  have pg := hg s3 (upd H1 D (.lst [])) s3.heap.objs.size (cellsFrom (s3.heap.objs.size + 1) scope.names (cloFrom X.env.cells scope.names [])) [it]
  have pe := he s3 (upd H1 D (.lst [])) s3.heap.objs.size (cellsFrom (s3.heap.objs.size + 1) scope.names (cloFrom X.env.cells scope.names [])) [it]
  show codeAny _ _ (.compStart (.ListComp elt [⟨tgt, .Name y p, [], 0⟩] scope pos) 0 (.ref it) (.ref D) (compEnvC scope (cellsFrom (s3.heap.objs.size + 1) scope.names (cloFrom X.env.cells scope.names [])) s3.heap.objs.size X.env)) (compPost (model X.prog X.w) X.A X.xe none _ (.ref D) s3.heap.objs.size) { s3 with heap := pushCells (s3.heap.push { cls := .type "dict", data := .dict #[] }) scope.names }
  generalize ec : compEnvC scope (cellsFrom (s3.heap.objs.size + 1) scope.names (cloFrom X.env.cells scope.names [])) s3.heap.objs.size X.env = ce at I4 pg pe ⊢
  have cL : ce.locals = s3.heap.objs.size := by subst ec; rfl
  have ex : ∀ (s' : Shared) (H' : Hp), Inv (X.blk s3 (upd H1 D (.lst [])) scope ce [it]) [] (wipe σ [j]) H' s' → Inv X pins σ H' s' := fun s' H' J =>
    I3.call' (ch := [it]) J.os J.base J.hok J.bare fun b hb => ⟨(f3 b hb).1.2.2.2.1, (f3 b hb).1.2.1, (f3 b hb).1.2.2.2.2.1, (f3 b hb).1.2.2.2.2.2⟩
  generalize e4 : ({ s3 with heap := pushCells (s3.heap.push { cls := .type "dict", data := .dict #[] }) scope.names } : Shared) = s4 at I4 ⊢
  have it4 : s4.heap.IsListIter it a 0 := by rw [← e4]; exact it3.at fun o e => pushCells_keeps _ _ _ _ (Heap.get?_push_of_some _ e)
  have uD : ∀ (k : Nat), (upd H1 D (.lst ((bs.map i01).take k))) it = none := fun k => by rw [upd_ne itD]; exact fit.1
  have fpo : ∀ {σ' : St} {s' : Shared} {k : Nat}, Inv (X.blk s3 (upd H1 D (.lst [])) scope ce [it]) [] σ' (upd H1 D (.lst ((bs.map i01).take k))) s' → ∀ b ∈ [it], FpOk (X.blk s3 (upd H1 D (.lst [])) scope ce [it]) [] (upd H1 D (.lst ((bs.map i01).take k))) b := fun {σ' s' k} J b hb => by
    obtain rfl := List.mem_singleton.mp hb
    exact ⟨uD k, (J.ok.exf b List.mem_cons_self).1, J.ok.exfs b List.mem_cons_self, .inl List.mem_cons_self, fun x c e => (J.ok.exf b List.mem_cons_self).2 x c e, fun q hq => nomatch (show q ∈ ([] : List (Addr × Obj)) from hq)⟩
  have loop : codeAny (model X.prog X.w) X.A (.compLoop (.ListComp elt [⟨tgt, .Name y p, [], 0⟩] scope pos) 0 (.ref it) (.ref D) ce) (compPost (model X.prog X.w) X.A X.xe none (fun u s' => ∃ v H', Inv X pins σ H' s' ∧ RelV v u ∧ Q v H') (.ref D) s3.heap.objs.size) s4 := by
    refine compLoop_any (fun n s' => ∃ k, n = bs.length - k ∧ k ≤ bs.length ∧ Inv (X.blk s3 (upd H1 D (.lst [])) scope ce [it]) [] (wipe σ [j]) (upd H1 D (.lst ((bs.map i01).take k))) s' ∧ s'.heap.IsListIter it a k) ?_ bs.length ⟨0, rfl, Nat.zero_le _, by simpa using I4, it4⟩
    rintro n s5 ⟨k, rfl, hk, I5, it5⟩
    have J5 := ex _ _ I5
    obtain ⟨its5, rv5, pl5, _⟩ := J5.list (SqL.laid (o := .lst ((bs.map i01).take k)) hq nD)
    have len5 := rv5.length
    rw [List.length_map] at len5
    obtain ⟨f0, f1, f2, f4, f5, f6⟩ := fpo I5 it List.mem_cons_self
    by_cases hlt : k < bs.length
    · have hx : (bs.map V.bl)[k]? = some (.bl bs[k]) := by rw [List.getElem?_map, List.getElem?_eq_getElem hlt]; rfl
      obtain ⟨u, hu, ru⟩ := rv5.get hx
      refine wpAny_pyNext_list_item it5 pl5.isList (x := u) (by simpa using hu) fun h' it6 sb => ?_
      have I6 : Inv (X.blk s3 (upd H1 D (.lst [])) scope ce [it]) [] (wipe σ [j]) (upd H1 D (.lst ((bs.map i01).take k))) { s5 with heap := h' } := I5.turned (t' := s5.toks) (fun b o hb e => (sb.2 b hb).trans e) f0 f1 f4 f5 f6
      obtain ⟨o6, g6, c6, d6⟩ := id it6
      have I6p := I6.pinned (fp := [it]) (fpo I6) fun b hb => by
        obtain rfl := List.mem_singleton.mp hb
        exact ⟨o6, g6, fun v z => by rw [d6] at z; cases z⟩
      refine go_of (s := { s5 with heap := h' }) g6 c6 d6 (by decide) ?_
      refine thnF (pg.run _ _ _ _ (.bl bs[k]) u (fun σ2 H2 => σ2 = (wipe σ [j]).set j (some (.bl bs[k])) ∧ H2 = upd H1 D (.lst ((bs.map i01).take k))) I6p ru ⟨rfl, rfl⟩) fun _ s8 ⟨σ8, H8, I8, es, eH⟩ => ?_
      subst es eH
      refine wpAny_tests_nil ?_
      simp only [if_true]
      have jl : j < (wipe σ [j]).length := by
        have e := ok.ix (x, j) List.mem_cons_self
        rw [wipe_length, I.len]
        exact (List.getElem?_eq_some_iff.mp e).1
      refine thnF (pe.run _ s8 _ _ (fun v H2 => v = i01 bs[k] ∧ H2 = upd H1 D (.lst ((bs.map i01).take k))) I8 ⟨_, List.getElem?_set_self jl, .inr ⟨_, rfl, rfl, rfl⟩⟩) fun z s10 ⟨v, H10, I10, r10, ev, eH⟩ => ?_
      subst ev eH
      have e7 : (bs.map i01).take k ++ [i01 bs[k]] = (bs.map i01).take (k + 1) := by
        rw [List.take_add_one, List.getElem?_map, List.getElem?_eq_getElem hlt]; rfl
      refine app_ok (X := X.blk s3 (upd H1 D (.lst [])) scope ce [it]) I10 upd_same (by rw [List.length_take, List.length_map]; rw [List.length_map] at hz; omega) r10 fun s11 I11 => ?_
      rw [e7, show upd (upd H1 D (.lst ((bs.map i01).take k))) D (.lst ((bs.map i01).take (k + 1))) = upd H1 D (.lst ((bs.map i01).take (k + 1))) from by funext b; unfold upd; split <;> rfl] at I11
      have st11 := I11.pin (it, o6) (List.mem_append_right _ (List.mem_append_right _ (mem_pinsAt List.mem_cons_self g6)))
      refine ⟨bs.length - (k + 1), by omega, k + 1, rfl, hlt, (I11.unpinned (pins := [])).weak (by simp) fun m v e => ?_, ⟨o6, st11.1, c6, d6⟩⟩
      rw [List.getElem?_set_ne fun z : j = m => (wipe_some e).2 (by rw [z]; exact List.mem_cons_self)]
      exact e
    · have ek : k = bs.length := by omega
      obtain ⟨pp, ⟨hh, v1, d1, c1⟩, hp⟩ := hot
      refine list_done_hot (x1 := pp.1) ⟨hh, pp.2, v1, (J5.pin pp (List.mem_append_left _ hp)).1, d1, c1⟩ (nit pp hp) it5 pl5.isList (by simp; omega) fun h' kp => ?_
      have I6 : Inv (X.blk s3 (upd H1 D (.lst [])) scope ce [it]) [] (wipe σ [j]) (upd H1 D (.lst ((bs.map i01).take k))) { s5 with heap := h' } := I5.turned (t' := s5.toks) kp f0 f1 f4 f5 f6
      have J6 := ex _ _ I6
      obtain ⟨m, hn, _⟩ := I6.loc
      have hn : h'.Ns ce.locals m := hn
      rw [cL] at hn
      have nC : (upd H1 D (.lst ((bs.map i01).take k))) s3.heap.objs.size = none := by
        have z : (upd H1 D (.lst ((bs.map i01).take k))) ce.locals = none := I6.free
        rw [cL] at z
        exact z
      have fC := I3.fpOk (Nat.le_refl _) nC
      rw [ek, List.take_of_length_le (by simp)] at J6 fC
      exact ⟨m, hn, fun h2 sb => ⟨.ref D, _, J6.turned (t' := s5.toks) (fun b o hb e => (sb.2 b hb).trans e) fC.1 fC.2.1 fC.2.2.2.1 fC.2.2.2.2.1 fC.2.2.2.2.2, rfl, q D nD⟩⟩
  exact codeAny_compStart_list loop (wpAny_pyIter_listiter it4 loop)
end
end Y

set_option Elab.async false
set_option linter.all false
set_option maxRecDepth 100000
namespace Y
open PySem PySem.Spec PyProof.Rows L2
/-- what f(e) tells of a refusal of the class C: the text y -/
structure FnZ (P : Program) (w : World) (K : PySem.W.Frag) (mg : Str → Option Value) (base : Heap) (k : Nat) (f : Addr) (fd : FuncData) (x : Str) (C : Addr) (y : Str) : Prop where
  run : ∀ (A : Around) (outer : List PySem.Env) (s : Shared) (H : Hp) (args : Args) (u : Value) (Q : VK) (E : XK) (p : Addr × Obj), L2H.RoomH k A → L2H.Hot1 A p → L2H.PinOk outer H s p → L2N.Zn (.ref C) none p.2 → Env0 P w K mg base A outer s H → BindsTo s fd args [(x, u)] → u = .ref p.1 →
    (∀ H', Same H H' → Q (.str y) H') → codeAny (model P w) A (.call (.ref f) args) (CR (L2N.CX P w) outer P w H s Q E) s
structure GloZ (P : Program) (w : World) (K : PySem.W.Frag) (mg : Str → Option Value) (base : Heap) (name : Str) (k : Nat) (x : Str) (cl : List Str) (kw : Str → Str) : Prop where
  ex : ∃ f fd, mg name = some (.ref f) ∧ PySem.W.keepIn K (.ref f) = true ∧ Binds K fd [x] [] ∧ ∀ cn ∈ cl, ∀ C, mg cn = some (.ref C) → FnZ P w K mg base k f fd x C (kw cn)
/-- isinstance(e, ValueError) -/
structure IsV (K : PySem.W.Frag) (mg : Str → Option Value) (es : List Str) : Prop where
  no : mg "ValueError" = none
  ex : ∀ c ∈ es, ∃ C, mg c = some (.ref C) ∧ PySem.W.kitOne K (.ref C) (.type "ValueError") = some true
theorem kit_ve {K : PySem.W.Frag} {C : Addr} (h : PySem.W.subIn K (.ref C) (.type "ValueError") = some true) : PySem.W.kitOne K (.ref C) (.type "ValueError") = some true := by
  unfold PySem.W.kitOne
  rw [if_neg (by simp)]
  show (if PySem.W.kitMeta "ValueError" = true then PySem.W.subIn K (.ref C) (.type "ValueError") else none) = some true
  rw [if_pos (by decide +kernel)]
  exact h
theorem _root_.L2H.RoomH.units65 {k : Nat} {A : Around} (r : L2H.RoomH k A) : A.units + 65 < cLine := by have := r.un; omega
theorem hot_of {A : Around} {a C : Addr} {oe : Obj} (hh : A.handled = some (.ref a)) (hz : L2N.Zn (.ref C) none oe) (hf : ∃ vs, oe.data = .fields vs) : L2H.Hot1 A (a, oe) := by
  obtain ⟨vs, d⟩ := hf
  exact ⟨hh, vs, d, hz.2.2 vs d⟩
section
variable {X : Cx} {P0 : Pr} {O W U : List Nat} {i : Nat} {ad : Addr} {a b c e : Expr} {es : List Expr} {ma mb mc : EM} {ms : AM} {bm bn : BM} {pos : Pos}
abbrev CZ (X : Cx) (P0 : Pr) (O W : List Nat) (i : Nat) (ad : Addr) (e : Expr) (m : EM) : Prop := PE X e (tZe X.K P0 O W i ad m)
abbrev CZs (X : Cx) (P0 : Pr) (O W : List Nat) (i : Nat) (ad : Addr) (es : List Expr) (m : AM) : Prop := PA X es (tZa X.K P0 O W i ad m)
def tZt (K : PySem.W.Frag) (P0 : Pr) (O W : List Nat) (i : Nat) (a : Addr) (m : BM) : TT := fun σ H Q => σ[i]? = some (some (.ref a)) ∧ tMt K P0 O W E00 m σ H Q
theorem zs_nil : CZs X P0 O W i ad [] cNil := PA.imp ca_nil fun _ _ _ q => q.2
theorem zs_cons (h : CZ X P0 O W i ad e ma) (hs : CZs X P0 O W i ad es ms) (hst : starEach (e :: es) X.env = (false, eval e X.env) :: starEach es X.env := by rfl) : CZs X P0 O W i ad (e :: es) (cCons ma ms) := PA.imp (pa_cons h hs hst) fun σ H Q ⟨z, ρ, S, h⟩ =>
  ⟨z, ρ, S, h.of_bind.mono fun ⟨h1, ρ1⟩ q v H1 S1 k1 r1 => ⟨z, ρ1, S1, (q.keep k1).of_bind.mono fun ⟨hs, ρ2⟩ q2 vs H2 S2 k2 r2 => q2 _ H2 S2 (k1.trans k2) ⟨v, vs, rfl, r1.keep S1 k2, HdRs.back k1.some r2⟩⟩⟩
theorem zz_lst (h : CZs X P0 O W i ad es ms) : CZ X P0 O W i ad (.List es pos) (cLst ms) := PE.imp (pe_lst h) fun σ H Q ⟨z, ρ, S, h⟩ =>
  ⟨z, ρ, S, h.of_bind.mono fun ⟨hs, ρ1⟩ q vs H1 S1 k1 r1 => by
    obtain ⟨ds, e1, q⟩ := q.of_nox
    by_cases c : szOk ds.length = true
    · rw [if_pos c] at q
      have rr := HdRs.vs r1 e1
      exact ⟨by rw [rr.length]; exact of_decide_eq_true c, fun p hp => (out_of S1 k1 q).newL S1.dom rr hp⟩
    · rw [if_neg c] at q
      exact q.elim⟩
theorem zz_bin {op : Operator} {f : D → D → R D} (ho : OpR X (binaryOp op) (rD X.K f)) (ha : CEx X P0 O W E00 a ma) (hb : CZ X P0 O W i ad b mb) : CZ X P0 O W i ad (.BinOp a op b pos) (cOp f ma mb) := PE.imp (pe_op ho ha hb) fun σ H Q ⟨z, ρ, S, h⟩ =>
  ⟨ρ, S, h.of_bind.mono fun ⟨h1, ρ1⟩ q x H1 S1 k1 r1 => ⟨z, ρ1, S1, (q.keep k1).of_bind.mono fun ⟨h2, ρ2⟩ q2 y H2 S2 k2 r2 => by
    obtain ⟨dx, e1, q3⟩ := q2.of_nox
    obtain ⟨dy, e2, q4⟩ := q3.of_nox
    obtain ⟨dz, e3, q5⟩ := q4.of_nox
    exact ⟨FA P0 O σ, dx, dy, dz, S2.dom, (r1.keep S1 k2).d S2 e1, r2.d S2 e2, e3, out_of S2 (k1.trans k2) q5⟩⟩⟩
def cBo (b : Bool) : BM := fun ρ => .ok (b, ρ)
theorem zt_isi {k : Bool} (h : CZ X P0 O W i ad e (cC (.bl k))) (he : ∀ whole, isTrue e X.env whole = (do let v ← whole; standAt e.pos; holding [v] (truthy v)) := by intro _; rfl) : PT X e (tZt X.K P0 O W i ad (cBo k)) := PT.imp (pt_truth h he) fun σ H Q ⟨z, ρ, S, q⟩ =>
  ⟨z, ρ, S, fun v H1 S1 k1 r1 => by
    exact ⟨k, truD_ok (d := .bl k) rfl (r1.d S1 rfl), q H1 S1 k1⟩⟩
theorem zt_not (h : PT X e (tZt X.K P0 O W i ad bm)) : PT X (.UnaryOp .Not e pos) (tZt X.K P0 O W i ad (cNotT bm)) := PT.imp (pt_not h) fun σ H Q ⟨z, ρ, S, h⟩ => ⟨z, ρ, S, h.of_bind.mono fun ⟨b, ρ1⟩ q => q⟩
theorem zt_or (h : PT X a (tZt X.K P0 O W i ad bm)) (h2 : CT X P0 O W E00 b bn) : PT X (.BoolOp .Or [a, b] pos) (tZt X.K P0 O W i ad (cOrT bm bn)) := PT.imp (PW.pt (pw_or h (pw_or1 h2))) fun σ H Q ⟨z, ρ, S, h⟩ =>
  ⟨z, ρ, S, h.of_bind.mono fun ⟨k, ρ1⟩ q H1 S1 k1 => by
    cases k with
    | false => exact ⟨ρ1, S1, (q.keep k1).mono fun ⟨k2, ρ2⟩ q2 H2 S2 k3 => q2 H2 S2 (k1.trans k3)⟩
    | true => exact q H1 S1 k1⟩
theorem zs_if {sts : List Stmt} {m : SM} (hc : PT X c (tZt X.K P0 O W i ad bm)) (h1 : CSs X P0 O W U E00 sts m) : PS X (.If c sts [] pos) (tZ X.K P0 O W U i ad (sIf bm m sSkip)) := PS.imp (ps_if hc h1 (cs_nil (U := U) (E := E00))) fun D σ H ⟨z, ρ, S, h⟩ =>
  ⟨z, ρ, S, (h.of_bind.down S.sub).mono fun ⟨k, ρ1⟩ q H1 S1 k1 => by
    have q : Res E00 O σ H ((if k = true then m ρ1 else sSkip ρ1)) _ := q
    cases k with
    | true => exact (if_pos rfl).mpr ⟨ρ1, S1, (Res.keepT q (Tr.of (U := U) S.sub k1)).mono fun ⟨f2, ρ2⟩ q2 σ2 H2 S2 t2 l2 => (q2 σ2 H2 S2 ((Tr.of S.sub k1).trans t2) l2).back fun b e => k1.some b e⟩
    | false => exact (if_neg Bool.false_ne_true).mpr ⟨ρ1, S1, (Res.keepT q (Tr.of (U := U) S.sub k1)).mono fun ⟨f2, ρ2⟩ q2 σ2 H2 S2 t2 l2 => (q2 σ2 H2 S2 ((Tr.of S.sub k1).trans t2) l2).back fun b e => k1.some b e⟩⟩
/-- isinstance(e, ValueError) -/
theorem cz_isv {C : Addr} {oe : Obj} {cn nm : Str} {cl : List Str} {p q q2 : Pos} (Z : ErrZ X.K X.mg cn) (F : IsV X.K X.mg cl) (hc : cn ∈ cl) (hC : X.mg cn = some (.ref C)) (hz : Zc (.ref C) none oe) (hf : ∃ vs, oe.data = .fields vs) (hp : (ad, oe) ∈ X.pn) (hm : X.mg "isinstance" = none)
    (hN : X.N[i]? = some nm := by rfl) (hv : Vis X.env.scope nm := by first | exact Or.inl rfl | exact Or.inr (Or.inl rfl)) (hd : (nm == ("__debug__" : Str)) = false := by decide) (hcd : (nm == ("__classdict__" : Str)) = false := by decide)
    (hg : Gl X "isinstance" := by rfl) (hg2 : Gl X "ValueError" := by rfl)
    (he : starEach [.Name nm q, .Name "ValueError" q2] X.env = (false, eval (.Name nm q) X.env) :: starEach [.Name "ValueError" q2] X.env := by rfl) (hpl : (backTo pos (starEach [.Name "ValueError" q2] X.env)).any (·.1) = false := by rfl) (he2 : starEach [.Name "ValueError" q2] X.env = (false, eval (.Name "ValueError" q2) X.env) :: starEach [] X.env := by rfl) :
    CZ X P0 O W i ad (.Call (.Name "isinstance" p) [.Name nm q, .Name "ValueError" q2] [] pos) (cC (.bl true)) := by
  obtain ⟨D, hD, zD⟩ := Z.ex
  rw [hC] at hD
  cases hD
  obtain ⟨D, hD, kv⟩ := F.ex cn hc
  rw [hC] at hD
  cases hD
  refine PE.imp (pe_callB (call_isP zD hz hf hp) hg hm bo_isinstance (pa_cons (pe_var (i := i) hN hv hd hcd) (pa_cons (pe_bltn hg2 F.no (by decide +kernel) (v := .ty "ValueError") rfl) pa_nil he2) he) (by decide) (by decide) he hpl) fun σ H Q ⟨e, ρ, S, q⟩ => ?_
  exact ⟨.ref ad, e, .ty "ValueError", .type "ValueError", true, rfl, fun u r => r, kv, q (.bl true) H S .refl ⟨by unfold Rep; rfl, fun z => by cases z⟩⟩
/-- f(e) -/
theorem cz_tell {oe : Obj} {cn nm name x : Str} {k : Nat} {cl : List Str} {kw : Str → Str} {C : Addr} {p q : Pos} (G : GloZ X.prog X.w X.K X.mg X.base name k x cl kw) (hr : L2H.RoomH k X.A) (hc : cn ∈ cl) (hC : X.mg cn = some (.ref C)) (hz : L2N.Zn (.ref C) none oe) (hf : ∃ vs, oe.data = .fields vs) (hh : X.A.handled = some (.ref ad)) (hp : (ad, oe) ∈ X.pn)
    (hN : X.N[i]? = some nm := by rfl) (hv : Vis X.env.scope nm := by first | exact Or.inl rfl | exact Or.inr (Or.inl rfl)) (hd : (nm == ("__debug__" : Str)) = false := by decide) (hcd : (nm == ("__classdict__" : Str)) = false := by decide) (hg : Gl X name := by rfl) (hdb : (name == ("__debug__" : Str)) = false := by decide)
    (he : starEach [.Name nm q] X.env = (false, eval (.Name nm q) X.env) :: starEach [] X.env := by rfl) (hpl : (backTo pos (starEach [] X.env)).any (·.1) = false := by rfl) : CZ X P0 O W i ad (.Call (.Name name p) [.Name nm q] [] pos) (cC (.str (kw cn))) := by
  obtain ⟨f, fd, hm, hk, hb, F⟩ := G.ex
  refine ⟨fun pins s σ H Q I ⟨e1, ρ, S, q⟩ => ?_⟩
  refine wpAny_Call_Name_kw (ld_glob I hg hm ?_ hdb)
  refine PySem.W.callWith_K (h₀ := X.base) I.ok.mod.kin hk (thn ((pa_cons (pe_var (i := i) hN hv hd hcd) pa_nil he).run pos pins s σ H (fun vs H1 => vs = [.ref ad] ∧ H1 = H) I ⟨.ref ad, e1, rfl, rfl⟩) fun us s1 ⟨vs, H1, I1, r, ev, eH⟩ => ⟨I1.kIn, ?_⟩) he hpl
  subst ev eH
  have eu := Vals.ref1 r
  subst eu
  have b := hb s1 [.ref ad] I1.kIn rfl
  rw [List.append_nil] at b
  obtain ⟨p1, p2, p3, p4, p5⟩ := I1.pin (ad, oe) (List.mem_append_left _ hp)
  refine wpAny_call (codeAny_mono ((F cn hc C hC).run X.A X.stack s1 H1 ⟨[.ref ad], []⟩ (.ref ad) Q E0 (ad, oe) hr (hot_of hh hz hf) ⟨p1, p2, fun hm => (List.mem_cons.mp (I1.stkSub ad hm)).elim p3 p4, p5⟩ hz I1.env0 b rfl fun H' sm => ?_) fun r s' hq => ?_)
  · exact q (.str (kw cn)) H' (S.same sm) (Keep.same sm) ⟨by unfold Rep; rfl, fun z => by cases z⟩
  · cases r with
    | error e => exact passN pins σ H1 s1 e s' I1 hq
    | ok fl =>
      cases fl with
      | ret u => exact I1.after hq
      | next => exact False.elim hq
      | brk => exact False.elim hq
      | cont => exact False.elim hq
end
end Y

set_option Elab.async false
set_option linter.all false
set_option maxRecDepth 100000
namespace Y
open PySem PySem.Spec PyProof.Rows L2
theorem _root_.L2H.RoomH.units {k : Nat} {A : Around} (r : L2H.RoomH k A) : A.units + 64 < cLine := by have := r.un; omega
/-- [int(x) for x in xs], xs a name -/
def cIntsH (i : Nat) : EM := fun ρ => do
  let d ← (look i ρ).nox
  match d with
  | .lst ds => (match blsOf ds with
    | some bs => pure (.fr (.lst (bs.map fun b => .int (if b then 1 else 0))), ρ)
    | none => .stk)
  | _ => .stk
theorem reps_i01 {K : PySem.W.Frag} {H : Hp} {P : Pr} : ∀ {bs : List Bool}, Reps K H (bs.map fun b => .int (if b then 1 else 0)) P (bs.map i01)
  | [] => Reps.nil
  | b :: bs => Reps.cons (by unfold Rep; rfl) reps_i01
section
variable {X : Cx} {P0 : Pr} {O W U : List Nat} {i j : Nat}
theorem ce_intsH {elt tgt : Expr} {x y : Str} {scope : Scope} {pos p : Pos} (hot : L2H.HotC X) (hN : X.N.Nodup) (ok : BlkOk X.N X.env.scope scope [(x, j)])
    (hg : ∀ (s : Shared) (H : Hp) (C : Addr) (cl : List (Str × Addr)) (fp : List Addr), PG (X.blk s H scope (compEnvC scope cl C X.env) fp) tgt (gName j))
    (he : ∀ (s : Shared) (H : Hp) (C : Addr) (cl : List (Str × Addr)) (fp : List Addr), PE (X.blk s H scope (compEnvC scope cl C X.env) fp) elt (tCB (fun xs H Q => (∃ i, xs = [.int i] ∧ Q (.int i) H) ∨ ∃ k, xs = [.bl k] ∧ Q (i01 k) H) (tCons (tVar j) tNil)))
    (ho : i ∉ O := by decide) (hi : X.N[i]? = some y := by rfl) (hv : Vis X.env.scope y := by first | exact Or.inl rfl | exact Or.inr (Or.inl rfl)) (hs : ∀ v, foldedSetIterable (.Name y p) X.env v = pure v := by intro _; rfl) (hd : (y == ("__debug__" : Str)) = false := by decide) (hcd : (y == ("__classdict__" : Str)) = false := by decide) :
    CEx X P0 O W E00 (.ListComp elt [⟨tgt, .Name y p, [], 0⟩] scope pos) (cIntsH i) := PE.imp (pe_intsH (i := i) hot hN ok hi hv hg he hs hd hcd) fun σ H Q ⟨ρ, S, h⟩ => by
  obtain ⟨d, e, h⟩ := h.of_nox
  obtain ⟨v, h1, h2⟩ := S.val i d (look_some e) ho
  cases d with
  | lst ds =>
    have h : Res E00 W σ H (match blsOf ds with | some bs => (R.ok (Hd.fr (.lst (bs.map fun b => .int (if b then 1 else 0))), ρ) : R (Hd × Env)) | none => .stk) _ := h
    cases c : blsOf ds with
    | none => rw [c] at h; exact h.elim
    | some bs =>
      rw [c] at h
      unfold Rep at h2
      obtain ⟨a, vs, rfl, n, g1, g2⟩ := h2
      obtain rfl := bls_rep c g2
      exact ⟨a, bs, h1, SqL.of g1, fun D hD => (out_of S .refl h).newL S.dom reps_i01 hD⟩
  | _ => exact h.elim
end
/-- the def, made ready -/
theorem gloZ_mk {P : Program} {w : World} {K : PySem.W.Frag} {mg : Str → Option Value} {base : Heap} {k n : Nat} {name x : Str} {st : Stmt} {N : List Str} {cl : List Str} {kw : Str → Str} {m : Str → SM} (F : Def K mg name st) (S : FnScope N [x] (defScope st))
    (hb : ∀ (cn : Str) (C : Addr) (f : Addr) (cdv : Value) (A : Around) (outer : List PySem.Env) (s : Shared) (H : Hp) (E : XK) (p : Addr × Obj), cn ∈ cl → mg cn = some (.ref C) → Zc (.ref C) none p.2 → (∃ vs, p.2.data = .fields vs) →
      L2H.HotC (L2H.cxH (L2N.CX P w) P w K mg base N name (defScope st) f cdv A outer s H E p) → L2H.RoomH k (A.deeper (envOfC name (defScope st) s.heap.objs.size f cdv)) → PSs (L2H.cxH (L2N.CX P w) P w K mg base N name (defScope st) f cdv A outer s H E p) (defBody st) (tZ K (fun _ => False) [] [] [0] 0 p.1 (m cn)))
    (hm : ∀ cn ∈ cl, ∃ ρ, m cn (List.replicate n none) = .ok (.rt (.vl (.str (kw cn))), ρ))
    (bi : ∀ (kV doc pm : Value) (an : Option Addr) (cdv ct : Value) (us : List Value), us.length = 1 → bindArgs (PySem.W.fnOf name name (defArgs st) (defBody st) (defScope st) .none kV doc pm an cdv ct) ⟨us, []⟩ = Pure.pure ([x].zip us)) (hn : N.length = n := by rfl) (h0 : 0 < n := by decide) : GloZ P w K mg base name (k + 1) x cl kw := by
  obtain ⟨f, fd, hmg, F⟩ := F.ex
  refine ⟨f, fd, hmg, F.kp, F.binds bi, fun cn hc C hC => ⟨fun A outer s H args u Q E p hr hot hpin hz e0 bt eu q => ?_⟩⟩
  rcases F.ex with ⟨_, _, _, _, _, _, cd, _, _, rfl, look, code⟩
  have KX : K.In s.heap := e0.mod.kin.keeps fun b o e => (e0.bs b o e).1
  have lim : s.heap.NoLimit := e0.mod.nolimit.keeps fun b o e => (e0.bs b o e).1
  have kd : ∀ y ∈ [x].zip [u], (defScope st).names.lookup y.1 = some .local ∨ ((defScope st).names.lookup y.1 = some .cell ∧ ((cellsFrom (s.heap.objs.size + 1) (defScope st).names []).lookup y.1).isSome = true) := fun ⟨n, v⟩ hy =>
    (S.par n (List.of_mem_zip hy).1).imp id fun q => ⟨q, PySem.W.cellsFrom_some _ _ _ (.inl q)⟩
  refine codeAny_call_function hr.depth (KX _ _ look) rfl S.co S.gen rfl (PySem.W.codeRec_of KX code) (bt _ _ _ _ (wpAny_newFunctionEnv_cells S.kind kd fun env he s1 xx => ?_))
  subst he
  refine ⟨lim.keeps xx.toInCall.keep, codeAny_func ?_⟩
  obtain ⟨vs, dv, _⟩ := hot.2
  have B := hb cn C f cd A outer s H E p hc hC hz.zc ⟨vs, dv⟩ ⟨p, hot, List.mem_cons_self⟩ (hr.deeper _)
  have ru : Vals [V.ref p.1] [u] := .cons eu .nil
  have I : Inv (L2H.cxH (L2N.CX P w) P w K mg base N name (defScope st) f cd A outer s H E p) [] (L2.start N [.ref p.1]) H s1 := L2H.inv_startH S hpin e0 rfl ru xx
  have lN : (L2.start N [V.ref p.1]).length = n := by
    have := S.pre
    unfold L2.start
    rw [List.length_append, List.length_map, List.length_replicate]
    simp only [List.length_singleton]
    omega
  have S0 : Sim K (fun _ => False) [] [] (List.replicate n none) (L2.start N [V.ref p.1]) H := by
    refine ⟨fun _ z => (nomatch z), by rw [lN, List.length_replicate]; exact Nat.le_refl _, fun b z => ?_, fun i d e => ?_, fun i d e => ?_, fun i j a hi => (nomatch hi), fun a z => ?_⟩
    · rcases z with z | ⟨i, hi, _⟩
      · exact z.elim
      · exact nomatch hi
    · rw [List.getElem?_replicate] at e
      split at e <;> cases e
    · rw [List.getElem?_replicate] at e
      split at e <;> cases e
    · obtain ⟨i, hi, _⟩ := z
      exact nomatch hi
  have s0 : (L2.start N [V.ref p.1])[0]? = some (some (.ref p.1)) := by
    unfold L2.start
    rfl
  obtain ⟨ρ, em⟩ := hm cn hc
  refine wpAny_mono (B.run [] s1 (L2.start N [.ref p.1]) H { nx := fun _ H' => Q .non H', rt := Q } I ⟨s0, _, S0, ?_⟩) (fun fl s' hs => ?_) fun e s' hs => hs
  · rw [em]
    intro σ' H' S' t' l' v r
    have rv : Rep K H' (.str (kw cn)) (FA (fun _ => False) [] σ') v := r
    unfold Rep at rv
    subst rv
    exact q H' fun b o e => t'.keep b o e fun ⟨i, hi, _⟩ => nomatch hi
  · cases fl with
    | ret u =>
      obtain ⟨v, σ', H', J, rv, qv⟩ := hs
      exact ⟨v, H', J.os, J.bare, J.base, J.hok, rv, qv⟩
    | next =>
      obtain ⟨σ', H', J, qv⟩ := hs
      exact ⟨V.non, H', J.os, J.bare, J.base, J.hok, rfl, qv⟩
    | brk => exact (show False from hs.choose_spec.choose_spec.2).elim
    | cont => exact (show False from hs.choose_spec.choose_spec.2).elim
theorem roomH_suite {j k : Nat} {A : Around} {h : Option Value} (r : Room k A) (l : j ≤ k := by decide) : L2H.RoomH j (A.mark h) := ⟨(r.mono l).dp, (r.mono l).un⟩
theorem mem_sub {a b : List Str} {c : Str} (m : c ∈ a) (h : (a.all fun x => decide (x ∈ b)) = true := by decide +kernel) : c ∈ b := of_decide_eq_true (List.all_eq_true.mp h c m)
def kindNs : List (Str × Str) := [("NoRule", "rule"), ("TooMany", "many"), ("NoOrder", "order"), ("NoStand", "stand"), ("NoSeen", "seen"), ("NoSwitch", "switch"), ("NoText", "text"), ("NoRow", "row"), ("NoFrame", "frame"), ("NoDen", "den"), ("NoHolds", "holds"), ("Hears", "hears")]
def kindW (c : Str) : Str := (kindNs.lookup c).getD "none of the classes"
def isB (x cn : Str) : EM := cC (.bl (isErr x cn))
def kindM (cn : Str) : SM :=
  sSeq (sAsg (cLst (cCons (isB "NoRule" cn) (cCons (isB "TooMany" cn) (cCons (isB "NoOrder" cn) (cCons (isB "NoStand" cn) cNil))))) (tmName 1))
  (sSeq (sAsg (cOp addD (cVar 1) (cLst (cCons (isB "NoSeen" cn) (cCons (isB "NoSwitch" cn) (cCons (isB "NoText" cn) (cCons (isB "NoRow" cn) cNil)))))) (tmName 1))
  (sSeq (sAsg (cOp addD (cVar 1) (cLst (cCons (isB "NoFrame" cn) (cCons (isB "NoDen" cn) (cCons (isB "NoHolds" cn) (cCons (isB "Hears" cn) cNil)))))) (tmName 1))
  (sSeq (sIf (cOrT (cNotT (cBo true)) (cBl (cOp neD (cCall sumD (cCons (cIntsH 1) cNil)) (cC (.int 1))))) (sRet (cC (.str "none of the classes"))) sSkip)
  (sSeq (sAsg (cLst (cCons (cC (.str "rule")) (cCons (cC (.str "many")) (cCons (cC (.str "order")) (cCons (cC (.str "stand")) (cCons (cC (.str "seen")) (cCons (cC (.str "switch")) (cCons (cC (.str "text")) (cCons (cC (.str "row")) (cCons (cC (.str "frame")) (cCons (cC (.str "den")) (cCons (cC (.str "holds")) (cCons (cC (.str "hears")) cNil))))))))))))) (tmName 2))
  (sRet (cIx (cVar 2) (cIndex (cVar 1) (cC (.bl true)))))))))
def kindE (cn : Str) : Env := [none, some (.lst (kindNs.map fun p => .bl (isErr p.1 cn))), some (.lst (kindNs.map fun p => .str p.2)), none]
theorem kind_all : ∀ cn ∈ kindNs.map (·.1), ∃ ρ, kindM cn (List.replicate 4 none) = .ok (.rt (.vl (.str (kindW cn))), ρ) := by
  intro cn hc
  simp only [kindNs, List.map_cons, List.map_nil, List.mem_cons, List.not_mem_nil, or_false] at hc
  rcases hc with rfl | rfl | rfl | rfl | rfl | rfl | rfl | rfl | rfl | rfl | rfl | rfl
  · exact ⟨kindE "NoRule", by kernel_rfl⟩
  · exact ⟨kindE "TooMany", by kernel_rfl⟩
  · exact ⟨kindE "NoOrder", by kernel_rfl⟩
  · exact ⟨kindE "NoStand", by kernel_rfl⟩
  · exact ⟨kindE "NoSeen", by kernel_rfl⟩
  · exact ⟨kindE "NoSwitch", by kernel_rfl⟩
  · exact ⟨kindE "NoText", by kernel_rfl⟩
  · exact ⟨kindE "NoRow", by kernel_rfl⟩
  · exact ⟨kindE "NoFrame", by kernel_rfl⟩
  · exact ⟨kindE "NoDen", by kernel_rfl⟩
  · exact ⟨kindE "NoHolds", by kernel_rfl⟩
  · exact ⟨kindE "Hears", by kernel_rfl⟩
end Y

set_option Elab.async false
set_option linter.all false
set_option maxRecDepth 100000
namespace Y
open PySem PySem.Spec PyProof.Rows L2
section
variable {K : PySem.W.Frag} {O W : List Nat} {a : Addr} {o : Obj}
theorem src_keysT {ks : List (List Key)} {vs : List V} (hl : ks.length = vs.length) : Src K O W (ks.map fun k => .tup (k.map keyD)) [] (Itkt a o (ks.zip vs)) (fun P0 _ σ H => H a = some (.frz o (.dT (ks.zip vs))) ∧ ¬ FA P0 O σ a) where
  go := fun P0 i ρ σ H S ⟨h1, _⟩ hi => ⟨h1, by rw [List.length_zip]; simp at hi; omega⟩
  stop := fun P0 ρ σ H S ⟨h1, _⟩ => ⟨h1, by simp; omega⟩
  yld := fun P0 i ρ σ H x H' d S ⟨h1, h2⟩ hd' y => by
    obtain ⟨rfl, k, v, q, e1, rfl, hq⟩ := y
    obtain ⟨k1, _⟩ := zip_at e1
    rw [List.getElem?_map, k1] at hd'
    cases hd'
    exact ⟨Same.refl _, Rep.tup_of hq (reps_keys k)⟩
  keep := fun P0 ρ σ H ρ' σ' H' S k w _ ⟨h1, h2⟩ => ⟨k _ _ h1 h2, fun z => (w a z).elim h2 fun z => by rw [h1] at z; cases z⟩
  mem := fun _ _ _ _ _ w hw => nomatch hw
  grow := fun P0 P1 ρ σ H H' S w k ⟨h1, h2⟩ => ⟨k _ _ h1, fun z => by
    rcases z with z | z
    · rcases w a z with z | z
      · exact h2 (.inl z)
      · rw [h1] at z; cases z
    · exact h2 (.inr z)⟩
end
section
variable {X : Cx} {P0 : Pr} {O W U : List Nat} {E : EK} {tg e : Expr} {ma : EM}
end
variable {ρ : Env}
end Y

set_option Elab.async false
set_option linter.all false
set_option maxRecDepth 100000
namespace Y
open PySem PySem.Spec PyProof.Rows L2
section
variable {prog : Program} {w : World} {A : Around} {E : Value → Shared → Prop}
end
section
variable {X : Cx}
end
end Y

set_option Elab.async false
set_option linter.all false
set_option maxRecDepth 100000
namespace Y
open PySem PySem.Spec PyProof.Rows L2
section
variable {prog : Program} {w : World} {A : Around} {E : Value → Shared → Prop} {s : Shared} {z TI TO T i1 i2 : Addr} {fp1 fp2 : List Addr} {n1 n2 i : Nat} {P1 P2 : Nat → Value → Prop} {St1 St2 : Nat → Heap → Prop} {f : Bool} {oT : Obj}
end
end Y

set_option Elab.async false
set_option linter.all false
set_option maxRecDepth 100000
namespace Y
open PySem PySem.Spec PyProof.Rows L2
section
variable {prog : Program} {w : World} {A : Around} {E : Value → Shared → Prop} {s : Shared}
end
section
variable {prog : Program} {w : World} {A : Around} {E : Value → Shared → Prop} {s : Shared} {R : Result → Shared → Prop} {z TI TO i1 i2 S : Addr} {fp1 fp2 : List Addr} {n1 n2 i : Nat} {P1 P2 : Nat → Value → Prop} {St1 St2 : Nat → Heap → Prop}
/-- i pairs are out -/
def ZSt (z TI TO i1 i2 S : Addr) (St1 St2 : Nat → Heap → Prop) (i : Nat) (h : Heap) : Prop := IsTupOf2 h TI (.ref i1) (.ref i2) ∧ St1 i h ∧ St2 i h ∧
  ((IsZip h z TI TO .none ∧ ∃ a b, IsTupOf2 h TO a b) ∨ ∃ T f oT, IsZipHeld h z TI TO T f ∧ h.get? T = some oT ∧ T ≠ z ∧ T ≠ i1 ∧ T ≠ i2 ∧ T ≠ S)
theorem ZSt.ty {h : Heap} (x : ZSt z TI TO i1 i2 S St1 St2 i h) : ∃ o, h.get? z = some o ∧ o.cls = .type "zip" := by
  rcases x.2.2.2 with ⟨e, _⟩ | ⟨T, f, oT, e, _⟩
  · exact ⟨_, e, rfl⟩
  · exact ⟨_, e, rfl⟩
theorem ZSt.stay (Sp : ZipSep2 z TI TO i1 i2 fp1 fp2) (D1 : Draws prog w A i1 fp1 n1 P1 St1) (D2 : Draws prog w A i2 fp2 n2 P2 St2) {h h' : Heap} (x : ZSt z TI TO i1 i2 S St1 St2 i h) (nz : S ≠ z) (nI : S ≠ TI) (nO : S ≠ TO) (n1' : S ∉ fp1) (n2' : S ∉ fp2)
    (k : ∀ b o, b ≠ S → h.get? b = some o → h'.get? b = some o) : ZSt z TI TO i1 i2 S St1 St2 i h' := by
  obtain ⟨a, b, c, d⟩ := x
  refine ⟨k _ _ nI.symm a, D1.frame _ _ _ b fun q hq o e => k q o (fun e2 => n1' (e2 ▸ hq)) e, D2.frame _ _ _ c fun q hq o e => k q o (fun e2 => n2' (e2 ▸ hq)) e, ?_⟩
  rcases d with ⟨d1, y1, y2, d2⟩ | ⟨T, f, oT, d1, d2, d3, d4, d5, d6⟩
  · exact .inl ⟨k _ _ nz.symm d1, y1, y2, k _ _ nO.symm d2⟩
  · exact .inr ⟨T, f, oT, k _ _ nz.symm d1, k _ _ d6 d2, d3, d4, d5, d6⟩
/-- the pairs that are out -/
structure ZG (P1 P2 : Nat → Value → Prop) (lo : Addr) (h : Heap) (as : List Addr) : Prop where
  rise : as.Pairwise (· < ·)
  above : ∀ a ∈ as, lo < a
  pairs : ∀ (j : Nat) (a : Addr), as[j]? = some a → ∃ x y, P1 j x ∧ P2 j y ∧ IsTupOf2 h a x y
theorem ZG.there {lo : Addr} {h : Heap} {as : List Addr} (g : ZG P1 P2 lo h as) {a : Addr} (ha : a ∈ as) : a < h.objs.size := by
  obtain ⟨j, hj⟩ := List.mem_iff_getElem?.mp ha
  obtain ⟨_, _, _, _, e⟩ := g.pairs j a hj
  exact Heap.lt_size e
end
end Y

set_option Elab.async false
set_option linter.all false
set_option maxRecDepth 100000
namespace Y
open PySem PySem.Spec PyProof.Rows L2
section
variable {X : Cx} {pins : List (Addr × Obj)} {σ : L2.St} {H : Hp} {s : Shared}
end
section
variable {X : Cx} {P0 : Pr} {O W : List Nat} {E : EK} {a b : Expr} {ms : AM} {pos : Pos}
end
variable {ρ : Y.Env}
end Y

set_option Elab.async false
set_option linter.all false
set_option maxRecDepth 100000
namespace Y
open PySem PySem.Spec PyProof.Rows L2
section
variable {X : Cx}
end
end Y

set_option Elab.async false
set_option linter.all false
set_option maxRecDepth 100000
namespace Y
open PySem PySem.Spec PyProof.Rows L2
section
variable {κ : Type} [DecidableEq κ]
end
section
variable {X : Cx} {pins : List (Addr × Obj)} {σ : L2.St} {H : Hp} {s : Shared}
end
end Y

set_option Elab.async false
set_option linter.all false
set_option maxRecDepth 100000
namespace Y
open PySem PySem.Spec PyProof.Rows L2
def RK (kvs : List (Key × V)) (ps : List (V × V)) : Prop := Paired (fun (p : Key × V) (q : V × V) => p.2 = q.2 ∧ q.1 = kV p.1) kvs ps
def RT (H : Hp) (kvs : List (List Key × V)) (ps : List (V × V)) : Prop := Paired (fun (p : List Key × V) (q : V × V) => p.2 = q.2 ∧ ∃ b, q.1 = .ref b ∧ H b = some (.tup (p.1.map kV))) kvs ps
section
variable {X : Cx} {pins : List (Addr × Obj)} {σ : L2.St} {H : Hp} {s : Shared}
end
section
variable {X : Cx} {P0 : Pr} {O W : List Nat} {E : EK} {a b : Expr} {ms : AM} {pos : Pos}
end
variable {ρ : Y.Env}
end Y

set_option Elab.async false
set_option linter.all false
set_option maxRecDepth 100000
namespace Y
open PySem PySem.Spec PyProof.Rows L2
section
variable {X : Cx} {P0 : Pr} {O W U : List Nat} {E : EK} {e : Expr} {ma : EM} {K : PySem.W.Frag} {pos : Pos}
end
variable {ρ : Y.Env}
end Y

set_option Elab.async false
set_option linter.all false
set_option maxRecDepth 100000
namespace Y
open PySem PySem.Spec PyProof.Rows L2
section
variable {K : PySem.W.Frag} {O W : List Nat} {a : Addr} {o : Obj}
end
section
variable {K : PySem.W.Frag} {P0 : Pr} {O W : List Nat} {E : EK} {ρ : Y.Env} {σ : L2.St} {H : Hp} {m : EM} {Q : VK} {a : Addr} {u : HO}
end
section
variable {X : Cx} {P0 : Pr} {O W : List Nat} {E : EK} {tg : Expr} {pos : Pos}
end
variable {ρ : Y.Env}
end Y

set_option Elab.async false
set_option linter.all false
set_option maxRecDepth 100000
namespace Y.HR
open PySem PySem.Spec PyProof.Rows L2 _root_.HT PySem.W PySem.SeqAt PySem.AutoSeq1 PySem.MeetsSeq PySem.MeetsSeq2 PySem.MeetsSeq3
section
variable {prog : Program} {w : World} {A : Around} {E : Value → Shared → Prop} {s : Shared}
end
end Y.HR
namespace Y
open PySem PySem.Spec PyProof.Rows L2
section
variable {X : Cx} {e k : Expr} {te : TE} {p2 pos : Pos}
end
section
variable {X : Cx} {P0 : Pr} {O W : List Nat} {E : EK} {e k : Expr} {ma : EM} {mk : OM} {p2 pos : Pos}
end
variable {ρ : Y.Env}
end Y

set_option Elab.async false
set_option linter.all false
set_option maxRecDepth 100000
namespace Y
open PySem PySem.Spec PyProof.Rows L2
section
variable {X : Cx} {P0 : Pr} {O W : List Nat} {pos : Pos}
end
end Y

set_option Elab.async false
set_option linter.all false
set_option maxRecDepth 100000
namespace Y
open PySem PySem.Spec PyProof.Rows L2
section
variable {X : Cx} {P0 : Pr} {O W : List Nat} {E : EK} {a : Expr} {ma : EM} {pos : Pos}
end
variable {ρ : Y.Env}
end Y

set_option Elab.async false
set_option linter.all false
set_option maxRecDepth 100000
namespace Y
open PySem PySem.Spec PyProof.Rows L2
section
variable {X : Cx}
end
end Y

set_option Elab.async false
set_option linter.all false
set_option maxRecDepth 100000
namespace Y
open PySem PySem.Spec PyProof.Rows L2
section
variable {K : PySem.W.Frag} {P0 : Pr} {O W U : List Nat} {ρ : Y.Env} {σ : L2.St} {H : Hp} {i : Nat}
end
section
variable {X : Cx} {P0 : Pr} {O W U : List Nat} {E : EK} {st2 : Stmt} {sts : List Stmt} {m mr : SM}
end
end Y

set_option Elab.async false
set_option linter.all false
set_option maxRecDepth 100000
namespace Y
open PySem PySem.Spec PyProof.Rows L2
def setdRes (i : Nat) (x k d : D) (ρ : Y.Env) : R (Hd × Y.Env) := match x, k with
  | .dit ks ds, .tup ys => match keysOf ys with
    | some k => if szOk (ks.length + 1) = true then (match findD ks ds k with
      | some z => .ok (.vl z, ρ)
      | none => .ok (.vl d, ρ.set i (some (.dit (putKs ks k) (putDs ks ds k d))))) else .stk
    | none => .stk
  | _, _ => .stk
def cSetD (i : Nat) (mk mv : EM) : EM := fun ρ => do
  let _ ← (dicAt i ρ).nox
  let (h, ρ1) ← mk ρ
  let k ← h.v.nox
  let (h2, ρ2) ← mv ρ1
  let d ← h2.v.nox
  let x ← (dicAt i ρ2).nox
  setdRes i x k d ρ2
section
variable {X : Cx} {P0 : Pr} {O W : List Nat} {E : EK} {e f : Expr} {mk mv : EM}
theorem dicAt_isD {K : PySem.W.Frag} {ρ : Y.Env} {σ : L2.St} {H : Hp} (S : Sim K P0 O W ρ σ H) {i : Nat} {x : D} (hi : i ∈ O) (h : dicAt i ρ = .ok x) : ∃ a, σ[i]? = some (some (.ref a)) ∧ IsD H a := by
  have q := dicAt_ok h
  obtain ⟨v, h1, h2⟩ := S.own i x q hi
  cases x with
  | dik ks ds => obtain ⟨a, vs, rfl, _, r, _⟩ := h2; exact ⟨a, h1, .inl ⟨_, .inl r⟩⟩
  | dit ks ds => obtain ⟨a, vs, rfl, _, r, _⟩ := h2; exact ⟨a, h1, .inr ⟨_, .inl r⟩⟩
  | _ => unfold dicAt at h; rw [q] at h; cases h
theorem tM_setd {i : Nat} (hi : i ∈ O) (hw : i ∈ W) (σ : St) (H : Hp) (Q : VK) (h : tM X.K P0 O W E (cSetD i mk mv) σ H Q) : tDSetdT (tVar i) (tM X.K P0 O W E mk) (tM X.K P0 O W E mv) σ H Q := by
  obtain ⟨ρ, S, h⟩ := h
  obtain ⟨x0, e0, h⟩ := h.of_nox
  obtain ⟨l, h1, dl⟩ := dicAt_isD S hi e0
  refine ⟨.ref l, h1, l, rfl, dl, ρ, S, h.of_bind.mono fun ⟨hk, ρ1⟩ q w H1 S1 k1 r1 => ?_⟩
  obtain ⟨dk, e1, q⟩ := q.of_nox
  have rk1 := r1.v e1
  refine ⟨ρ1, S1, (Res.keep q k1).of_bind.mono fun ⟨hv, ρ2⟩ q2 v H2 S2 k2 r2 => ?_⟩
  obtain ⟨d, e2, q2⟩ := q2.of_nox
  obtain ⟨x1, e3, q2⟩ := Res.of_nox (show Res E W σ H1 ((dicAt i ρ2).nox >>= _) _ from q2)
  have q2 : Res E W σ H1 (setdRes i x1 dk d ρ2) _ := q2
  have rk := S1.rep k2 rk1
  have rv := r2.v e2
  obtain ⟨v1, g1, g2⟩ := S2.own i x1 (dicAt_ok e3) hi
  rw [h1] at g1
  cases g1
  have pa : FA P0 O σ l := .inr ⟨i, hi, h1⟩
  have up : ∀ (o : HO) b u, H2 b = some u → ¬ FA P0 O σ b → upd H2 l o b = some u := fun o b u e n => by rw [upd_ne fun z => n (by rw [z]; exact pa)]; exact e
  obtain ⟨ks, ds, ys, rfl, rfl⟩ : ∃ ks ds ys, x1 = .dit ks ds ∧ dk = .tup ys := by
    clear e1 e3 rk rk1 g2 up rv
    cases x1 <;> cases dk <;> first | exact q2.elim | exact ⟨_, _, _, rfl, rfl⟩
  · unfold setdRes at q2
    simp only at q2
    obtain ⟨a, vs, ea, hl, hH, rs⟩ := g2
    cases ea
    cases qk : keysOf ys with
    | none => rw [qk] at q2; exact q2.elim
    | some kk =>
      rw [qk] at q2
      simp only at q2
      by_cases c : szOk (ks.length + 1) = true
      · rw [if_pos c] at q2
        have c := of_decide_eq_true c
        have e24 : sizeLine = 16777216 := by decide
        unfold Rep at rk
        obtain ⟨b, us, rfl, b1, b2⟩ := rk
        have eu := keysOf_rep b2 qk
        subst eu
        obtain ⟨f1, f2⟩ := findD_rep (k := kk) rs hl
        refine ⟨ks.zip vs, kk, b, hH, rfl, b1, by rw [List.length_zip, ← hl, Nat.min_self]; omega, fun v0 hv0 => ?_, fun hn => ?_⟩
        · cases qf : findD ks ds kk with
          | none => rw [f2 qf] at hv0; cases hv0
          | some z =>
            rw [qf] at q2
            obtain ⟨v', w1, w2⟩ := f1 z qf
            rw [w1] at hv0
            cases hv0
            exact q2 _ H2 S2 (k1.trans k2) w2
        · cases qf : findD ks ds kk with
          | some z =>
            obtain ⟨v', w1, w2⟩ := f1 z qf
            rw [w1] at hn
            cases hn
          | none =>
            rw [qf] at q2
            obtain ⟨pz, pl⟩ := put_zip (k := kk) (v := v) hl
            rw [pz]
            exact q2 v _ (S2.ownW hi h1 trivial ⟨l, _, rfl, pl, upd_same, (put_reps rv rs hl).mono _ S2.dom (up _) fun b z => .inl z⟩) ((k1.trans k2).ownW hw h1) (rv.mono d S2.dom (up _) fun b z => .inl z)
      · rw [if_neg c] at q2; exact q2.elim
end
variable {ρ : Y.Env}
@[simp] theorem e_setd {i : Nat} {mk mv : EM} : cSetD i mk mv ρ = ((dicAt i ρ).nox >>= fun _ => mk ρ >>= fun p => p.1.v.nox >>= fun k => mv p.2 >>= fun q => q.1.v.nox >>= fun d => (dicAt i q.2).nox >>= fun x => setdRes i x k d q.2) := by
  unfold cSetD; congr
end Y

set_option Elab.async false
set_option linter.all false
set_option maxRecDepth 100000
namespace Y
open PySem PySem.Spec PyProof.Rows L2
section
variable {prog : Program} {w : World} {d r : Addr} {es : Array DictEntry} {ep : Nat}
end
section
variable {X : Cx} {o : Expr} {td : TE} {p pos apos mpos : Pos}
end
section
variable {X : Cx} {P0 : Pr} {O W : List Nat} {E : EK}
end
variable {ρ : Y.Env}
end Y

set_option Elab.async false
set_option linter.all false
set_option maxRecDepth 100000
namespace Y
open PySem PySem.Spec PyProof.Rows L2
end Y

set_option Elab.async false
set_option linter.all false
set_option maxRecDepth 100000
namespace Y
open PySem PySem.Spec PyProof.Rows L2
section
variable {K : PySem.W.Frag} {P0 : Pr} {O W U : List Nat} {ρ : Y.Env} {σ : L2.St} {H : Hp} {i : Nat}
end
section
variable {X : Cx} {P0 : Pr} {O W U : List Nat} {E : EK} {st2 : Stmt} {sts : List Stmt} {m mr : SM}
end
section
variable {X : Cx} {P0 : Pr} {O W : List Nat} {E : EK} {pos : Pos}
end
end Y

set_option Elab.async false
set_option linter.all false
set_option maxRecDepth 100000
namespace Y
open PySem PySem.Spec PyProof.Rows L2
section
variable {X : Cx} {P0 : Pr} {O W : List Nat} {E : EK} {a e f : Expr} {ma mb mc : EM}
end
section
variable {K : PySem.W.Frag} {X : Cx} {P0 : Pr} {O W U : List Nat} {E : EK} {e f : Expr} {mi mx : EM} {pos : Pos}
end
variable {ρ : Y.Env}
end Y

set_option Elab.async false
set_option linter.all false
set_option maxRecDepth 100000
namespace Y
open PySem PySem.Spec PyProof.Rows L2
theorem PGs.imp {X : Cx} {e : List Expr} {t t' : TGs} (h : PGs X e t) (i : ∀ v σ H Q, t' v σ H Q → t v σ H Q) : PGs X e t' := by
  cases h with
  | mk h => exact ⟨fun pins s σ H v u Q I r q => h pins s σ H v u Q I r (i v σ H Q q)⟩
section
variable {X : Cx} {P0 : Pr} {O W : List Nat} {pos : Pos}
end
section
variable {κ : Type} [DecidableEq κ]
end
end Y

set_option Elab.async false
set_option linter.all false
set_option maxRecDepth 100000
namespace Y
open PySem PySem.Spec PyProof.Rows L2 RT
section
variable {prog : Program} {w : World} {A : Around} {E : Value → Shared → Prop} {s : Shared}
end
section
variable {X : Cx}
end
section
variable {X : Cx} {P0 : Pr} {O W : List Nat} {E : EK} {e : Expr} {me : EM} {pos : Pos}
end
variable {ρ : Y.Env}
end Y

set_option Elab.async false
set_option linter.all false
set_option maxRecDepth 100000
namespace Y
open PySem PySem.Spec PyProof.Rows L2
end Y

set_option Elab.async false
set_option linter.all false
set_option maxRecDepth 100000
namespace Y
open PySem PySem.Spec PyProof.Rows L2
abbrev PrT := Addr × List Int
/-- what a set holds of the first i things -/
structure Has (ks : List PrT) (i : Nat) (L : List PrT) : Prop where
  low : ∀ q ∈ L, q ∈ ks.take i
  top : ∀ q ∈ ks.take i, q.2 ∈ L.map (·.2)
theorem Has.none (ks : List PrT) : Has ks 0 [] := ⟨fun q z => (nomatch z), fun q z => by simp at z⟩
theorem take_more {α : Type} {l : List α} {i : Nat} {x : α} (h : l[i]? = some x) : l.take (i + 1) = l.take i ++ [x] := by rw [List.take_add_one, h]; rfl
theorem Has.stay {ks L : List PrT} {i : Nat} {x : PrT} (g : Has ks i L) (h : ks[i]? = some x) (m : x.2 ∈ L.map (·.2)) : Has ks (i + 1) L := by
  refine ⟨fun q z => ?_, fun q z => ?_⟩
  · rw [take_more h]; exact List.mem_append_left _ (g.low q z)
  · rw [take_more h] at z
    rcases List.mem_append.mp z with z | z
    · exact g.top q z
    · rw [List.mem_singleton] at z; rw [z]; exact m
theorem Has.grow {ks L M : List PrT} {i : Nat} {x : PrT} (g : Has ks i L) (h : ks[i]? = some x) (pm : M.Perm (x :: L)) : Has ks (i + 1) M := by
  refine ⟨fun q z => ?_, fun q z => ?_⟩
  · rw [take_more h]
    rcases List.mem_cons.mp (pm.mem_iff.mp z) with rfl | z
    · exact List.mem_append_right _ (by simp)
    · exact List.mem_append_left _ (g.low q z)
  · refine (pm.map (·.2)).mem_iff.mpr ?_
    rw [take_more h] at z
    rcases List.mem_append.mp z with z | z
    · exact List.mem_cons_of_mem _ (g.top q z)
    · rw [List.mem_singleton] at z; rw [z]; exact List.mem_cons_self
section
variable {P : Program} {w : World} {A : Around} {E : Value → Shared → Prop} {s : Shared}
end
section
variable {K : PySem.W.Frag} {X : Cx} {P0 : Pr} {O W : List Nat} {E : EK} {a e : Expr} {ma : EM} {pos : Pos}
end
end Y

set_option Elab.async false
set_option linter.all false
set_option maxRecDepth 100000
namespace Y
open PySem PySem.Spec PyProof.Rows L2
end Y

set_option Elab.async false
set_option linter.all false
set_option maxRecDepth 100000
namespace Y
open PySem PySem.Spec PyProof.Rows L2
section
variable {X : Cx}
end
end Y

set_option Elab.async false
set_option linter.all false
set_option maxRecDepth 100000
namespace Y
open PySem PySem.Spec PyProof.Rows L2
section
variable {X : Cx}
end
end Y

set_option Elab.async false
set_option linter.all false
set_option maxRecDepth 100000
namespace Y
open PySem PySem.Spec PyProof.Rows L2
section
variable {X : Cx} {e k : Expr} {te : TE} {p2 pos : Pos}
end
section
variable {X : Cx} {P0 : Pr} {O W : List Nat} {E : EK} {e k : Expr} {ma : EM} {mk : OM} {p2 pos : Pos}
end
variable {ρ : Y.Env}
end Y

set_option Elab.async false
set_option linter.all false
set_option maxRecDepth 100000
namespace Y
open PySem PySem.Spec PyProof.Rows L2
variable {K : PySem.W.Frag} {P0 : Pr} {O W U : List Nat} {E : EK} {ms : AM}
section
variable {X : Cx}
end
variable {ρ : Y.Env}
end Y

set_option Elab.async false
set_option linter.all false
set_option maxRecDepth 100000
namespace Y
open PySem PySem.Spec PyProof.Rows L2
section
variable {X : Cx} {P0 : Pr} {O W U : List Nat} {E : EK} {st2 : Stmt} {sts : List Stmt} {m mr : SM}
end
end Y

set_option Elab.async false
set_option linter.all false
set_option maxRecDepth 100000
namespace Y
open PySem PySem.Spec PyProof.Rows L2
section
variable {X : Cx} {i : Nat} {x : Str}
end
end Y

set_option Elab.async false
set_option linter.all false
set_option maxRecDepth 100000
namespace Y
open PySem PySem.Spec PyProof.Rows L2
section
variable {K : PySem.W.Frag} {O W : List Nat}
end
section
variable {X : Cx} {P0 : Pr} {O W : List Nat} {E : EK} {a b c tg : Expr} {ms : AM} {pos : Pos}
end
end Y

set_option Elab.async false
set_option linter.all false
set_option maxRecDepth 100000
namespace Y
open PySem PySem.Spec PyProof.Rows L2
section
variable {prog : Program} {w : World} {A : Around} {E : Value → Shared → Prop}
end
section
variable {X : Cx}
end
end Y

set_option Elab.async false
set_option linter.all false
set_option maxRecDepth 100000
namespace Y
open PySem PySem.Spec PyProof.Rows L2
section
variable {X : Cx} {P0 : Pr} {O W U : List Nat} {E : EK} {st : Stmt} {m n : SM} {pre tl : List Stmt}
end
section
variable {K : PySem.W.Frag} {P0 : Pr} {O W : List Nat} {ρ1 ρ2 : Y.Env} {σ1 σ2 : L2.St} {H1 H2 : Hp}
end
section
variable {X : Cx} {P0 : Pr} {O W U UU us : List Nat} {E : EK} {XE : XK} {e : Expr} {es : List Expr} {ms : AM} {pos pos2 p px : Pos} {k np i : Nat} {name x : Str} {n n0 : SM} {tl pre : List Stmt} {tr : D → Bool} {R : PySem.W.Frag → Pr → V → Hp → Prop}
def r0 (K : PySem.W.Frag) (A : Pr) (v : V) (H : Hp) : Prop := ∃ a ws b xs, v = .ref a ∧ A a ∧ ws.length < sizeLine ∧ H a = some (.lst ws) ∧ ws[0]? = some (V.ref b) ∧ A b ∧ b ≠ a ∧ H b = some (.lst xs)
end
end Y

set_option Elab.async false
set_option linter.all false
set_option maxRecDepth 100000
namespace Y
open PySem PySem.Spec PyProof.Rows L2
section
variable {K : PySem.W.Frag} {X : Cx} {P0 : Pr} {O W : List Nat} {E : EK} {e : Expr} {es : List Expr} {ms : AM} {pos : Pos}
end
section
variable {K : PySem.W.Frag} {X : Cx} {P0 : Pr} {O W : List Nat} {E : EK} {o e : Expr} {es : List Expr} {to : TE} {t : TA} {name : Str} {apos cpos : Pos} {id : String} {r : V → List V → Hp → VK → Prop}
end
section
variable {X : Cx}
end
variable {ρ : Y.Env}
@[simp] theorem d_lenF {x : List D} : lenD [.ftu x] = .ok (.int x.length) := id rfl
@[simp] theorem d_itF {x : List D} : itD (.ftu x) = .ok x := id rfl
@[simp] theorem d_ixF {x : List D} {i : Int} : ixD (.ftu x) (.int i) = match atI x i with | some d => .ok d | none => .stk := id rfl
@[simp] theorem isFt_F {ds : List D} : isFt (.ftu ds) = true := id rfl
@[simp] theorem isTup_F {ds : List D} : isTup (.ftu ds) = true := id rfl
@[simp] theorem nlF {ds : List D} : D.nl (.ftu ds) = nls ds := by simp [D.nl]
end Y

set_option Elab.async false
set_option linter.all false
set_option maxRecDepth 100000
set_option maxHeartbeats 4000000
namespace Y
open PySem PySem.Spec PyProof.Rows L2
section
variable {X : Cx}
end
end Y

set_option Elab.async false
set_option linter.all false
set_option maxRecDepth 100000
set_option maxHeartbeats 4000000
namespace Y
open PySem PySem.Spec PyProof.Rows L2
section
variable {prog : Program} {w : World} {A : Around} {E : Value → Shared → Prop} {s : Shared} {R : Result → Shared → Prop} {e it S T : Addr} {fp : List Addr} {n i : Nat} {P : Nat → Value → Prop} {St : Nat → Heap → Prop} {f : Bool} {oT : Obj} {old : Value}
/-- i pairs are out -/
def ESt (e it S : Addr) (St : Nat → Heap → Prop) (i : Nat) (h : Heap) : Prop := St i h ∧
  ((∃ old, IsEnum h e it ((i : Nat) : Int) old) ∨ ∃ old T f oT, IsEnumHeld h e it ((i : Nat) : Int) old T f ∧ h.get? T = some oT ∧ T ≠ e ∧ T ≠ it ∧ T ≠ S)
theorem ESt.ty {h : Heap} (x : ESt e it S St i h) : ∃ o, h.get? e = some o ∧ o.cls = .type "enumerate" := by
  rcases x.2 with ⟨_, y⟩ | ⟨_, _, _, _, y, _⟩
  · exact ⟨_, y, rfl⟩
  · exact ⟨_, y, rfl⟩
theorem ESt.stay (D : Draws prog w A it fp n P St) {h h' : Heap} (x : ESt e it S St i h) (nz : S ≠ e) (n1 : S ∉ fp) (k : ∀ b o, b ≠ S → h.get? b = some o → h'.get? b = some o) : ESt e it S St i h' := by
  obtain ⟨a, d⟩ := x
  refine ⟨D.frame _ _ _ a fun q hq o y => k q o (fun e2 => n1 (e2 ▸ hq)) y, ?_⟩
  rcases d with ⟨old, y⟩ | ⟨old, T, f, oT, y, y2, d3, d4, d5⟩
  · exact .inl ⟨old, k _ _ nz.symm y⟩
  · exact .inr ⟨old, T, f, oT, k _ _ nz.symm y, k _ _ d5 y2, d3, d4, d5⟩
end
end Y

set_option Elab.async false
set_option linter.all false
set_option maxRecDepth 100000
set_option maxHeartbeats 4000000
namespace Y
open PySem PySem.Spec PyProof.Rows L2
section
variable {X : Cx} {pins : List (Addr × Obj)} {σ : L2.St} {H : Hp} {s : Shared}
end
section
variable {X : Cx} {P0 : Pr} {O W : List Nat} {E : EK} {a b : Expr} {ms : AM} {pos : Pos}
end
variable {ρ : Y.Env}
end Y

set_option Elab.async false
set_option linter.all false
set_option maxRecDepth 100000
namespace Y
open PySem PySem.Spec PyProof.Rows L2
section
variable {X : Cx} {P0 : Pr} {O W : List Nat} {E : EK} {k v : Int} {c1 c2} {p1 p2 pos : Pos}
end
end Y

set_option Elab.async false
set_option linter.all false
set_option maxRecDepth 100000
namespace Y
open PySem PySem.Spec PyProof.Rows L2
section
variable {X : Cx} {P0 : Pr} {O W : List Nat} {E : EK} {a e : Expr} {ma mk : EM} {pos : Pos}
end
variable {ρ : Y.Env}
end Y

set_option Elab.async false
set_option linter.all false
set_option maxRecDepth 100000
namespace Y
open PySem PySem.Spec PyProof.Rows L2
section
variable {K : PySem.W.Frag} {P0 : Pr} {O W : List Nat} {ρ : Env} {σ : St} {H : Hp}
end
section
variable {X : Cx} {P0 : Pr} {O W U : List Nat} {E : EK} {st2 st3 : Stmt} {sts : List Stmt} {es : List Expr} {m0 : AM} {m2 m3 mr : SM}
end
end Y

set_option Elab.async false
set_option linter.all false
set_option maxRecDepth 100000
namespace Y
open PySem PySem.Spec PyProof.Rows L2
section
variable {X : Cx} {P0 : Pr} {O W U : List Nat} {E : EK} {e e2 : Expr} {ms : AM} {pos p2 : Pos} {k i : Nat}
end
end Y

set_option Elab.async false
set_option linter.all false
set_option maxRecDepth 100000
namespace Y
open PySem PySem.Spec PyProof.Rows L2
section
variable {X : Cx} {P0 : Pr} {O W U : List Nat} {E : EK} {i : Nat} {x : Str}
end
end Y

set_option Elab.async false
set_option linter.all false
set_option maxRecDepth 100000
namespace Y
open PySem PySem.Spec PyProof.Rows L2
section
variable {K : PySem.W.Frag} {X : Cx} {P0 : Pr} {O W U : List Nat} {E : EK} {a b e : Expr} {ma mb : EM} {pos : Pos}
end
variable {ρ : Y.Env}
end Y

set_option Elab.async false
set_option linter.all false
set_option maxRecDepth 100000
namespace Y
open PySem PySem.Spec PyProof.Rows L2
section
variable {X : Cx} {pins : List (Addr × Obj)} {σ : L2.St} {H : Hp} {s : Shared}
theorem inv_hid (I : Inv X pins σ H s) {i : Nat} {x : Str} {v : V} (hx : X.N[i]? = some x) (nv : ¬ Vis X.env.scope x) : Inv X pins (σ.set i (some v)) H s := by
  obtain ⟨m, hn, hl⟩ := I.loc
  refine { I with loc := ⟨m, hn, fun j y w e1 e2 e3 => ?_⟩, len := by rw [List.length_set]; exact I.len }
  by_cases c : i = j
  · subst c
    rw [hx] at e1
    cases e1
    exact absurd e3 nv
  · rw [List.getElem?_set_ne c] at e2
    exact hl j y w e1 e2 e3
end
/-- what a def with a hidden slot promises; the slot's datum is the last one of g -/
def spT (K : PySem.W.Frag) (mg : Str → Option Value) (np : Nat) (O : List Nat) (g : Fn) : Sp := fun vs H Q E => vs.length = np ∧ ∃ v, spD K mg (np + 1) O g (vs ++ [v]) H Q E
structure GloT (P : Program) (w : World) (K : PySem.W.Frag) (mg : Str → Option Value) (base : Heap) (name : Str) (k np : Nat) (O : List Nat) (g : Fn) : Prop where
  ex : ∃ f fd ps, mg name = some (.ref f) ∧ PySem.W.keepIn K (.ref f) = true ∧ Binds K fd ps [] ∧ ps.length = np ∧ FnOk P w K mg base (L2N.CX P w) k f fd ps (spT K mg np O g)
section
variable {K : PySem.W.Frag} {mg : Str → Option Value} {P0 : Pr} {O Oc W U : List Nat} {ρ : Env} {σ : St} {H H' : Hp} {d : D} {v : V} {np n : Nat}
end
theorem GloT.mono {P : Program} {w : World} {K : PySem.W.Frag} {mg : Str → Option Value} {base : Heap} {name : Str} {k np : Nat} {O : List Nat} {g : Fn} {k' : Nat} (G : GloT P w K mg base name k np O g) (h : k ≤ k' := by decide) : GloT P w K mg base name k' np O g :=
  let ⟨f, fd, ps, h1, h2, h3, h4, F⟩ := G.ex
  ⟨f, fd, ps, h1, h2, h3, h4, F.mono h⟩
section
variable {X : Cx} {P0 : Pr} {O Oc W U : List Nat} {E : EK} {XE : XK} {e : Expr} {es : List Expr} {ms : AM} {pos : Pos} {k np : Nat} {name : Str} {pr : List (Nat × Nat)} {t : Nat}
end
end Y

set_option Elab.async false
set_option linter.all false
set_option maxRecDepth 100000
set_option maxHeartbeats 2000000
namespace Y
open PySem PySem.Spec PyProof.Rows L2
section
variable {X : Cx} {pins : List (Addr × Obj)} {σ : L2.St} {H : Hp} {s : Shared}
end
section
variable {prog : Program} {w : World} {A : Around} {s : Shared} {x q : Str} {params : Arguments} {body : Expr} {scope : Scope} {pm ctv : Value} {c' f : Addr} {v : Value} {Q : Value → Shared → Prop}
end
end Y

set_option Elab.async false
set_option linter.all false
set_option maxRecDepth 100000
set_option maxHeartbeats 2000000
namespace Y
open PySem PySem.Spec PyProof.Rows L2
section
variable {α : Type} {g : α → Int}
end
section
variable {X : Cx} {pins : List (Addr × Obj)} {σ : L2.St} {H : Hp} {s : Shared} {x q c : Str} {params : Arguments} {body : Expr} {scope : Scope} {pm ctv : Value} {c' f a : Addr} {xs : List Str} {Q : VK} {k : Nat}
end
end Y

set_option Elab.async false
set_option linter.all false
set_option maxRecDepth 100000
set_option maxHeartbeats 2000000
namespace Y
open PySem PySem.Spec PyProof.Rows L2
section
variable {K : PySem.W.Frag} {P0 : Pr} {O W : List Nat} {ρ : Env} {σ : L2.St} {H H2 : Hp} {t : Nat} {P : Addr} {q : Str}
end
section
variable {X : Cx} {P0 : Pr} {O W : List Nat} {E : EK} {a : Expr} {ma : EM} {pos : Pos} {k : Nat}
end
variable {ρ : Y.Env}
end Y

set_option Elab.async false
set_option linter.all false
set_option maxRecDepth 100000
namespace Y
open PySem PySem.Spec PyProof.Rows L2
section
variable {K : PySem.W.Frag} {mg : Str → Option Value} {O Oc W U : List Nat} {np n : Nat}
end
end Y

set_option Elab.async false
set_option linter.all false
set_option maxRecDepth 100000
namespace Y
open PySem PySem.Spec PyProof.Rows L2
section
variable {X : Cx} {P0 : Pr} {O Oc W : List Nat} {e : Expr} {es : List Expr} {ms : AM} {pos : Pos} {k k0 np : Nat} {name : Str} {pr : List (Nat × Nat)} {t : Nat}
end
end Y

set_option Elab.async false
set_option linter.all false
set_option maxRecDepth 100000
namespace Y
open PySem PySem.Spec PyProof.Rows L2
end Y

set_option Elab.async false
set_option linter.all false
set_option maxRecDepth 100000
set_option maxHeartbeats 4000000
namespace Y
open PySem PySem.Spec PyProof.Rows L2
section
variable {prog : Program} {w : World} {A : Around} {s : Shared} {x : Str} {Q : Value → Shared → Prop}
end

section
variable {X : Cx} {P0 : Pr} {O W : List Nat} {E : EK} {a : Expr} {ma : EM} {pos : Pos} {k : Nat}
end
end Y

set_option Elab.async false
set_option linter.all false
set_option maxRecDepth 100000
set_option maxHeartbeats 2000000
namespace Y
open PySem PySem.Spec PyProof.Rows L2
section
variable {X : Cx} {P0 : Pr} {O W : List Nat} {E : EK} {a : Expr} {ma : EM} {pos : Pos} {k : Nat}
end
variable {ρ : Y.Env}
end Y

set_option Elab.async false
set_option linter.all false
set_option maxRecDepth 100000
set_option maxHeartbeats 2000000
namespace Y
open PySem PySem.Spec PyProof.Rows L2
section
variable {X : Cx} {P0 : Pr} {O W : List Nat} {E : EK} {a : Expr} {ma : EM} {pos : Pos} {k : Nat}
end
variable {ρ : Y.Env}
end Y

set_option Elab.async false
set_option linter.all false
set_option maxRecDepth 100000
set_option maxHeartbeats 4000000
namespace Y
open PySem PySem.Spec PyProof.Rows L2
section
variable {prog : Program} {w : World} {A : Around} {E : Value → Shared → Prop} {s : Shared} {e it T : Addr} {fp : List Addr} {n i : Nat} {P : Nat → Value → Prop} {St : Nat → Heap → Prop} {f : Bool} {old : Value}
end
section
variable {X : Cx} {P0 : Pr} {O W : List Nat} {E : EK} {a e : Expr} {ms : AM} {pos : Pos}
end
end Y

set_option Elab.async false
set_option linter.all false
set_option maxRecDepth 100000
set_option maxHeartbeats 4000000
namespace Y
open PySem PySem.Spec PyProof.Rows L2
section
variable {X : Cx}
end
end Y

set_option Elab.async false
set_option linter.all false
set_option maxRecDepth 100000
set_option maxHeartbeats 4000000
namespace Y
open PySem PySem.Spec PyProof.Rows L2
section
variable {X : Cx}
end
end Y

set_option Elab.async false
set_option linter.all false
set_option maxRecDepth 100000
set_option maxHeartbeats 4000000
namespace Y
open PySem PySem.Spec PyProof.Rows L2
section
variable {P : Program} {w : World} {A : Around} {E : Value → Shared → Prop} {s : Shared}
def IntsE (l : List (Int × Value)) : Prop := ∀ e ∈ l, GoodE e
theorem IntsE.perm {l l' : List (Int × Value)} (h : IntsE l) (p : l'.Perm l) : IntsE l' := fun e he => h e (p.mem_iff.mp he)
end
end Y

namespace Y
open PySem PySem.Spec PyProof.Rows L2
end Y

namespace Y
open PySem PySem.Spec PyProof.Rows L2
section
variable {K : PySem.W.Frag} {X : Cx} {P0 : Pr} {O W : List Nat} {E : EK} {a b : Expr} {ma mb : EM} {pos : Pos}
end
variable {ρ : Y.Env}
end Y

set_option Elab.async false
set_option linter.all false
set_option maxRecDepth 100000
set_option maxHeartbeats 4000000
namespace Y
open PySem PySem.Spec PyProof.Rows L2
section
variable {X : Cx} {P0 : Pr} {O W U : List Nat} {E : EK} {a b : Expr} {ms : AM} {pos : Pos}
end
variable {ρ : Y.Env}
end Y

set_option Elab.async false
set_option linter.all false
set_option maxRecDepth 100000
namespace Y
open PySem PySem.Spec PyProof.Rows L2
section
variable {X : Cx}
end
end Y

set_option Elab.async false
set_option linter.all false
set_option maxRecDepth 100000
set_option maxHeartbeats 4000000
namespace Y
open PySem PySem.Spec PyProof.Rows L2
section
variable {X : Cx}
end
section
variable {K : PySem.W.Frag} {X : Cx} {P0 : Pr} {O W : List Nat} {E : EK} {a b : Expr} {ma mb : EM} {pos : Pos}
end
section
variable {X : Cx} {P0 : Pr} {O W U : List Nat} {E : EK}
end
variable {ρ : Y.Env}
end Y

set_option Elab.async false
set_option linter.all false
set_option maxRecDepth 100000
set_option maxHeartbeats 4000000
namespace Y
open PySem PySem.Spec PyProof.Rows L2
section
variable {X : Cx} {P0 : Pr} {O W : List Nat} {E : EK} {b : Expr} {mb : EM} {pos p : Pos}
end
variable {ρ : Y.Env}
end Y

set_option Elab.async false
set_option linter.all false
set_option maxRecDepth 100000
namespace Y
open PySem PySem.Spec PyProof.Rows L2
section
variable {K : PySem.W.Frag} {P0 : Pr} {O W : List Nat} {E : EK} {m : EM}
theorem Sim.noW {ρ : Y.Env} {σ : L2.St} {H : Hp} (h : Sim K P0 O W ρ σ H) : Sim K P0 O [] ρ σ H := ⟨fun _ z => (nomatch z), h.len, h.dom, h.val, h.own, h.sep, h.sep0⟩
theorem Keep.noW {σ : L2.St} {H H' : Hp} (h : Keep [] σ H H') : Keep W σ H H' := ⟨fun b o e _ => h.keep b o e fun ⟨_, z, _⟩ => (nomatch z), h.some⟩
theorem tM_up {σ : L2.St} {H : Hp} {Q : VK} (h : tM K P0 O W E m σ H Q) : tM K P0 O [] E m σ H Q := by
  obtain ⟨ρ, S, h⟩ := h
  refine ⟨ρ, S.noW, ?_⟩
  cases em : m ρ with
  | stk => rw [em] at h; exact h.elim
  | er c ds => rw [em] at h; exact fun H' k => h H' k.noW
  | ok p =>
    rw [em] at h
    exact fun v H' S' k r => h v H' ⟨S.sub, S'.len, S'.dom, S'.val, S'.own, S'.sep, S'.sep0⟩ k.noW r
end
theorem ce_upW {X : Cx} {P0 : Pr} {O W : List Nat} {E : EK} {e : Expr} {m : EM} (h : CEx X P0 O [] E e m) : CEx X P0 O W E e m := PE.imp h fun _ _ _ q => tM_up q
end Y

set_option Elab.async false
set_option linter.all false
set_option maxRecDepth 100000
namespace Y
open PySem PySem.Spec PyProof.Rows L2
section
variable {K : PySem.W.Frag} {X : Cx} {P0 : Pr} {O W U : List Nat} {E : EK} {a b e : Expr} {ma mb : EM} {pos : Pos}
end
variable {ρ : Y.Env}
end Y

set_option Elab.async false
set_option linter.all false
set_option maxRecDepth 100000
namespace Y
open PySem PySem.Spec PyProof.Rows L2
section
variable {X : Cx} {P0 : Pr} {O W : List Nat} {E : EK} {e k : Expr} {ma : EM} {mk : OM} {p2 pos : Pos}
end
variable {ρ : Y.Env}
end Y

set_option Elab.async false
set_option linter.all false
set_option maxRecDepth 100000
namespace Y
open PySem PySem.Spec PyProof.Rows L2
section
variable {M : Model} {A : Around} {E : Value → Shared → Prop} {s : Shared} {env : PySem.Env}
end
section
variable {X : Cx} {pins : List (Addr × Obj)} {σ : L2.St} {H : Hp} {s s' : Shared} {E : XK}
end
section
variable {X : Cx} {pins : List (Addr × Obj)} {σ : L2.St} {H3 : Hp} {s3 : Shared} {scope : Scope} {fp : List Addr} {E : XK}
end
end Y

set_option Elab.async false
set_option linter.all false
set_option maxRecDepth 100000
namespace Y
open PySem PySem.Spec PyProof.Rows L2
section
variable {X : Cx} {E : XK}
end
end Y

set_option Elab.async false
set_option linter.all false
set_option maxRecDepth 100000
namespace Y
open PySem PySem.Spec PyProof.Rows L2
section
variable {K : PySem.W.Frag} {P0 : Pr} {O W : List Nat} {E : EK}
end
section
variable {X : Cx} {P0 : Pr} {O W : List Nat} {E : EK} {XE : XK} {tg : Expr} {pos : Pos}
end
end Y

set_option Elab.async false
set_option linter.all false
set_option maxRecDepth 100000
namespace Y
open PySem PySem.Spec PyProof.Rows L2
section
variable {K : PySem.W.Frag} {P0 : Pr} {O W : List Nat} {E : EK}
end
section
variable {X : Cx} {P0 : Pr} {O W : List Nat} {E : EK} {XE : XK} {tg : Expr} {pos : Pos}
end
end Y

set_option Elab.async false
set_option linter.all false
set_option maxRecDepth 100000
namespace Y
open PySem PySem.Spec PyProof.Rows L2
section
variable {X : Cx} {P0 : Pr} {O W U : List Nat} {E : EK} {XE : XK} {e : Expr} {es : List Expr} {te : TE} {ta : TA} {ma : EM} {p p1 p2 pos : Pos}
end
end Y

set_option Elab.async false
set_option linter.all false
set_option maxRecDepth 100000
namespace Y
open PySem PySem.Spec PyProof.Rows L2
abbrev row1 (k : Int) : List (Str × V) := [("row", .int k)]
section
variable {X : Cx} {P0 : Pr} {O W U : List Nat} {E : EK} {i j : Nat} {a C dd : Addr} {oe : Obj} {pn : List (Addr × Obj)} {k : Int} {n : Str}
def tEs (i : Nat) (a dd : Addr) (k : Int) : St → Hp → Prop := fun σ H => σ[i]? = some (some (.ref a)) ∧ H dd = some (.xd (row1 k))
theorem tEs.same {σ : St} {H H' : Hp} (h : tEs i a dd k σ H) (sm : Same H H') : tEs i a dd k σ H' := ⟨h.1, sm _ _ h.2⟩
theorem Same.rfl {H : Hp} : Same H H := fun _ _ e => e
end
end Y

set_option Elab.async false
set_option linter.all false
set_option maxRecDepth 100000
namespace Y
open PySem PySem.Spec PyProof.Rows L2
section
variable {X : Cx} {P0 : Pr} {O W : List Nat} {E : EK} {k v : Str} {c1 c2} {p1 p2 pos : Pos}
end
def clsBody : Stmt → List Stmt
  | .ClassDef _ _ _ b .. => b
  | _ => []
section
variable {X : Cx} {P0 : Pr} {O W U : List Nat} {E : EK} {i j : Nat}
end
end Y

set_option Elab.async false
set_option linter.all false
set_option maxRecDepth 100000
namespace Y
open PySem PySem.Spec PyProof.Rows L2
abbrev SDt := PySem.Froz.SD
/-- the set at a holds the texts l -/
def TxS (P : Program) (w : World) (h : Heap) (a : Addr) (l : List Str) : Prop := ∃ D : SDt, h.get? a = some (PySem.Froz.sObj "set" D) ∧ PySem.Froz.TxOk P w D l ∧ l.Nodup ∧ Ris D.2.2.place.toList ∧ (w.params.followText "set-order" = true ∨ D.2.2.led = true)
theorem TxS.at {P : Program} {w : World} {h h' : Heap} {a : Addr} {l : List Str} (x : TxS P w h a l) (k : ∀ o, h.get? a = some o → h'.get? a = some o) : TxS P w h' a l := by
  obtain ⟨D, ho, r⟩ := x
  exact ⟨D, k _ ho, r⟩
section
variable {P : Program} {w : World} {A : Around} {E : Value → Shared → Prop} {s : Shared}
/-- what a set holds of the first i texts -/
structure HasS (ks : List Str) (i : Nat) (L : List Str) : Prop where
  low : ∀ q ∈ L, q ∈ ks.take i
  top : ∀ q ∈ ks.take i, q ∈ L
theorem HasS.none (ks : List Str) : HasS ks 0 [] := ⟨fun q z => (nomatch z), fun q z => by simp at z⟩
theorem HasS.stay {ks L : List Str} {i : Nat} {x : Str} (g : HasS ks i L) (h : ks[i]? = some x) (m : x ∈ L) : HasS ks (i + 1) L := by
  refine ⟨fun q z => ?_, fun q z => ?_⟩
  · rw [take_more h]; exact List.mem_append_left _ (g.low q z)
  · rw [take_more h] at z
    rcases List.mem_append.mp z with z | z
    · exact g.top q z
    · rw [List.mem_singleton] at z; rw [z]; exact m
theorem HasS.grow {ks L : List Str} {i : Nat} {x : Str} (g : HasS ks i L) (h : ks[i]? = some x) : HasS ks (i + 1) (x :: L) := by
  refine ⟨fun q z => ?_, fun q z => ?_⟩
  · rw [take_more h]
    rcases List.mem_cons.mp z with rfl | z
    · exact List.mem_append_right _ (by simp)
    · exact List.mem_append_left _ (g.low q z)
  · rw [take_more h] at z
    rcases List.mem_append.mp z with z | z
    · exact List.mem_cons_of_mem _ (g.top q z)
    · rw [List.mem_singleton] at z; rw [z]; exact List.mem_cons_self
end
end Y

set_option Elab.async false
set_option linter.all false
set_option maxRecDepth 100000
namespace Y
open PySem PySem.Spec PyProof.Rows L2
section
variable {K : PySem.W.Frag} {X : Cx} {P0 : Pr} {O W : List Nat} {E : EK} {a e : Expr} {ma : EM} {pos : Pos}
end
end Y

set_option Elab.async false
set_option linter.all false
set_option maxRecDepth 100000
namespace Y
open PySem PySem.Spec PyProof.Rows L2
def Ren (X : Cx) (N' : List Str) (σ σ' : St) : Prop := σ'.length = N'.length ∧ ∀ (i : Nat) (x : Str) (v : V), N'[i]? = some x → σ'[i]? = some (some v) → Vis X.env.scope x → ∃ j : Nat, X.N[j]? = some x ∧ σ[j]? = some (some v)
theorem inv_ren {X : Cx} {N' : List Str} {pins : List (Addr × Obj)} {σ σ' : St} {H : Hp} {s : Shared} (I : Inv X pins σ H s) (r : Ren X N' σ σ') : Inv { X with N := N' } pins σ' H s := by
  have ok : Cx.Ok { X with N := N' } := by
    obtain ⟨a1, a2, a3, a4, a5, a6, a7, a8, a9, b1, b2, b3, b4, b5, b6, b7, b8, b9⟩ := I.ok
    exact ⟨a1, a2, a3, a4, a5, a6, a7, a8, a9, b1, b2, b3, b4, b5, b6, b7, b8, b9⟩
  obtain ⟨m, hn, hl⟩ := I.loc
  exact ⟨ok, I.os, I.bare, I.base, ⟨m, hn, fun i x v h1 h2 h3 => by
    obtain ⟨j, e1, e2⟩ := r.2 i x v h1 h2 h3
    exact hl j x v e1 e2 h3⟩, I.cell, I.free, I.freeC, I.pin, I.hok, r.1⟩
theorem ren_none {X : Cx} {N' : List Str} {σ : St} : Ren { X with N := N' } X.N σ (List.replicate X.N.length none) := ⟨by rw [List.length_replicate], fun i x v _ h2 _ => by
  rw [List.getElem?_replicate] at h2
  split at h2 <;> cases h2⟩
theorem pss_ren {X : Cx} {N' : List Str} {sts : List Stmt} {t : TS} (h : PSs { X with N := N' } sts t) : PSs X sts (fun D σ H => ∃ σ', Ren X N' σ σ' ∧ t { nx := fun _ H' => D.nx (List.replicate X.N.length none) H', rt := D.rt, bk := fun _ H' => D.bk (List.replicate X.N.length none) H', ct := fun _ H' => D.ct (List.replicate X.N.length none) H' } σ' H) :=
  ⟨fun pins s σ H D I ⟨σ', r, q⟩ => thn (h.run pins s σ' H _ (inv_ren I r) q) fun f s1 z => by
    cases f with
    | next =>
      obtain ⟨σ1, H1, I1, q⟩ := z
      exact ⟨_, H1, inv_ren (X := { X with N := N' }) I1 ren_none, q⟩
    | brk =>
      obtain ⟨σ1, H1, I1, q⟩ := z
      exact ⟨_, H1, inv_ren (X := { X with N := N' }) I1 ren_none, q⟩
    | cont =>
      obtain ⟨σ1, H1, I1, q⟩ := z
      exact ⟨_, H1, inv_ren (X := { X with N := N' }) I1 ren_none, q⟩
    | ret u =>
      obtain ⟨v, σ1, H1, I1, r1, q⟩ := z
      exact ⟨v, _, H1, inv_ren (X := { X with N := N' }) I1 ren_none, r1, q⟩⟩
structure LkC (K : PySem.W.Frag) (C a r k : Addr) (fs : List (Str × V)) : Prop where
  cls : Cls K C
  nr : NoAttr K C "rows"
  nk : NoAttr K C "known"
  lr : fs.lookup ("rows" : Str) = some (V.ref r)
  lk : fs.lookup ("known" : Str) = some (V.ref k)
  lp : fs.lookup ("parted" : Str) = none
  lb : fs.lookup ("best" : Str) = none
  lt : fs.lookup ("tree" : Str) = none
  ak : a ≠ k
  rk : r ≠ k
/-- ns, ir, ik: the slots of self, of its rows, of what it knows -/
structure LkG (ns ir ik : Nat) (C a dx r k : Addr) (fs : List (Str × V)) (od : Obj) (kvs : List (List Key × V)) (σ : St) (H : Hp) : Prop where
  gs : σ[ns]? = some (some (.ref a))
  gr : σ[ir]? = some (some (.ref r))
  gk : σ[ik]? = some (some (.ref k))
  gi : H a = some (.ins C dx fs)
  gz : H r = some (.frz od (.dT kvs))
section
variable {K : PySem.W.Frag} {ns ir ik : Nat} {C a dx r k : Addr} {fs : List (Str × V)} {od : Obj} {kvs : List (List Key × V)} {σ σ' : St} {H H' : Hp} {U : List Nat}
theorem LkG.oa (g : LkG ns ir ik C a dx r k fs od kvs σ H) {b : Addr} (h : OA [ik] σ b) : b = k := by
  obtain ⟨i, hi, e⟩ := h
  rw [List.mem_singleton.mp hi, g.gk] at e
  cases e
  rfl
theorem LkG.keep (g : LkG ns ir ik C a dx r k fs od kvs σ H) (c : LkC K C a r k fs) (kp : Keep [ik] σ H H') : LkG ns ir ik C a dx r k fs od kvs σ H' :=
  ⟨g.gs, g.gr, g.gk, kp.keep _ _ g.gi fun z => c.ak (g.oa z), kp.keep _ _ g.gz fun z => c.rk (g.oa z)⟩
theorem LkG.tr (g : LkG ns ir ik C a dx r k fs od kvs σ H) (c : LkC K C a r k fs) (t : Tr [ik] U σ H σ' H') (h1 : ns ∈ U) (h2 : ir ∈ U) (h3 : ik ∈ U) : LkG ns ir ik C a dx r k fs od kvs σ' H' :=
  ⟨by rw [t.unch _ h1]; exact g.gs, by rw [t.unch _ h2]; exact g.gr, by rw [t.unch _ h3]; exact g.gk, t.keep _ _ g.gi fun z => c.ak (g.oa z), t.keep _ _ g.gz fun z => c.rk (g.oa z)⟩
end
section
variable {X : Cx} {P0 : Pr} {ns ir ik : Nat} {C a dx r k : Addr} {fs : List (Str × V)} {od : Obj} {kvs : List (List Key × V)} {U : List Nat} {E : EK} {XE : XK} {b c e : Expr} {es : List Expr} {ma mb mc : EM} {ms : AM} {bm : BM} {pos : Pos} {st : Stmt} {sts : List Stmt} {m n : SM}
abbrev gE (K : PySem.W.Frag) (P0 : Pr) (G : St → Hp → Prop) (ik : Nat) (E : EK) (m : EM) : TE := fun σ H Q => G σ H ∧ tM K P0 [ik] [ik] E m σ H Q
abbrev gA (K : PySem.W.Frag) (P0 : Pr) (G : St → Hp → Prop) (ik : Nat) (E : EK) (m : AM) : TA := fun σ H Q => G σ H ∧ tMs K P0 [ik] [ik] E m σ H Q
abbrev gT (K : PySem.W.Frag) (P0 : Pr) (G : St → Hp → Prop) (ik : Nat) (E : EK) (m : BM) : TT := fun σ H Q => G σ H ∧ tMt K P0 [ik] [ik] E m σ H Q
abbrev gS (K : PySem.W.Frag) (P0 : Pr) (G : St → Hp → Prop) (ik : Nat) (U : List Nat) (E : EK) (m : SM) : TS := fun D σ H => G σ H ∧ tSt K P0 [ik] [ik] U E m D σ H
/-- what outlasts all steps -/
structure Stb (G : St → Hp → Prop) (ik : Nat) (U : List Nat) : Prop where
  kp : ∀ {σ H H'}, G σ H → Keep [ik] σ H H' → G σ H'
  tr : ∀ {σ H σ' H'} {U' : List Nat}, (∀ i ∈ U, i ∈ U') → G σ H → Tr [ik] U' σ H σ' H' → G σ' H'
theorem LkC.stb {K : PySem.W.Frag} (c : LkC K C a r k fs) (h1 : ns ∈ U := by decide) (h2 : ir ∈ U := by decide) (h3 : ik ∈ U := by decide) : Stb (LkG ns ir ik C a dx r k fs od kvs) ik U := ⟨fun g kp => g.keep c kp, fun hU g t => g.tr c t (hU _ h1) (hU _ h2) (hU _ h3)⟩
variable {G : St → Hp → Prop}
theorem ge_of (h : CEx X P0 [ik] [ik] E e ma) : PE X e (gE X.K P0 G ik E ma) := PE.imp h fun _ _ _ q => q.2
theorem ga_nil : PA X [] (gA X.K P0 G ik E cNil) := PA.imp ca_nil fun _ _ _ q => q.2
theorem ga_cons (s : Stb G ik U) (h : PE X e (gE X.K P0 G ik E ma)) (hs : PA X es (gA X.K P0 G ik E ms)) (hst : starEach (e :: es) X.env = (false, eval e X.env) :: starEach es X.env := by rfl) : PA X (e :: es) (gA X.K P0 G ik E (cCons ma ms)) := PA.imp (pa_cons h hs hst) fun σ H Q ⟨g, ρ, S, h⟩ =>
  ⟨g, ρ, S, h.of_bind.mono fun ⟨h1, ρ1⟩ q v H1 S1 k1 r1 => ⟨s.kp g k1, ρ1, S1, (q.keep k1).of_bind.mono fun ⟨hs, ρ2⟩ q2 vs H2 S2 k2 r2 => q2 _ H2 S2 (k1.trans k2) ⟨v, vs, rfl, r1.keep S1 k2, HdRs.back k1.some r2⟩⟩⟩
theorem ge_lst (h : PA X es (gA X.K P0 G ik E ms)) : PE X (.List es pos) (gE X.K P0 G ik E (cLst ms)) := PE.imp (pe_lst h) fun σ H Q ⟨g, ρ, S, h⟩ =>
  ⟨g, ρ, S, h.of_bind.mono fun ⟨hs, ρ1⟩ q vs H1 S1 k1 r1 => by
    obtain ⟨ds, e1, q⟩ := q.of_nox
    by_cases c : szOk ds.length = true
    · rw [if_pos c] at q
      have rr := HdRs.vs r1 e1
      exact ⟨by rw [rr.length]; exact of_decide_eq_true c, fun p hp => (out_of S1 k1 q).newL S1.dom rr hp⟩
    · rw [if_neg c] at q
      exact q.elim⟩
theorem ge_tup {x1} (h : PA X es (gA X.K P0 G ik E ms)) : PE X (.Tuple es x1 pos) (gE X.K P0 G ik E (cTup ms)) := PE.imp (pe_tup h) fun σ H Q ⟨g, ρ, S, h⟩ =>
  ⟨g, ρ, S, h.of_bind.mono fun ⟨hs, ρ1⟩ q vs H1 S1 k1 r1 => by
    obtain ⟨ds, e1, q⟩ := q.of_nox
    have rr := HdRs.vs r1 e1
    by_cases c : szOk ds.length = true
    · rw [if_pos c] at q
      exact ⟨by rw [rr.length]; exact of_decide_eq_true c, fun p hp => (out_of S1 k1 q).newT S1.dom rr hp⟩
    · rw [if_neg c] at q
      exact q.elim⟩
theorem gs_one (h : PS X st (gS X.K P0 G ik U E m)) : PSs X [st] (gS X.K P0 G ik U E m) := pss_one h
theorem gs_cons (s : Stb G ik U) (h : PS X st (gS X.K P0 G ik U E m)) (h2 : PSs X sts (gS X.K P0 G ik U E n)) : PSs X (st :: sts) (gS X.K P0 G ik U E (sSeq m n)) := PSs.imp (pss_cons h h2) fun D σ H ⟨g, ρ, S, h⟩ =>
  ⟨g, ρ, S, h.of_bind.mono fun ⟨f, ρ1⟩ q σ1 H1 S1 t1 l1 => by
    cases f with
    | nx =>
      refine ⟨s.tr (fun _ z => z) g t1, ρ1, S1, (Res.keepT (show Res E [ik] σ H (n ρ1) _ from q) t1).mono fun ⟨f2, ρ2⟩ q2 σ2 H2 S2 t2 l2 => ?_⟩
      have q3 := q2 σ2 H2 S2 (t1.trans t2) (l2.trans l1)
      cases f2 with
      | nx => exact q3
      | bk => exact q3
      | ct => exact q3
      | rt hd => exact fun v r => q3 v (r.back t1.some)
    | bk => exact q σ1 H1 S1 t1 l1
    | ct => exact q σ1 H1 S1 t1 l1
    | rt hd => exact q σ1 H1 S1 t1 l1⟩
theorem gs_if (s : Stb G ik U) {xs : List Stmt} (hc : PT X c (gT X.K P0 G ik E bm)) (h1 : PSs X xs (gS X.K P0 G ik U E m)) : PS X (.If c xs [] pos) (gS X.K P0 G ik U E (sIf bm m sSkip)) := PS.imp (ps_if hc h1 (cs_nil (U := U) (E := E))) fun D σ H ⟨g, ρ, S, h⟩ =>
  ⟨g, ρ, S, (h.of_bind.down S.sub).mono fun ⟨k, ρ1⟩ q H1 S1 k1 => by
    have q : Res E [ik] σ H ((if k = true then m ρ1 else sSkip ρ1)) _ := q
    cases k with
    | true => exact (if_pos rfl).mpr ⟨s.kp g k1, ρ1, S1, (Res.keepT q (Tr.of (U := U) S.sub k1)).mono fun ⟨f2, ρ2⟩ q2 σ2 H2 S2 t2 l2 => (q2 σ2 H2 S2 ((Tr.of S.sub k1).trans t2) l2).back fun b e => k1.some b e⟩
    | false => exact (if_neg Bool.false_ne_true).mpr ⟨ρ1, S1, (Res.keepT q (Tr.of (U := U) S.sub k1)).mono fun ⟨f2, ρ2⟩ q2 σ2 H2 S2 t2 l2 => (q2 σ2 H2 S2 ((Tr.of S.sub k1).trans t2) l2).back fun b e => k1.some b e⟩⟩
theorem gt_of (h : CT X P0 [ik] [ik] E c bm) : PT X c (gT X.K P0 G ik E bm) := PT.imp h fun _ _ _ q => q.2
theorem gs_asg {tg : Expr} {tm : GM} {is : List Nat} (h : PE X e (gE X.K P0 G ik E ma)) (hg : CG X P0 [ik] [ik] tg tm is) (ho : ∀ i ∈ is, i ∉ [ik] := by decide) (hu : ∀ i ∈ is, i ∉ U := by decide) (hs : swapsWithSole [tg] e pos.line X.env = pure false := by rfl) (hw : swappedStores [tg] e X.env = pure none := by rfl) (h1 : (assignEach [tg] X.env).map (·.2) = [assign tg X.env] := by rfl) : PS X (.Assign [tg] e pos) (gS X.K P0 G ik U E (sAsg ma tm)) :=
  PS.imp (ps_asg h hg hs hw h1) fun D σ H ⟨g, ρ, S, h⟩ => by
    refine ⟨g, ρ, S, (h.of_bind.down S.sub).mono fun ⟨hd, ρ1⟩ q v H1 S1 k1 r1 => ?_⟩
    obtain ⟨d, e1, q⟩ := q.of_nox
    obtain ⟨ρ2, e2, q⟩ := q.of_nox
    exact ⟨ρ1, d, ρ2, S1, r1.v e1, e2, fun σ' S' l h' => q σ' H1 S' ((Tr.of S.sub k1).trans ⟨fun _ _ e _ => e, fun _ e => e, fun b z => .inl ((OA_of (fun i hi => h' i fun y => ho i y hi) b).mp z), fun j hj => h' j fun y => hu j y hj⟩) l⟩
theorem gs_ret (h : PE X e (gE X.K P0 G ik E ma)) : PS X (.Return (some e) pos) (gS X.K P0 G ik U E (sRet ma)) := PS.imp (ps_ret h) fun D σ H ⟨g, ρ, S, h⟩ =>
  ⟨g, ρ, S, (h.of_bind.down S.sub).mono fun ⟨hd, ρ1⟩ q v H1 S1 k1 r1 => q σ H1 S1 (Tr.of S.sub k1) rfl v r1⟩
end
end Y

set_option Elab.async false
set_option linter.all false
set_option maxRecDepth 100000
namespace Y
open PySem PySem.Spec PyProof.Rows L2
section
variable {X : Cx} {P0 : Pr} {ns ir ik : Nat} {U : List Nat} {E : EK} {a b c e iter tg : Expr} {es : List Expr} {ma mb mk mc : EM} {ms : AM} {bm : BM} {pos : Pos} {st : Stmt} {sts : List Stmt} {m n : SM} {G : St → Hp → Prop}
abbrev gI (K : PySem.W.Frag) (P0 : Pr) (G : St → Hp → Prop) (ik : Nat) (E : EK) (m : IM) : TI := fun σ H R => G σ H ∧ tMi K P0 [ik] [ik] E m σ H R
theorem gi_of {im : IM} (h : CI X P0 [ik] [ik] E tg e im) : PI X tg e (gI X.K P0 G ik E im) := PI.imp h fun _ _ _ q => q.2
theorem ge_dget (s : Stb G ik U) (hu : X.A.units + 1 < cLine) (ha : PE X a (gE X.K P0 G ik E ma)) (hb : PE X b (gE X.K P0 G ik E mb)) (hs : NoSl b := by intro _ _; rfl) : PE X (.Subscript a b pos) (gE X.K P0 G ik E (cDGet ma mb)) := PE.imp (pe_dget hu ha hb hs) fun σ H Q ⟨g, ρ, S, h⟩ => by
  refine ⟨g, ρ, S, h.of_bind.mono fun ⟨h1, ρ1⟩ q x H1 S1 k1 r1 => ⟨s.kp g k1, ρ1, S1, (q.keep k1).of_bind.mono fun ⟨h2, ρ2⟩ q2 y H2 S2 k2 r2 => ?_⟩⟩
  obtain ⟨dx, e1, q3⟩ := q2.of_nox
  obtain ⟨dy, e2, q4⟩ := q3.of_nox
  obtain ⟨o, e3, q5⟩ := q4.of_nox
  have rx := (r1.keep S1 k2).d S2 e1
  have ry := r2.d S2 e2
  obtain ⟨c, r, rfl, g, _, f⟩ := getDic_rep rx ry e3
  cases o with
  | none => exact q5.elim
  | some z =>
    obtain ⟨v, rfl, rv⟩ := f z rfl
    exact ⟨c, v, rfl, g, q5 v H2 S2 (k1.trans k2) rv⟩
theorem gt_dnin (s : Stb G ik U) (hu : X.A.units + 1 < cLine) (hb : PE X b (gE X.K P0 G ik E mb)) (ha : PE X a (gE X.K P0 G ik E ma)) (hm : behindInMarks .NotIn a = false := by rfl) : PT X (.Compare b [.NotIn] [a] pos) (gT X.K P0 G ik E (cBl (cDIn true mb ma))) := PT.imp (pt_cmp (pc_dnotin hu hb ha) hm) fun σ H Q ⟨g, h⟩ => by
  obtain ⟨ρ, S, h⟩ := tM_bl σ H Q h
  refine ⟨g, ρ, S, h.of_bind.mono fun ⟨h2, ρ1⟩ q y H1 S1 k1 r2 => ⟨s.kp g k1, ρ1, S1, (q.keep k1).of_bind.mono fun ⟨h1, ρ2⟩ q2 x H2 S2 k2 r1 => ?_⟩⟩
  obtain ⟨dx, e1, q3⟩ := q2.of_nox
  obtain ⟨dy, e2, q4⟩ := q3.of_nox
  obtain ⟨o, e3, q5⟩ := q4.of_nox
  have rx := r1.d S2 e1
  have ry := (r2.keep S1 k2).d S2 e2
  obtain ⟨c, r, rfl, g, i, _⟩ := getDic_rep rx ry e3
  refine ⟨c, r, rfl, g, ?_⟩
  rw [i]
  exact (out_of (K := X.K) S2 (k1.trans k2) q5).bl
theorem ge_ix (s : Stb G ik U) (ha : PE X a (gE X.K P0 G ik E ma)) (hb : PE X b (gE X.K P0 G ik E mb)) (hs : PlainIx b := by intro _ _; rfl) : PE X (.Subscript a b pos) (gE X.K P0 G ik E (cIx ma mb)) := PE.imp (pe_ix ix_seq ha hb hs) fun σ H Q ⟨g, ρ, S, h⟩ => by
  refine ⟨g, ρ, S, h.of_bind.mono fun ⟨h1, ρ1⟩ q x H1 S1 k1 r1 => ⟨s.kp g k1, ρ1, S1, (q.keep k1).of_bind.mono fun ⟨h2, ρ2⟩ q2 y H2 S2 k2 r2 => ?_⟩⟩
  obtain ⟨dx, e1, q3⟩ := q2.of_nox
  obtain ⟨dy, e2, q4⟩ := q3.of_nox
  obtain ⟨dz, e3, q5⟩ := q4.of_nox
  have rx := (r1.keep S1 k2).d S2 e1
  have ry := r2.d S2 e2
  have fin : ∀ v, Rep X.K H2 dz (FA P0 [ik] σ) v → Q v H2 := fun v r => q5 v H2 S2 (k1.trans k2) r
  unfold ixD at e3
  split at e3
  · split at e3
    · split at e3
      · rename_i c' hc z; cases e3
        obtain rfl := rx.str
        obtain rfl := ry.int
        exact .inr (.inr ⟨_, _, _, rfl, rfl, of_decide_eq_true z, hc, fin _ (by unfold Rep; rfl)⟩)
      · cases e3
    · cases e3
  · split at e3
    · rename_i d hd; cases e3
      obtain ⟨p, vs, rfl, t1, t2⟩ := rx.tup
      obtain rfl := ry.int
      obtain ⟨v, e4, r4⟩ := t2.atI hd
      exact .inr (.inl ⟨p, vs, _, v, rfl, rfl, SqT.of t1, e4, fin v r4⟩)
    · cases e3
  · split at e3
    · rename_i d hd; cases e3
      obtain ⟨p, vs, rfl, t1, t2⟩ := rx.lst
      obtain rfl := ry.int
      obtain ⟨v, e4, r4⟩ := t2.atI hd
      exact .inl ⟨p, vs, _, v, rfl, rfl, SqL.of t1, e4, fin v r4⟩
    · cases e3
  · split at e3
    · rename_i d hd; cases e3
      obtain ⟨p, rfl, t1⟩ := rx.arg
      obtain rfl := ry.int
      exact .inl ⟨p, _, _, _, rfl, rfl, t1, ints_atI hd, fin _ (by unfold Rep; rfl)⟩
    · cases e3
  · split at e3
    · rename_i d hd; cases e3
      obtain ⟨p, vs, o, rfl, t1, _, t2⟩ := rx.ftu
      obtain rfl := ry.int
      obtain ⟨v, e4, r4⟩ := t2.atI hd
      exact .inr (.inl ⟨p, vs, _, v, rfl, rfl, SqT.fz t1, e4, fin v r4⟩)
    · cases e3
  · cases e3
theorem gs_expr (h : PE X e (gE X.K P0 G ik E ma)) (hs : swapsWith e none pos.line X.env = pure false := by rfl) : PS X (.Expr e pos) (gS X.K P0 G ik U E (sExpr ma)) := PS.imp (ps_expr h hs) fun D σ H ⟨g, ρ, S, h⟩ =>
  ⟨g, ρ, S, (h.of_bind.down S.sub).mono fun ⟨hd, ρ1⟩ q v H1 S1 k1 r1 => q σ H1 S1 (Tr.of S.sub k1) rfl⟩
theorem gs_for (s : Stb G ik U) {im : IM} {tm : GM} {is vs : List Nat} {xs : List Stmt} (hp : PassesOwn (model X.prog X.w) X.A X.env X.xe) (hc : X.calm = true) (hi : PI X tg iter (gI X.K P0 G ik E im)) (hg : CG X P0 [ik] [ik] tg tm is) (hb : PSs X xs (gS X.K P0 G ik U E m)) (ho : ∀ i ∈ is, i ∉ [ik] := by decide) (hu : ∀ i ∈ U, i ∉ is := by decide)
    (hs : ∀ x, foldedSetIterable iter X.env x = pure x := by intro _; rfl) : PS X (.For tg iter xs [] pos) (gS X.K P0 G ik U E (sFor U im tm m vs)) := PS.imp (ps_for hp hc hi hg hb hs) fun D σ H ⟨g, ρ, S, h⟩ => by
  refine ⟨g, ρ, S, (h.of_bind.down S.sub).mono fun ⟨⟨ds, ws⟩, ρ1⟩ q J H1 Ok S1 k1 src ok hz => ?_⟩
  have src : Src X.K [ik] [ik] ds ws J Ok := src
  have q : Res E [ik] σ H (if (ws.all fun w => U.contains w) = true then forL tm m vs ws ds ρ1 else .stk) _ := q
  by_cases hw : (ws.all fun w => U.contains w) = true
  · rw [if_pos hw] at q
    have hw : ∀ w ∈ ws, w ∈ U := fun w hw' => by simpa using List.all_eq_true.mp hw w hw'
    have t1 : Tr [ik] U σ H σ H1 := Tr.of S.sub k1
    let Post : Fl × Env → Prop := fun a => ∀ σ' H', Sim X.K P0 [ik] [ik] a.2 σ' H' → Tr [ik] U σ H σ' H' → σ'.length = σ.length → Fin X.K P0 [ik] H D σ' H' a.1
    let I : Nat → L2.St → Hp → Prop := fun i σx Hx => i ≤ ds.length ∧ ∃ ρx, Sim X.K P0 [ik] [ik] ρx σx Hx ∧ Ok P0 ρx σx Hx ∧ Tr [ik] U σ H σx Hx ∧ σx.length = σ.length ∧ Res E [ik] σx Hx (forL tm m vs ws (ds.drop i) ρx) Post
    refine ⟨fun i k σx Hx => k = ds.length - i ∧ I i σx Hx, ⟨ds.length, by simp, Nat.zero_le _, ρ1, S1, ok, t1, rfl, Res.keepT (show Res E [ik] σ H (forL tm m vs ws ds ρ1) Post from q) t1⟩, ?_⟩
    rintro i k σx Hx ⟨rfl, hil, ρx, Sx, okx, tx, lx, qx⟩
    by_cases hlt : i < ds.length
    · right
      refine ⟨src.go P0 i ρx σx Hx Sx okx hlt, I (i + 1), fun σ' H' p' => ⟨ds.length - (i + 1), by omega, rfl, p'⟩, fun x' H' y => ?_⟩
      obtain ⟨sm, rx⟩ := src.yld P0 i ρx σx Hx x' H' ds[i] Sx okx (List.getElem?_eq_getElem hlt) y
      rw [List.drop_eq_getElem_cons hlt] at qx
      unfold forL at qx
      obtain ⟨ρa, e1, qx⟩ := qx.of_nox
      refine ⟨ρx, ds[i], ρa, Sx.same sm, rx, e1, fun σ2 S2 l2 ag => ?_⟩
      have t2 : Tr [ik] U σx Hx σ2 H' := Tr.trans (σ1 := σx) (H1 := H') ⟨fun b o e _ => sm b o e, Same.some sm, fun _ z => .inl z, fun _ _ => rfl⟩ ⟨fun _ _ e _ => e, fun _ e => e, fun b z => .inl ((OA_of (fun i hi => ag i fun y => ho i y hi) b).mp z), fun j hj => ag j fun y => hu j hj y⟩
      refine ⟨s.tr (fun _ z => z) g (tx.trans t2), ρa, S2, (Res.keepT qx.of_bind t2).mono fun ⟨f, ρ2⟩ q3 σ3 H3 S3 t3 l3 => ?_⟩
      have t4 : Tr [ik] U σx Hx σ3 H3 := t2.trans t3
      have t5 : Tr [ik] U σ H σ3 H3 := tx.trans t4
      have l5 : σ3.length = σ.length := l3.trans (l2.trans lx)
      have next : Res E [ik] σx Hx (do let _ ← (chk ws ρx (wipeE ρ2 vs)).nox; forL tm m vs ws (ds.drop (i + 1)) (wipeE ρ2 vs)) Post → I (i + 1) σ3 H3 := fun q4 => by
        obtain ⟨_, e4, q5⟩ := Res.of_nox (show Res E [ik] σx Hx ((chk ws ρx (wipeE ρ2 vs)).nox >>= fun _ => forL tm m vs ws (ds.drop (i + 1)) (wipeE ρ2 vs)) Post from q4)
        refine ⟨hlt, wipeE ρ2 vs, S3.wipe vs, ?_, t5, l5, Res.keepT q5 t4⟩
        refine src.keep P0 ρx σx Hx _ σ3 H3 Sx (fun b o e n => t4.keep b o e fun z => n (.inr z)) (fun b z => ?_) (fun w hw' => ⟨t4.unch w (hw w hw'), chk_ok e4 w hw'⟩) okx
        rcases z with z | z
        · exact .inl (.inl z)
        · exact (t4.own b z).imp .inr id
      cases f with
      | nx => exact next q3
      | ct => exact next q3
      | bk => exact q3 σ3 H3 S3 t5 l5
      | rt hd =>
        intro v r
        exact q3 σ3 H3 S3 t5 l5 v (r.back fun b e => Same.some sm b (tx.some b e))
    · left
      have ei : i = ds.length := by omega
      subst ei
      rw [List.drop_length] at qx
      exact ⟨src.stop P0 ρx σx Hx Sx okx, qx σx Hx Sx tx lx⟩
  · rw [if_neg hw] at q
    exact q.elim
end
structure isS (X : Cx) (ns : Nat) : Prop where
  hx : X.N[ns]? = some ("self" : Str)
  hv : Vis X.env.scope ("self" : Str)
/-- the keys of the dict in slot i -/
def cKeysG (i : Nat) : IM := fun ρ => do
  let d ← (look i ρ).nox
  match d with
  | .dit ks ds => if szOk ks.length = true then pure ((ks.map fun k => D.tup (k.map keyD), []), ρ) else .stk
  | _ => .stk
@[simp] theorem e_keysG {i : Nat} {ρ : Env} : cKeysG i ρ = ((look i ρ).nox >>= fun d => match d with | .dit ks ds => if szOk ks.length = true then R.ok ((ks.map fun k => D.tup (k.map keyD), []), ρ) else .stk | _ => .stk) := by
  unfold cKeysG; congr
section
variable {X : Cx} {P0 : Pr} {ns ir ik : Nat} {C a dx r k : Addr} {fs : List (Str × V)} {od : Obj} {kvs : List (List Key × V)} {U : List Nat} {E : EK} {e key tg : Expr} {ma mk : EM} {pos p ap : Pos}
theorem pe_known (c : LkC X.K C a r k fs) (q : isS X ns) (hb : attributeBase (.Name "self" p) "known" X.env (eval (.Name "self" p) X.env) = eval (.Name "self" p) X.env := by rfl) :
    PE X (.Attribute (.Name "self" p) "known" ap) (fun σ H Q => LkG ns ir ik C a dx r k fs od kvs σ H ∧ Q (.ref k) H) := PE.imp (pe_fld (pe_var (i := ns) q.hx q.hv) hb) fun σ H Q ⟨g, h⟩ =>
  ⟨_, g.gs, a, C, dx, fs, _, rfl, g.gi, c.cls, c.nk, c.lk, h⟩
theorem pe_rows (c : LkC X.K C a r k fs) (q : isS X ns) (hb : attributeBase (.Name "self" p) "rows" X.env (eval (.Name "self" p) X.env) = eval (.Name "self" p) X.env := by rfl) :
    PE X (.Attribute (.Name "self" p) "rows" ap) (fun σ H Q => LkG ns ir ik C a dx r k fs od kvs σ H ∧ Q (.ref r) H) := PE.imp (pe_fld (pe_var (i := ns) q.hx q.hv) hb) fun σ H Q ⟨g, h⟩ =>
  ⟨_, g.gs, a, C, dx, fs, _, rfl, g.gi, c.cls, c.nr, c.lr, h⟩
theorem ge_known (c : LkC X.K C a r k fs) (q : isS X ns) (hb : attributeBase (.Name "self" p) "known" X.env (eval (.Name "self" p) X.env) = eval (.Name "self" p) X.env := by rfl) :
    PE X (.Attribute (.Name "self" p) "known" ap) (gE X.K P0 (LkG ns ir ik C a dx r k fs od kvs) ik E (cOwn ik)) := PE.imp (pe_known (ir := ir) (ik := ik) c q hb) fun σ H Q ⟨g, ρ, S, h⟩ => by
  obtain ⟨d, e, h⟩ := h.of_nox
  exact ⟨g, h _ H S .refl ⟨List.mem_singleton.mpr rfl, g.gk⟩⟩
theorem ge_rows (hir : ir ≠ ik) (c : LkC X.K C a r k fs) (q : isS X ns) (hb : attributeBase (.Name "self" p) "rows" X.env (eval (.Name "self" p) X.env) = eval (.Name "self" p) X.env := by rfl) :
    PE X (.Attribute (.Name "self" p) "rows" ap) (gE X.K P0 (LkG ns ir ik C a dx r k fs od kvs) ik E (cVar ir)) := PE.imp (pe_rows (ir := ir) (ik := ik) c q hb) fun σ H Q ⟨g, ρ, S, h⟩ => by
  obtain ⟨d, e, h⟩ := h.of_nox
  obtain ⟨v, h1, h2⟩ := S.val ir d (look_some e) fun z => hir (List.mem_singleton.mp z)
  rw [g.gr] at h1
  cases h1
  exact ⟨g, h _ H S .refl h2⟩
theorem gi_rows (hir : ir ≠ ik) (c : LkC X.K C a r k fs) (q : isS X ns) (hb : attributeBase (.Name "self" p) "rows" X.env (eval (.Name "self" p) X.env) = eval (.Name "self" p) X.env := by rfl) :
    PI X tg (.Attribute (.Name "self" p) "rows" ap) (gI X.K P0 (LkG ns ir ik C a dx r k fs od kvs) ik E (cKeysG ir)) := by
  refine ⟨fun pins s σ H RR I ⟨g, ρ, S, h⟩ => ?_⟩
  refine thn ((pe_rows (ir := ir) (ik := ik) c q hb).run pins s σ H (fun v H1 => v = .ref r ∧ H1 = H) I ⟨g, rfl, rfl⟩) fun xv s1 ⟨v, H1, I1, r1, e1, e2⟩ => ?_
  subst e1 e2
  obtain rfl : xv = Value.ref r := r1
  obtain ⟨d, e, h⟩ := Res.of_nox (show Res E [ik] σ H1 ((look ir ρ).nox >>= _) _ from h)
  cases d with
  | dit ks ds =>
    have h : Res E [ik] σ H1 (if szOk ks.length = true then (R.ok ((ks.map fun k => D.tup (k.map keyD), []), ρ) : R ((List D × List Nat) × Env)) else .stk) _ := h
    by_cases cc : szOk ks.length = true
    · rw [if_pos cc] at h
      obtain ⟨v, h1, h2⟩ := S.val ir _ (look_some e) fun z => hir (List.mem_singleton.mp z)
      rw [g.gr] at h1
      cases h1
      unfold Rep at h2
      obtain ⟨a', vs, ea, na, hl, rd, rs⟩ := h2
      cases ea
      obtain ⟨od', e2⟩ : ∃ od' : Obj, H1 r = some (.frz od' (.dT (ks.zip vs))) := by
        rcases rd with rd | ⟨od', rd⟩
        · rw [g.gz] at rd; cases rd
        · exact ⟨od', rd⟩
      obtain ⟨hs, hgd, hx, es, ep, hdt, hsz, ent⟩ := I1.frzT e2
      refine iter_keys hs hgd hx hdt (pi_one (tk := s1.toks) I1 _ (turn_keysT _ hdt) ⟨_, Heap.get?_push_size _ rfl, rfl, ?_⟩ (h _ H1 _ S .refl (src_keysT hl) ⟨e2, na⟩ (by rw [List.length_map]; exact of_decide_eq_true cc)))
      rw [hsz] <;> rfl
    · rw [if_neg cc] at h; exact h.elim
  | _ => exact h.elim
theorem gs_dput (s : Stb (LkG ns ir ik C a dx r k fs od kvs) ik U) (c : LkC X.K C a r k fs) (q : isS X ns) {sp : Pos} (hu : X.A.units + 1 < cLine) (h : PE X e (gE X.K P0 (LkG ns ir ik C a dx r k fs od kvs) ik E ma)) (hk : PE X key (gE X.K P0 (LkG ns ir ik C a dx r k fs od kvs) ik E mk))
    (hb : attributeBase (.Name "self" p) "known" X.env (eval (.Name "self" p) X.env) = eval (.Name "self" p) X.env := by rfl)
    (hs : swapsWith e (some (.Subscript (.Attribute (.Name "self" p) "known" ap) key sp)) pos.line X.env = pure false := by rfl) :
    PS X (.Assign [.Subscript (.Attribute (.Name "self" p) "known" ap) key sp] e pos) (gS X.K P0 (LkG ns ir ik C a dx r k fs od kvs) ik U E (sDPutS ik mk ma)) := PS.imp (ps_dput hu (pe_known (ns := ns) (ir := ir) (ik := ik) (dx := dx) (od := od) (kvs := kvs) c q hb) hk h hs) fun D σ H ⟨g, ρ, S, h⟩ => by
  refine ⟨g, ρ, S, (h.of_bind.down S.sub).mono fun ⟨hd, ρ1⟩ q v H1 S1 k1 r1 => ?_⟩
  obtain ⟨d, e1, q1⟩ := q.of_nox
  obtain ⟨x0, e0, q2⟩ := q1.of_nox
  have hi : ik ∈ [ik] := List.mem_singleton.mpr rfl
  have h1 := g.gk
  have g1 := s.kp g k1
  refine ⟨g1, g1, ρ1, S1, ((q2.of_bind.down S1.sub).keep k1).mono fun ⟨hd2, ρ2⟩ q3 w H2 S2 k2 r2 => ?_⟩
  obtain ⟨dk, e2, q4⟩ := q3.of_nox
  obtain ⟨x1, e3, q5⟩ := Res.of_nox (show Res E [ik] σ H ((dicAt ik ρ2).nox >>= _) _ from q4)
  obtain ⟨z, e4, q6⟩ := Res.of_nox (show Res E [ik] σ H ((putDic x1 dk d).nox >>= _) _ from q5)
  have rk := r2.v e2
  have rv := S1.rep k2 (r1.v e1)
  obtain ⟨v1, g1, g2⟩ := S2.own ik x1 (dicAt_ok e3) hi
  rw [h1] at g1
  cases g1
  have pa : FA P0 [ik] σ k := .inr ⟨ik, hi, h1⟩
  have up : ∀ (o : HO) b u, H2 b = some u → ¬ FA P0 [ik] σ b → upd H2 k o b = some u := fun o b u e n => by rw [upd_ne fun z => n (by rw [z]; exact pa)]; exact e
  unfold putDic at e4
  split at e4
  · rename_i ks ds
    obtain ⟨a, vs, ea, hl, hH, rs⟩ := g2
    cases ea
    cases qk : keyOf dk with
    | none => rw [qk] at e4; cases e4
    | some kk =>
      rw [qk] at e4
      simp only at e4
      split at e4
      · rename_i zs
        cases e4
        obtain ⟨pz, pl⟩ := put_zip (k := kk) (v := v) hl
        have ew : w = kV kk := keyOf_rep (rk.weak S2.dom) qk
        subst ew
        refine ⟨k, _, rfl, DPut.k hH (by rw [List.length_zip, ← hl, Nat.min_self]; exact of_decide_eq_true zs), ?_⟩
        rw [pz]
        exact q6 σ _ (S2.ownW hi h1 trivial ⟨k, _, rfl, pl, upd_same, (put_reps rv rs hl).mono _ S2.dom (up _) fun b z => .inl z⟩) (Tr.ownW S.sub (k1.trans k2) hi h1) rfl
      · cases e4
  · rename_i ks ds ys
    obtain ⟨a, vs, ea, hl, hH, rs⟩ := g2
    cases ea
    cases qk : keysOf ys with
    | none => rw [qk] at e4; cases e4
    | some kk =>
      rw [qk] at e4
      simp only at e4
      split at e4
      · rename_i zs
        cases e4
        obtain ⟨pz, pl⟩ := put_zip (k := kk) (v := v) hl
        unfold Rep at rk
        obtain ⟨b, us, rfl, b1, b2⟩ := rk
        have eu := keysOf_rep b2 qk
        subst eu
        refine ⟨k, _, rfl, DPut.t hH b1 (by rw [List.length_zip, ← hl, Nat.min_self]; exact of_decide_eq_true zs), ?_⟩
        rw [pz]
        exact q6 σ _ (S2.ownW hi h1 trivial ⟨k, _, rfl, pl, upd_same, (put_reps rv rs hl).mono _ S2.dom (up _) fun b z => .inl z⟩) (Tr.ownW S.sub (k1.trans k2) hi h1) rfl
      · cases e4
  · cases e4
end
end Y

set_option Elab.async false
set_option linter.all false
set_option maxRecDepth 100000
namespace Y
open PySem PySem.Spec PyProof.Rows L2
section
variable {K : PySem.W.Frag} {mg : Str → Option Value} {P0 : Pr} {O Oc W U : List Nat} {ρ : Env} {σ σ0 : St} {H H' : Hp} {d : D} {v : V} {np n : Nat} {vs : List V} {ds : List D}
/-- the slots at the start: the arguments, no own one else -/
structure StAt (σ0 : St) (vs : List V) (np : Nat) (Oc : List Nat) (n : Nat) : Prop where
  pre : ∀ (i : Nat) (v : V), i < np → (σ0[i]? = some (some v) ↔ vs[i]? = some v)
  emp : ∀ i ∈ Oc, ∀ v : V, np ≤ i → σ0[i]? ≠ some (some v)
  long : np + (n - np) ≤ σ0.length
theorem OA_at (A : StAt σ0 vs np Oc n) (hO : ∀ i, i ∈ O ↔ i ∈ Oc ∧ i < np) (hl : vs.length = np) (b : Addr) : OA Oc σ0 b ↔ OA O (vs.map some) b := by
  constructor
  · rintro ⟨i, hi, e⟩
    by_cases c : i < np
    · exact ⟨i, (hO i).mpr ⟨hi, c⟩, map_get.mpr ((A.pre i _ c).mp e)⟩
    · exact absurd e (A.emp i hi _ (by omega))
  · rintro ⟨i, hi, e⟩
    exact ⟨i, ((hO i).mp hi).1, (A.pre i _ ((hO i).mp hi).2).mpr (map_get.mp e)⟩
theorem sim_at (A : StAt σ0 vs np Oc n) (S : Sim K P0 O [] (ds.map some) (vs.map some) H) (hO : ∀ i, i ∈ O ↔ i ∈ Oc ∧ i < np) (hW : ∀ i ∈ W, i ∈ Oc) (hl : vs.length = np) (hd : ds.length = np) : Sim K P0 Oc W (ds.map some ++ List.replicate (n - np) none) σ0 H := by
  have fa : ∀ b, FA P0 Oc σ0 b → FA P0 O (vs.map some) b := fun b z => z.imp id (OA_at A hO hl b).mp
  have up : ∀ {i : Nat} {v : V}, (vs.map some)[i]? = some (some v) → σ0[i]? = some (some v) := fun {i v} e => by
    have e := map_get.mp e
    exact (A.pre i v (by rw [← hl]; exact (List.getElem?_eq_some_iff.mp e).1)).mpr e
  have dn : ∀ {i : Nat} {a : Addr}, i ∈ Oc → σ0[i]? = some (some (.ref a)) → i < np ∧ (vs.map some)[i]? = some (some (.ref a)) := fun {i a} hi e => by
    by_cases c : i < np
    · exact ⟨c, map_get.mpr ((A.pre i _ c).mp e)⟩
    · exact absurd e (A.emp i hi _ (by omega))
  refine ⟨hW, by simpa [hd] using A.long, fun b z => S.dom b (fa b z), fun i d e n => ?_, fun i d e n => ?_, fun i j a hi hj e1 e2 => ?_, fun a z => S.sep0 a ((OA_at A hO hl a).mp z)⟩
  · obtain ⟨v, h1, h2⟩ := S.val i d (map_get.mpr (env_get e)) fun z => n ((hO i).mp z).1
    exact ⟨v, up h1, h2.less S.dom fa⟩
  · have e := env_get e
    have hi : i < np := by rw [← hd]; exact (List.getElem?_eq_some_iff.mp e).1
    obtain ⟨v, h1, h2⟩ := S.own i d (map_get.mpr e) ((hO i).mpr ⟨n, hi⟩)
    exact ⟨v, up h1, h2.less S.dom fa⟩
  · obtain ⟨l1, e1⟩ := dn hi e1
    obtain ⟨l2, e2⟩ := dn hj e2
    exact S.sep i j a ((hO i).mpr ⟨hi, l1⟩) ((hO j).mpr ⟨hj, l2⟩) e1 e2
/-- from the promise to the body -/
theorem tSt_at {m : SM} {Q : VK} {E : XK} (A : StAt σ0 vs np Oc n) (hO : ∀ i, i ∈ O ↔ i ∈ Oc ∧ i < np) (hW : ∀ i ∈ W, i ∈ Oc) (hU : ∀ i ∈ O, i ∈ U) (h : spD K mg np O (fnD np n O m) vs H Q E) : ∃ P0, tSt K P0 Oc W U (exE mg E) m { nx := fun _ H' => Q .non H', rt := Q } σ0 H := by
  obtain ⟨hl, ds, P0, S0, hd, h⟩ := h
  refine ⟨P0, _, sim_at A S0 hO hW hl hd, ?_⟩
  have oa := fun b => OA_at A hO hl b
  have kO : ∀ {H'}, Keep Oc σ0 H H' → Keep O (vs.map some) H H' := fun {H'} k => ⟨fun b o e nn => k.keep b o e fun z => nn ((oa b).mp z), k.some⟩
  unfold fnD at h
  cases em : m (ds.map some ++ List.replicate (n - np) none) with
  | stk => rw [em] at h; exact h.elim
  | er c xs => rw [em] at h; exact fun H' kp => h H' (kO kp)
  | ok p =>
    obtain ⟨fl, ρ1⟩ := p
    rw [em] at h
    obtain ⟨hh, e1, h⟩ := Res.of_nox (show Res (exE mg E) O (vs.map some) H ((retH np fl ρ1).nox >>= _) _ from h)
    intro σ' H' S' t' l'
    have h : ∀ v H', Keep O (vs.map some) H H' → Sim K P0 O [] (outs O np ρ1) (vs.map some) H' → HdR K P0 O H (vs.map some) H' hh v → Q v H' := h
    have un : ∀ i ∈ O, σ'[i]? = σ0[i]? := fun i hi => t'.unch i (hU i hi)
    have pre : ∀ {i : Nat} {v : V}, i ∈ O → (σ'[i]? = some (some v) ↔ (vs.map some)[i]? = some (some v)) := fun {i v} hi => by
      rw [un i hi]
      exact (A.pre i v ((hO i).mp hi).2).trans map_get.symm
    have oO : ∀ b, OA O (vs.map some) b → OA Oc σ' b := fun b ⟨i, hi, e⟩ => ⟨i, ((hO i).mp hi).1, (pre hi).mpr e⟩
    have fa : ∀ b, FA P0 O (vs.map some) b → FA P0 Oc σ' b := fun b z => z.imp id (oO b)
    have kk : Keep O (vs.map some) H H' := ⟨fun b o e nn => t'.keep b o e fun z => nn ((oa b).mp z), t'.some⟩
    have so : Sim K P0 O [] (outs O np ρ1) (vs.map some) H' := by
      refine ⟨fun _ z => (nomatch z), by unfold outs; simp [hl], fun b z => S'.dom b (fa b z), fun i d e nn => absurd (outs_get e).1 nn, fun i d e hi => ?_, S0.sep, S0.sep0⟩
      obtain ⟨_, _, e2⟩ := outs_get e
      obtain ⟨v, h1, h2⟩ := S'.own i d e2 ((hO i).mp hi).1
      exact ⟨v, (pre hi).mp h1, h2.less S'.dom fa⟩
    cases fl with
    | bk => cases e1
    | ct => cases e1
    | nx => cases e1; exact h .non H' kk so ⟨by unfold Rep; rfl, fun z => by cases z⟩
    | rt hd' =>
      intro v r
      cases hd' with
      | fr d => cases e1; exact h v H' kk so ⟨r.1.less S'.dom fa, r.2⟩
      | vl d => cases e1; exact h v H' kk so (Rep.less S'.dom r fa)
      | ow i =>
        have e1 : (if np ≤ i then (do
          let d ← (look i ρ1).nox
          pure (Hd.fr d)) else .stk) = R.ok hh := e1
        by_cases hi : np ≤ i
        · rw [if_pos hi] at e1
          obtain ⟨d, e2, e1⟩ := R.ok_of e1
          cases e1
          have e2 := look_some (R.nox_of e2)
          obtain ⟨v', h1, h2⟩ := S'.own i d e2 r.1
          have q : σ'[i]? = some (some v) := r.2
          rw [q] at h1
          cases h1
          have no : ∀ a, v = .ref a → ¬ OA O (vs.map some) a := fun a e z => by
            obtain ⟨j, hj, ej⟩ := z
            have := S'.sep i j a r.1 ((hO j).mp hj).1 (by rw [q, e]) ((pre hj).mpr ej)
            have := ((hO j).mp hj).2
            omega
          refine h v H' kk so ⟨h2.rep S'.dom fa fun a e => ⟨fun z => ?_, .inr ⟨i, r.1, by rw [q, e]⟩⟩, fun _ a e => ?_⟩
          · rcases z with z | z
            · exact S'.sep0 a ⟨i, r.1, by rw [q, e]⟩ z
            · exact no a e z
          · rcases t'.own a ⟨i, r.1, by rw [q, e]⟩ with z | z
            · exact absurd ((oa a).mp z) (no a e)
            · exact z
        · rw [if_neg hi] at e1
          cases e1
end
/-- g: the argument, the rows, what is known -/
def spM (K : PySem.W.Frag) (mg : Str → Option Value) (C : Addr) (g : Fn) : Sp := fun vs H Q E => ∃ a v dx r k fs od kvs, vs = [.ref a, v] ∧ LkC K C a r k fs ∧ H a = some (.ins C dx fs) ∧ H r = some (.frz od (.dT kvs)) ∧ spD K mg 3 [2] g [v, .ref r, .ref k] H Q E
structure GloM (P : Program) (w : World) (K : PySem.W.Frag) (mg : Str → Option Value) (base : Heap) (C : Addr) (m : Str) (k : Nat) (g : Fn) : Prop where
  ex : ∃ f fd ps, Meth K C m f ∧ Binds K fd ps [] ∧ FnOk P w K mg base (L2N.CX P w) k f fd ps (spM K mg C g)
/-- slots: the argument, rows, known, ns - 3 more, self -/
def stM (v : V) (r k a : Addr) (ns : Nat) : St := [some v, some (.ref r), some (.ref k)] ++ (List.replicate (ns - 3) none ++ [some (.ref a)])
section
variable {v w : V} {r k a : Addr} {ns i : Nat}
theorem stM_len (h : 3 ≤ ns) : (stM v r k a ns).length = ns + 1 := by
  unfold stM
  simp
  omega
theorem stM_self (h : 3 ≤ ns) : (stM v r k a ns)[ns]? = some (some (.ref a)) := by
  unfold stM
  rw [List.getElem?_append_right (by simpa using h), List.getElem?_append_right (by simp)]
  simp
theorem stM_get (h : 3 ≤ ns) (e : (stM v r k a ns)[i]? = some (some w)) : (i = 0 ∧ w = v) ∨ (i = 1 ∧ w = .ref r) ∨ (i = 2 ∧ w = .ref k) ∨ (i = ns ∧ w = .ref a) := by
  match i, e with
  | 0, e => cases e; exact .inl ⟨rfl, rfl⟩
  | 1, e => cases e; exact .inr (.inl ⟨rfl, rfl⟩)
  | 2, e => cases e; exact .inr (.inr (.inl ⟨rfl, rfl⟩))
  | i + 3, e =>
    unfold stM at e
    rw [List.getElem?_append_right (by simp)] at e
    have e : (List.replicate (ns - 3) (none : Option V) ++ [some (.ref a)])[i]? = some (some w) := e
    by_cases c : i < ns - 3
    · rw [List.getElem?_append_left (by simpa using c), List.getElem?_replicate, if_pos c] at e
      cases e
    · rw [List.getElem?_append_right (by simpa using c), List.length_replicate] at e
      have z : i - (ns - 3) = 0 := by
        have := (List.getElem?_eq_some_iff.mp e).1
        simp at this
        omega
      rw [z] at e
      cases e
      exact .inr (.inr (.inr ⟨by omega, rfl⟩))
theorem stM_at {n : Nat} (h : 3 ≤ ns) (hn : 3 ≤ n) (hn2 : n ≤ ns + 1) : StAt (stM v r k a ns) [v, .ref r, .ref k] 3 [2] n where
  pre := fun i w hi => by
    match i, hi with
    | 0, _ => exact ⟨fun e => by cases e; rfl, fun e => by cases e; rfl⟩
    | 1, _ => exact ⟨fun e => by cases e; rfl, fun e => by cases e; rfl⟩
    | 2, _ => exact ⟨fun e => by cases e; rfl, fun e => by cases e; rfl⟩
  emp := fun i hi w h2 => by
    have : i = 2 := List.mem_singleton.mp hi
    omega
  long := by rw [stM_len h]; omega
end
theorem not_vis {sc : Scope} {x : Str} (nv : sc.names.lookup x = none) : ¬ Vis sc x := fun z => by rcases z with z | z | z <;> rw [nv] at z <;> cases z
/-- THE RULE for such a method -/
theorem fnM_ok {P : Program} {w : World} {K : PySem.W.Frag} {mg : Str → Option Value} {base : Heap} {C : Addr} {x qual y : Str} {st : Stmt} {f : Addr} {fd : FuncData} {N N' : List Str} {k n ns : Nat} {U : List Nat} {m : SM} (F : Fun K x qual st f fd) (S : FnScope N ["self", y] (defScope st))
    (h0 : N'[0]? = some y) (h1 : N'[1]? = some ("%r" : Str)) (h2 : N'[2]? = some ("%k" : Str)) (hs : N'[ns]? = some ("self" : Str)) (hlen : N'.length = ns + 1) (h3 : 3 ≤ ns) (hn : 3 ≤ n) (hn2 : n ≤ ns + 1) (nr : (defScope st).names.lookup ("%r" : Str) = none) (nk : (defScope st).names.lookup ("%k" : Str) = none) (hU : 2 ∈ U)
    (hb : ∀ (cdv : Value) (A : Around) (outer : List PySem.Env) (s : Shared) (H : Hp) (E : XK) (P0 : Pr), Room k (A.deeper (envOfC qual (defScope st) s.heap.objs.size f cdv)) → ∀ (a dx r kn : Addr) (fs : List (Str × V)) (od : Obj) (kvs : List (List Key × V)), LkC K C a r kn fs →
      PSs (cxOf (L2N.CX P w) P w K mg base N' qual (defScope st) f cdv A outer s H E) (defBody st) (gS K P0 (LkG ns 1 2 C a dx r kn fs od kvs) 2 U (exE mg E) m)) :
    FnOk P w K mg base (L2N.CX P w) (k + 1) f fd ["self", y] (spM K mg C (fnD 3 n [2] m)) := by
  refine okN F S (fun vs H Q E h => by obtain ⟨a, v, _, _, _, _, _, _, rfl, _⟩ := h; rfl) fun cdv A outer s H vs Q E hr h => ?_
  obtain ⟨a, v, dx, r, kn, fs, od, kvs, rfl, c, hi, hz, h⟩ := h
  obtain ⟨P0, ht⟩ := tSt_at (σ0 := stM v r kn a ns) (W := [2]) (Oc := [2]) (U := U) (stM_at h3 hn hn2) (fun i => ⟨fun z => ⟨z, by have := List.mem_singleton.mp z; omega⟩, fun z => z.1⟩) (fun _ z => z) (fun i z => by rw [List.mem_singleton.mp z]; exact hU) h
  refine ⟨_, pss_ren (N' := N') (hb cdv A outer s H E P0 hr a dx r kn fs od kvs c), stM v r kn a ns, ?_, ?_, ht⟩
  · refine ⟨by rw [stM_len h3, hlen], fun i z u e1 e2 e3 => ?_⟩
    have pre := S.pre
    rcases stM_get h3 e2 with ⟨rfl, rfl⟩ | ⟨rfl, rfl⟩ | ⟨rfl, rfl⟩ | ⟨rfl, rfl⟩
    · rw [h0] at e1
      cases e1
      refine ⟨1, ?_, start_of rfl⟩
      have : (N.take 2)[1]? = some y := by rw [show N.take 2 = _ from pre]; rfl
      rwa [List.getElem?_take_of_lt (by omega)] at this
    · rw [h1] at e1
      cases e1
      exact absurd e3 (not_vis nr)
    · rw [h2] at e1
      cases e1
      exact absurd e3 (not_vis nk)
    · rw [hs] at e1
      cases e1
      refine ⟨0, ?_, start_of rfl⟩
      have : (N.take 2)[0]? = some ("self" : Str) := by rw [show N.take 2 = _ from pre]; rfl
      rwa [List.getElem?_take_of_lt (by omega)] at this
  · exact ⟨stM_self h3, rfl, rfl, hi, hz⟩
def spP (K : PySem.W.Frag) (mg : Str → Option Value) (np : Nat) (g : List D → R Hd) : Sp := fun vs H Q E => ∃ a ws, vs = .ref a :: ws ∧ spD K mg np [] (pureF g) ws H Q E
structure GloP (P : Program) (w : World) (K : PySem.W.Frag) (mg : Str → Option Value) (base : Heap) (C : Addr) (m : Str) (k np : Nat) (g : List D → R Hd) : Prop where
  ex : ∃ f fd ps, Meth K C m f ∧ Binds K fd ps [] ∧ FnOk P w K mg base (L2N.CX P w) k f fd ps (spP K mg np g)
def stP (v w : V) (a : Addr) (ns : Nat) : St := [some v, some w] ++ (List.replicate (ns - 2) none ++ [some (.ref a)])
section
variable {v w u : V} {a : Addr} {ns i : Nat}
theorem stP_len (h : 2 ≤ ns) : (stP v w a ns).length = ns + 1 := by
  unfold stP
  simp
  omega
theorem stP_get (h : 2 ≤ ns) (e : (stP v w a ns)[i]? = some (some u)) : (i = 0 ∧ u = v) ∨ (i = 1 ∧ u = w) ∨ (i = ns ∧ u = .ref a) := by
  match i, e with
  | 0, e => cases e; exact .inl ⟨rfl, rfl⟩
  | 1, e => cases e; exact .inr (.inl ⟨rfl, rfl⟩)
  | i + 2, e =>
    unfold stP at e
    rw [List.getElem?_append_right (by simp)] at e
    have e : (List.replicate (ns - 2) (none : Option V) ++ [some (.ref a)])[i]? = some (some u) := e
    by_cases c : i < ns - 2
    · rw [List.getElem?_append_left (by simpa using c), List.getElem?_replicate, if_pos c] at e
      cases e
    · rw [List.getElem?_append_right (by simpa using c), List.length_replicate] at e
      have z : i - (ns - 2) = 0 := by
        have := (List.getElem?_eq_some_iff.mp e).1
        simp at this
        omega
      rw [z] at e
      cases e
      exact .inr (.inr ⟨by omega, rfl⟩)
theorem stP_at {n : Nat} (h : 2 ≤ ns) (hn : 2 ≤ n) (hn2 : n ≤ ns + 1) : StAt (stP v w a ns) [v, w] 2 [] n where
  pre := fun i u hi => by
    match i, hi with
    | 0, _ => exact ⟨fun e => by cases e; rfl, fun e => by cases e; rfl⟩
    | 1, _ => exact ⟨fun e => by cases e; rfl, fun e => by cases e; rfl⟩
  emp := fun i hi => nomatch hi
  long := by rw [stP_len h]; omega
end
theorem fnP_ok {P : Program} {w : World} {K : PySem.W.Frag} {mg : Str → Option Value} {base : Heap} {x qual y y2 : Str} {st : Stmt} {f : Addr} {fd : FuncData} {N N' : List Str} {k n ns : Nat} {m : SM} (F : Fun K x qual st f fd) (S : FnScope N ["self", y, y2] (defScope st))
    (h0 : N'[0]? = some y) (h1 : N'[1]? = some y2) (hs : N'[ns]? = some ("self" : Str)) (hlen : N'.length = ns + 1) (h3 : 2 ≤ ns) (hn : 2 ≤ n) (hn2 : n ≤ ns + 1)
    (hb : ∀ (cdv : Value) (A : Around) (outer : List PySem.Env) (s : Shared) (H : Hp) (E : XK) (P0 : Pr), Room k (A.deeper (envOfC qual (defScope st) s.heap.objs.size f cdv)) →
      CSs (cxOf (L2N.CX P w) P w K mg base N' qual (defScope st) f cdv A outer s H E) P0 [] [] [] (exE mg E) (defBody st) m) :
    FnOk P w K mg base (L2N.CX P w) (k + 1) f fd ["self", y, y2] (fun vs H Q E => ∃ a u v, vs = [.ref a, u, v] ∧ spD K mg 2 [] (fnD 2 n [] m) [u, v] H Q E) := by
  refine okN F S (fun vs H Q E h => by obtain ⟨a, u, v, rfl, _⟩ := h; rfl) fun cdv A outer s H vs Q E hr h => ?_
  obtain ⟨a, u, v, rfl, h⟩ := h
  obtain ⟨P0, ht⟩ := tSt_at (σ0 := stP u v a ns) (W := []) (Oc := []) (U := []) (stP_at h3 hn hn2) (fun i => ⟨fun z => absurd z (by simp), fun z => absurd z.1 (by simp)⟩) (fun _ z => z) (fun i z => absurd z (by simp)) h
  refine ⟨_, pss_ren (N' := N') (hb cdv A outer s H E P0 hr), stP u v a ns, ?_, ht⟩
  refine ⟨by rw [stP_len h3, hlen], fun i z w e1 e2 e3 => ?_⟩
  have pre := S.pre
  rcases stP_get h3 e2 with ⟨rfl, rfl⟩ | ⟨rfl, rfl⟩ | ⟨rfl, rfl⟩
  · rw [h0] at e1
    cases e1
    refine ⟨1, ?_, start_of rfl⟩
    have : (N.take 3)[1]? = some y := by rw [show N.take 3 = _ from pre]; rfl
    rwa [List.getElem?_take_of_lt (by omega)] at this
  · rw [h1] at e1
    cases e1
    refine ⟨2, ?_, start_of rfl⟩
    have : (N.take 3)[2]? = some y2 := by rw [show N.take 3 = _ from pre]; rfl
    rwa [List.getElem?_take_of_lt (by omega)] at this
  · rw [hs] at e1
    cases e1
    refine ⟨0, ?_, start_of rfl⟩
    have : (N.take 3)[0]? = some ("self" : Str) := by rw [show N.take 3 = _ from pre]; rfl
    rwa [List.getElem?_take_of_lt (by omega)] at this
section
variable {X : Cx} {P0 : Pr} {ns ir ik : Nat} {C a dx r k : Addr} {fs : List (Str × V)} {od : Obj} {kvs : List (List Key × V)} {U : List Nat} {E : EK} {XE : XK} {e e2 : Expr} {es : List Expr} {ma : EM} {ms : AM} {pos p ap : Pos} {kk np : Nat} {m : Str} {g : Fn}
theorem e_rk {ρ : Env} : cCons (cVar ir) (cCons (cOwn ik) cNil) ρ = ((look ir ρ).nox >>= fun d => (look ik ρ).nox >>= fun _ => R.ok ([.vl d, .ow ik], ρ)) := by
  unfold cCons cVar cOwn cNil
  cases h1 : look ir ρ with
  | ok d =>
    simp only [R.nox_ok, R.bind_ok, R.pure_eq]
    cases look ik ρ <;> rfl
  | er c xs => rfl
  | stk => rfl
/-- self.m(e): what is known goes along -/
theorem ge_callM {pl : Sem Bool} (c : LkC X.K C a r k fs) (q : isS X ns) (s : Stb (LkG ns ir ik C a dx r k fs od kvs) ik U) (hir : ir ≠ ik) (M : GloM X.prog X.w X.K X.mg X.base C m kk g) (hm : fs.lookup m = none) (o : Out2 X E XE) (hr : Room kk X.A) (ha : PE X e (gE X.K P0 (LkG ns ir ik C a dx r k fs od kvs) ik E ma))
    (hst : starEach [e] X.env = (false, eval e X.env) :: starEach [] X.env := by rfl) (hpl : (backTo pos (starEach [] X.env)).any (·.1) = false := by rfl)
    (ht : eval (.Call (.Attribute (.Name "self" p) m ap) [e] [] pos) X.env = (do
      let ov ← eval (.Name "self" p) X.env
      standAt ap.atName
      let (f, first) ← holding [ov] (getMethod ov m pl)
      callWith pos f first (backTo pos (starEach [e] X.env)) (backToKw pos (keywordEach [] X.env))) := by rfl) :
    PE X (.Call (.Attribute (.Name "self" p) m ap) [e] [] pos) (gE X.K P0 (LkG ns ir ik C a dx r k fs od kvs) ik E (cCallIO [(2, ik)] g (cCons ma (cCons (cVar ir) (cCons (cOwn ik) cNil))))) := by
  obtain ⟨f, fd, ps, hM, hb, F⟩ := M.ex
  refine PE.imp (pe_meth (pe_var (i := ns) q.hx q.hv) c.cls hM F hr hb .nil o.pass (pa_cons ha pa_nil hst) hst hpl ht) fun σ H Q ⟨gg, h⟩ => ?_
  obtain ⟨ρ, S, h⟩ := tM_callIO (XE := XE) (O := [2]) (np := 3) o.ex rfl (by simp) (by simp) (fun z hz => by rw [List.mem_singleton.mp hz]; exact List.mem_singleton.mpr rfl) (alen_cons (alen_cons (alen_cons alen_nil))) σ H Q h
  refine ⟨.ref a, gg.gs, a, dx, fs, rfl, gg.gi, hm, gg, ρ, S, h.of_bind.mono fun ⟨h1, ρ1⟩ q v H1 S1 k1 r1 => ?_⟩
  have g1 := s.kp gg k1
  have q : Res E [ik] σ H (cCons (cVar ir) (cCons (cOwn ik) cNil) ρ1 >>= fun b => R.ok (h1 :: b.1, b.2)) (fun a => ∀ (vs : List V) (H' : Hp), Sim X.K P0 [ik] [ik] a.snd σ H' → Keep [ik] σ H H' → HdRs X.K P0 [ik] H σ H' a.fst vs → spD X.K X.mg 3 [2] g (vs ++ []) H' Q XE) := q
  rw [e_rk, R.bind_assoc] at q
  obtain ⟨d, e1, q⟩ := q.of_nox
  rw [R.bind_assoc] at q
  obtain ⟨d2, e2, q⟩ := q.of_nox
  obtain ⟨w, w1, w2⟩ := S1.val ir d (look_some e1) fun z => hir (List.mem_singleton.mp z)
  rw [gg.gr] at w1
  cases w1
  have fin := q [v, .ref r, .ref k] H1 S1 k1 ⟨v, _, rfl, r1, .ref r, _, rfl, w2, .ref k, _, rfl, ⟨List.mem_singleton.mpr rfl, gg.gk⟩, rfl⟩
  exact ⟨a, v, dx, r, k, fs, od, kvs, rfl, c, g1.gi, g1.gz, fin⟩
/-- self.m(e, e2), m does not look at self -/
theorem ge_callP {gp : List D → R Hd} {pl : Sem Bool} (c : LkC X.K C a r k fs) (q : isS X ns) (M : GloP X.prog X.w X.K X.mg X.base C m kk np gp) (hm : fs.lookup m = none) (o : Out2 X E XE) (hr : Room kk X.A) (ha : CA X P0 [ik] [ik] E (e :: es) ms) (hl : ALen ms np)
    (hst : starEach (e :: es) X.env = (false, eval e X.env) :: starEach es X.env := by rfl) (hpl : (backTo pos (starEach es X.env)).any (·.1) = false := by rfl)
    (ht : eval (.Call (.Attribute (.Name "self" p) m ap) (e :: es) [] pos) X.env = (do
      let ov ← eval (.Name "self" p) X.env
      standAt ap.atName
      let (f, first) ← holding [ov] (getMethod ov m pl)
      callWith pos f first (backTo pos (starEach (e :: es) X.env)) (backToKw pos (keywordEach [] X.env))) := by rfl) :
    PE X (.Call (.Attribute (.Name "self" p) m ap) (e :: es) [] pos) (gE X.K P0 (LkG ns ir ik C a dx r k fs od kvs) ik E (cCallF gp ms)) := by
  obtain ⟨f, fd, ps, hM, hb, F⟩ := M.ex
  refine PE.imp (pe_meth (pe_var (i := ns) q.hx q.hv) c.cls hM F hr hb .nil o.pass ha hst hpl ht) fun σ H Q ⟨gg, h⟩ => ?_
  obtain ⟨ρ, S, h⟩ := tM_callF (XE := XE) (np := np) o.ex σ H Q (fun _ _ _ _ => trivial) h hl
  exact ⟨.ref a, gg.gs, a, dx, fs, rfl, gg.gi, hm, ρ, S, h.mono fun _ q vs H1 S1 k1 r1 => ⟨a, _, rfl, q vs H1 S1 k1 r1⟩⟩
end
end Y

set_option Elab.async false
set_option linter.all false
set_option maxRecDepth 100000
namespace Y
open PySem PySem.Spec PyProof.Rows L2
structure LkI (K : PySem.W.Frag) (C : Addr) : Prop where
  cls : Cls K C
  nr : NoAttr K C "rows"
  nk : NoAttr K C "known"
structure InG (ns : Nat) (C a dx q : Addr) (σ : St) (H : Hp) : Prop where
  gs : σ[ns]? = some (some (.ref a))
  gq : σ[1]? = some (some (.ref q))
  gi : H a = some (.ins C dx [(("rows" : Str), V.ref q)])
  gn : a ≠ q
section
variable {ns : Nat} {C a dx q : Addr} {σ σ' : St} {H H' : Hp} {U : List Nat}
theorem InG.oa (g : InG ns C a dx q σ H) {b : Addr} (h : OA [1] σ b) : b = q := by
  obtain ⟨i, hi, e⟩ := h
  rw [List.mem_singleton.mp hi, g.gq] at e
  cases e
  rfl
theorem InG.stb (h1 : ns ∈ U := by decide) (h2 : 1 ∈ U := by decide) : Stb (InG ns C a dx q) 1 U :=
  ⟨fun g kp => ⟨g.gs, g.gq, kp.keep _ _ g.gi fun z => g.gn (g.oa z), g.gn⟩, fun hU g t => ⟨by rw [t.unch _ (hU _ h1)]; exact g.gs, by rw [t.unch _ (hU _ h2)]; exact g.gq, t.keep _ _ g.gi fun z => g.gn (g.oa z), g.gn⟩⟩
end
section
variable {X : Cx} {P0 : Pr} {ns : Nat} {C a dx q : Addr} {E : EK} {e f : Expr} {mk mv : EM} {p ap ap0 cp : Pos}
theorem pe_rowsI (c : LkI X.K C) (s : isS X ns) (hb : attributeBase (.Name "self" p) "rows" X.env (eval (.Name "self" p) X.env) = eval (.Name "self" p) X.env := by rfl) :
    PE X (.Attribute (.Name "self" p) "rows" ap) (fun σ H Q => InG ns C a dx q σ H ∧ Q (.ref q) H) := PE.imp (pe_fld (pe_var (i := ns) s.hx s.hv) hb) fun σ H Q ⟨g, h⟩ =>
  ⟨_, g.gs, a, C, dx, _, _, rfl, g.gi, c.cls, c.nr, rfl, h⟩
/-- self.rows.setdefault(k, v) -/
theorem ge_setdI (hu : X.A.units + 1 < cLine) (c : LkI X.K C) (s : isS X ns) (h : CEx X P0 [1] [1] E e mk) (h2 : CEx X P0 [1] [1] E f mv) (m : M2 X (.Attribute (.Name "self" p) "rows" ap0) "setdefault" ap e f cp := by exact ⟨rfl, rfl, rfl, rfl⟩)
    (hb : attributeBase (.Name "self" p) "rows" X.env (eval (.Name "self" p) X.env) = eval (.Name "self" p) X.env := by rfl) :
    PE X (.Call (.Attribute (.Attribute (.Name "self" p) "rows" ap0) "setdefault" ap) [e, f] [] cp) (gE X.K P0 (InG ns C a dx q) 1 E (cSetD 1 mk mv)) := PE.imp (pe_dsetdT hu (pe_rowsI (q := q) (a := a) (dx := dx) c s hb) h h2 m) fun σ H Q ⟨g, hh⟩ => by
  obtain ⟨v, hv, rest⟩ := tM_setd (i := 1) (List.mem_singleton.mpr rfl) (List.mem_singleton.mpr rfl) σ H Q hh
  rw [g.gq] at hv
  cases hv
  exact ⟨g, rest⟩
end
/-- the rows that the loop m builds -/
def initD (n : Nat) (m : SM) : List D → R Hd := fun ds => do
  let (f, ρ) ← m (ds.map some ++ (some (.dit [] []) :: List.replicate n none))
  match f with
  | .nx => do
    let d ← (look 1 ρ).nox
    pure (.fr d)
  | _ => .stk
theorem initD_ok {n : Nat} {m : SM} {ds : List D} {d : D} (h : initD n m ds = .ok (.fr d)) : ∃ ρ, m (ds.map some ++ (some (.dit [] []) :: List.replicate n none)) = .ok (.nx, ρ) ∧ look 1 ρ = .ok d := by
  unfold initD at h
  obtain ⟨⟨f, ρ⟩, e1, h⟩ := R.ok_of h
  cases f with
  | nx =>
    obtain ⟨d', e2, h⟩ := R.ok_of h
    cases h
    exact ⟨ρ, e1, R.nox_of e2⟩
  | _ => cases h
def spI (K : PySem.W.Frag) (C : Addr) (gr : List D → R Hd) : Sp := fun vs H Q _ => ∃ a v dx d P0, vs = [.ref a, v] ∧ H a = some (.ins C dx []) ∧ (∀ b, P0 b → isMut (H b)) ∧ P0 a ∧ Rep K H d P0 v ∧ ∃ ks xs, gr [d] = .ok (.fr (.dit ks xs)) ∧
  ∀ H' r k ws, ks.length = ws.length → H' a = some (.ins C dx [(("rows" : Str), V.ref r), (("known" : Str), V.ref k)]) → H' r = some (.dT (ks.zip ws)) → H' k = some (.dT []) → r ≠ k → H r = none → H k = none → Reps K H' xs (fun b => P0 b ∨ b = r ∨ b = k) ws → (∀ b o, H b = some o → b ≠ a → H' b = some o) → Q .non H'
theorem pss_hidE {X : Cx} {sts : List Stmt} {t : Addr → TS} (h : ∀ q, PSs X sts (t q)) {i : Nat} {x : Str} (hx : X.N[i]? = some x) (nv : ¬ Vis X.env.scope x) : PSs X sts (fun D σ H => ∃ q : Addr, t q D (σ.set i (some (.ref q))) H) :=
  ⟨fun pins s σ H D I ⟨q, hq⟩ => (h q).run pins s _ H D (inv_hid I hx nv (v := .ref q)) hq⟩
def stI (v : V) (a : Addr) (ns : Nat) : St := [some v, none] ++ (List.replicate (ns - 2) none ++ [some (.ref a)])
section
variable {v u : V} {a q : Addr} {ns i : Nat}
theorem stI_set : (stI v a ns).set 1 (some (.ref q)) = stP v (.ref q) a ns := rfl
theorem stI_len (h : 2 ≤ ns) : (stI v a ns).length = ns + 1 := by
  unfold stI
  simp
  omega
theorem stP_self {w : V} (h : 2 ≤ ns) : (stP v w a ns)[ns]? = some (some (.ref a)) := by
  unfold stP
  rw [List.getElem?_append_right (by simpa using h), List.getElem?_append_right (by simp)]
  simp
theorem stI_self (h : 2 ≤ ns) : (stI v a ns)[ns]? = some (some (.ref a)) := by
  unfold stI
  rw [List.getElem?_append_right (by simpa using h), List.getElem?_append_right (by simp)]
  simp
theorem stI_get (h : 2 ≤ ns) (e : (stI v a ns)[i]? = some (some u)) : (i = 0 ∧ u = v) ∨ (i = ns ∧ u = .ref a) := by
  match i, e with
  | 0, e => cases e; exact .inl ⟨rfl, rfl⟩
  | 1, e => cases e
  | i + 2, e =>
    unfold stI at e
    rw [List.getElem?_append_right (by simp)] at e
    have e : (List.replicate (ns - 2) (none : Option V) ++ [some (.ref a)])[i]? = some (some u) := e
    by_cases c : i < ns - 2
    · rw [List.getElem?_append_left (by simpa using c), List.getElem?_replicate, if_pos c] at e
      cases e
    · rw [List.getElem?_append_right (by simpa using c), List.length_replicate] at e
      have z : i - (ns - 2) = 0 := by
        have := (List.getElem?_eq_some_iff.mp e).1
        simp at this
        omega
      rw [z] at e
      cases e
      exact .inr ⟨by omega, rfl⟩
end
/-- THE RULE for such an __init__ -/
theorem fnI_ok {P : Program} {w : World} {K : PySem.W.Frag} {mg : Str → Option Value} {base : Heap} {C : Addr} {x qual y : Str} {st sf : Stmt} {f : Addr} {fd : FuncData} {N N' : List Str} {k n ns : Nat} {m : SM} {p1 q1 d1 w1 p2 q2 d2 w2 : Pos} (F : Fun K x qual st f fd) (S : FnScope N ["self", y] (defScope st)) (c : LkI K C)
    (h0 : N'[0]? = some y) (h1 : N'[1]? = some ("%r" : Str)) (hs : N'[ns]? = some ("self" : Str)) (hlen : N'.length = ns + 1) (h2 : 2 ≤ ns) (hn : n + 1 ≤ ns) (nr : (defScope st).names.lookup ("%r" : Str) = none) (hv : Vis (defScope st) ("self" : Str))
    (hbody : defBody st = [.Assign [.Attribute (.Name "self" p1) "rows" q1] (.Dict [] [] d1) w1, sf, .Assign [.Attribute (.Name "self" p2) "known" q2] (.Dict [] [] d2) w2])
    (hb : ∀ (cdv : Value) (A : Around) (outer : List PySem.Env) (s : Shared) (H : Hp) (E : XK) (P0 : Pr), Room k (A.deeper (envOfC qual (defScope st) s.heap.objs.size f cdv)) → ∀ (a dx q : Addr),
      PS (cxOf (L2N.CX P w) P w K mg base N' qual (defScope st) f cdv A outer s H E) sf (gS K P0 (InG ns C a dx q) 1 [1, ns] (exE mg E) m)) :
    FnOk P w K mg base (L2N.CX P w) (k + 1) f fd ["self", y] (spI K C (initD n m)) := by
  refine okN F S (fun vs H Q E h => by obtain ⟨a, v, _, _, _, rfl, _⟩ := h; rfl) fun cdv A outer s H vs Q E hr h => ?_
  obtain ⟨a, v, dx, d, P0, rfl, hi, hm, pa, rd, ks, xs, eg, h⟩ := h
  obtain ⟨ρ2, em, el⟩ := initD_ok eg
  have nv := not_vis nr
  have ps1 : PS (cxOf (L2N.CX P w) P w K mg base N' qual (defScope st) f cdv A outer s H E) (.Assign [.Attribute (.Name "self" p1) "rows" q1] (.Dict [] [] d1) w1) (sFld K (tVar ns) tDNewT "rows") := ps_fld (pe_var hs hv) pe_dnewT (by rfl)
  have ps3 : PS (cxOf (L2N.CX P w) P w K mg base N' qual (defScope st) f cdv A outer s H E) (.Assign [.Attribute (.Name "self" p2) "known" q2] (.Dict [] [] d2) w2) (sFld K (tVar ns) tDNewT "known") := ps_fld (pe_var hs hv) pe_dnewT (by rfl)
  have body := pss_cons ps1 (pss_hidE (fun q => pss_cons (hb cdv A outer s H E P0 hr a dx q) (pss_one ps3)) h1 nv)
  rw [← hbody] at body
  refine ⟨_, pss_ren (N' := N') body, stI v a ns, ⟨by rw [stI_len h2, hlen], fun i z u e1 e2 e3 => ?_⟩, ?_⟩
  · have pre := S.pre
    rcases stI_get h2 e2 with ⟨rfl, rfl⟩ | ⟨rfl, rfl⟩
    · rw [h0] at e1
      cases e1
      refine ⟨1, ?_, start_of rfl⟩
      have : (N.take 2)[1]? = some y := by rw [show N.take 2 = _ from pre]; rfl
      rwa [List.getElem?_take_of_lt (by omega)] at this
    · rw [hs] at e1
      cases e1
      refine ⟨0, ?_, start_of rfl⟩
      have : (N.take 2)[0]? = some ("self" : Str) := by rw [show N.take 2 = _ from pre]; rfl
      rwa [List.getElem?_take_of_lt (by omega)] at this
  · intro q hq
    have aq : a ≠ q := fun z => by rw [z, hq] at hi; cases hi
    refine ⟨.ref a, stI_self h2, a, C, dx, [], rfl, by rw [upd_ne aq]; exact hi, c.cls, c.nr, by decide, q, ?_⟩
    rw [stI_set]
    generalize hH1 : upd (upd H q (.dT [])) a (.ins C dx (putF "rows" (.ref q) [])) = H1
    have ha1 : H1 a = some (.ins C dx [(("rows" : Str), V.ref q)]) := by rw [← hH1, upd_same]; rfl
    have hq1 : H1 q = some (.dT []) := by rw [← hH1, upd_ne aq.symm, upd_same]
    have ot1 : ∀ b, b ≠ a → b ≠ q → H1 b = H b := fun b n1 n2 => by rw [← hH1, upd_ne n1, upd_ne n2]
    have s1 : (stP v (.ref q) a ns)[1]? = some (some (.ref q)) := rfl
    have oa1 : ∀ {b : Addr}, OA [1] (stP v (.ref q) a ns) b → b = q := fun ⟨i, hi, e⟩ => by
      rw [List.mem_singleton.mp hi, s1] at e
      cases e
      rfl
    have pq : ¬ P0 q := fun z => by have := hm q z; rw [hq] at this; exact this
    have S1 : Sim K P0 [1] [1] ([d].map some ++ (some (.dit [] []) :: List.replicate n none)) (stP v (.ref q) a ns) H1 := by
      refine ⟨fun _ z => z, by rw [stP_len h2]; simp; omega, fun b z => ?_, fun i d' e ni => ?_, fun i d' e hi => ?_, fun i j b hi hj _ _ => by rw [List.mem_singleton.mp hi, List.mem_singleton.mp hj], fun b z y => pq (by rw [← oa1 z]; exact y)⟩
      · by_cases e1 : b = a
        · rw [e1, ha1]; trivial
        · by_cases e2 : b = q
          · rw [e2, hq1]; trivial
          · rw [ot1 b e1 e2]
            rcases z with z | z
            · exact hm b z
            · exact absurd (oa1 z) e2
      · match i, e, ni with
        | 0, e, _ =>
          cases e
          refine ⟨v, rfl, rd.mono d hm (fun b o e n => ?_) fun b z => ?_⟩
          · rw [ot1 b (fun z => n (by rw [z]; exact pa)) (fun z => by rw [z, hq] at e; cases e)]; exact e
          · rcases z with z | z
            · exact .inl z
            · exact .inr (by rw [oa1 z]; exact hq)
        | 1, _, ni => exact absurd (List.mem_singleton.mpr rfl) ni
        | i + 2, e, _ =>
          have e : (List.replicate n (none : Option D))[i]? = some (some d') := e
          rw [List.getElem?_replicate] at e
          split at e <;> cases e
      · rw [List.mem_singleton.mp hi] at e ⊢
        cases e
        exact ⟨.ref q, rfl, q, [], rfl, rfl, hq1, Reps.nil⟩
    refine ⟨⟨stP_self h2, s1, ha1, aq⟩, _, S1, ?_⟩
    rw [em]
    intro σ2 H2 S2 t2 l2
    have g2 := (InG.stb (ns := ns) (U := [1, ns]) (C := C) (a := a) (dx := dx) (q := q) (by simp) (by simp)).tr (fun _ z => z) ⟨stP_self h2, s1, ha1, aq⟩ t2
    intro r hr2
    have ar : a ≠ r := fun z => by have := g2.gi; rw [z, hr2] at this; cases this
    refine ⟨.ref a, g2.gs, a, C, dx, _, rfl, by rw [upd_ne ar]; exact g2.gi, c.cls, c.nk, by simp, ?_⟩
    obtain ⟨v1, e1, e2⟩ := S2.own 1 _ (look_some el) (List.mem_singleton.mpr rfl)
    rw [g2.gq] at e1
    cases e1
    obtain ⟨q', ws, eq, hl, hH, rs⟩ := e2
    cases eq
    have qr : q ≠ r := fun z => by rw [z, hr2] at hH; cases hH
    have oa2 : ∀ {b : Addr}, OA [1] σ2 b → b = q := fun z => g2.oa z
    have nr0 : H r = none := by
      cases e : H r with
      | none => rfl
      | some o =>
        have : H1 r ≠ none := by rw [ot1 r ar.symm qr.symm, e]; intro z; cases z
        exact absurd hr2 (t2.some r this)
    refine h _ q r ws hl ?_ ?_ ?_ qr hq nr0 ?_ ?_
    · rw [upd_same]; rfl
    · rw [upd_ne aq.symm, upd_ne qr]; exact hH
    · rw [upd_ne ar.symm, upd_same]
    · refine rs.mono xs S2.dom (fun b o e n => ?_) fun b z => ?_
      · rw [upd_ne fun z => n (.inl (by rw [z]; exact pa)), upd_ne fun z => by rw [z, hr2] at e; cases e]
        exact e
      · rcases z with z | z | z
        · exact .inl (.inl z)
        · exact .inl (.inr ⟨1, List.mem_singleton.mpr rfl, by rw [z]; exact g2.gq⟩)
        · exact .inr (by rw [z]; exact hr2)
    · intro b o e nb
      have bq : b ≠ q := fun z => by rw [z, hq] at e; cases e
      have e1 : H1 b = some o := by rw [ot1 b nb bq]; exact e
      have e2 : H2 b = some o := t2.keep b o e1 fun z => bq (oa1 z)
      rw [upd_ne nb, upd_ne fun z => by rw [z, hr2] at e2; cases e2]
      exact e2
end Y

set_option Elab.async false
set_option linter.all false
set_option maxRecDepth 100000
namespace Y
open PySem PySem.Spec PyProof.Rows L2
/-- a dict of what is told on is locked -/
theorem pe_lockR {X : Cx} {e : Expr} {ta : TE} (h : PE X e ta) : PE X e (fun σ H Q => ta σ H fun x H1 => ∃ (r : Addr) (u : HO), H1 r = some u ∧ Mut (some u) ∧ ∀ od : Obj, Q x (upd H1 r (.frz od u))) :=
  ⟨fun pins s σ H Q I q => thn (h.run pins s σ H _ I q) fun u s1 ⟨x, H1, I1, rx, r, o, e1, mu, q1⟩ => by
    obtain ⟨od, I2⟩ := I1.lock e1 mu
    exact ⟨x, _, I2, rx, q1 od⟩⟩
structure LooksC (P : Program) (w : World) (K : PySem.W.Frag) (mg : Str → Option Value) (base : Heap) (x : Str) (C : Addr) (k : Nat) (gr : List D → R Hd) : Prop where
  ex : ∃ f fd ps, mg x = some (.ref C) ∧ Mk K C f ∧ Binds K fd ps [] ∧ LkI K C ∧ FnOk P w K mg base (L2N.CX P w) k f fd ps (spI K C gr)
def cLooks (gr : List D → R Hd) (g : Fn) (m1 m2 : EM) : EM := fun ρ => do
  let (h1, ρ1) ← m1 ρ
  let d1 ← h1.v.nox
  let y ← (gr [d1]).nox
  match y with
  | .fr (.dit ks xs) => do
    let (h2, ρ2) ← m2 ρ1
    let d2 ← h2.v.nox
    if d2.nl = true then do
      let (h, _) ← g [d2, .dit ks xs, .dit [] []]
      match h with
      | .ow _ => .stk
      | h => pure (h, ρ)
    else .stk
  | _ => .stk
def cCallD (g : Fn) (m1 m2 : EM) : EM := fun ρ => do
  let (h1, ρ1) ← m1 ρ
  let (h2, ρ2) ← m2 ρ1
  let d1 ← h1.v.nox
  let d2 ← h2.v.nox
  let (h, _) ← g [d1, d2, .dit [] []]
  match h with
  | .ow _ => .stk
  | h => pure (h, ρ)
theorem Res.keep_bind {E : EK} {W : List Nat} {σ : L2.St} {H H1 : Hp} {α β : Type} {r : R α} {f : α → R β} {k : β → Prop} (h : Res E W σ H (r >>= f) k) (kp : Keep W σ H H1) : Res E W σ H1 r fun a => Res E W σ H (f a) k := by
  cases r with
  | ok a => exact h
  | er c ds => exact fun H' k2 => h H' (kp.trans k2)
  | stk => exact h
theorem Keep.nil' {σ : L2.St} {H H' : Hp} (k : Keep [] σ H H') : Same H H' := fun b o e => k.keep b o e fun ⟨_, h, _⟩ => nomatch h
section
variable {X : Cx} {P0 : Pr} {Oc : List Nat} {E : EK} {XE : XK} {e1 e2 : Expr} {m1 m2 : EM} {p p1 pos ap : Pos} {kI kM k : Nat} {x m name : Str} {C : Addr} {gr : List D → R Hd} {g : Fn}
theorem ce_looks {pl : Sem Bool} (L : LooksC X.prog X.w X.K X.mg X.base x C kI gr) (M : GloM X.prog X.w X.K X.mg X.base C m kM g) (o : Out2 X E XE) (hr : Room (kI + 1) X.A) (hr2 : Room kM X.A) (h1 : CEx X P0 Oc [] E e1 m1) (h2 : CEx X P0 Oc [] E e2 m2)
    (hm1 : (m == ("rows" : Str)) = false := by decide) (hm2 : (m == ("known" : Str)) = false := by decide) (hg : Gl X x := by rfl) (hdb : (x == ("__debug__" : Str)) = false := by decide)
    (he : starEach [e1] X.env = (false, eval e1 X.env) :: starEach [] X.env := by rfl) (hpl : (backTo p1 (starEach [] X.env)).any (·.1) = false := by rfl)
    (he2 : starEach [e2] X.env = (false, eval e2 X.env) :: starEach [] X.env := by rfl) (hpl2 : (backTo pos (starEach [] X.env)).any (·.1) = false := by rfl)
    (ht : eval (.Call (.Attribute (.Call (.Name x p) [e1] [] p1) m ap) [e2] [] pos) X.env = (do
      let ov ← eval (.Call (.Name x p) [e1] [] p1) X.env
      standAt ap.atName
      let (f, first) ← holding [ov] (getMethod ov m pl)
      callWith pos f first (backTo pos (starEach [e2] X.env)) (backToKw pos (keywordEach [] X.env))) := by rfl) :
    CEx X P0 Oc [] E (.Call (.Attribute (.Call (.Name x p) [e1] [] p1) m ap) [e2] [] pos) (cLooks gr g m1 m2) := by
  obtain ⟨fI, fdI, psI, hmg, hMk, hbI, c, FI⟩ := L.ex
  obtain ⟨fM, fdM, psM, hM, hbM, FM⟩ := M.ex
  refine PE.imp (pe_meth (pe_lockR (pe_make hMk FI hr hg hmg hbI .nil o.pass (pa_cons h1 pa_nil he) hdb he hpl)) c.cls hM FM hr2 hbM .nil o.pass (pa_cons h2 pa_nil he2) he2 hpl2 ht) fun σ H Q ⟨ρ, S, h⟩ => ?_
  refine ⟨ρ, S, h.of_bind.mono fun ⟨hd1, ρ1⟩ q v1 H1 S1 k1 r1 y dx hx hdx ne => ?_⟩
  obtain ⟨d1, ed1, q⟩ := q.of_nox
  obtain ⟨z, ez, q⟩ := Res.of_nox (show Res E [] σ H ((gr [d1]).nox >>= _) _ from q)
  obtain ⟨ks, xs, rfl⟩ : ∃ ks xs, z = .fr (.dit ks xs) := by
    cases z with
    | fr d => cases d <;> first | exact ⟨_, _, rfl⟩ | exact q.elim
    | vl d => exact q.elim
    | ow i => exact q.elim
  have q : Res E [] σ H (m2 ρ1 >>= fun a => (a.1.v).nox >>= fun d2 => if d2.nl = true then (g [d2, .dit ks xs, .dit [] []] >>= fun b => match b.1 with | .ow _ => .stk | h => R.ok (h, ρ)) else .stk) _ := q
  generalize hH1 : upd (upd H1 dx (.own y)) y (.ins C dx []) = H1'
  have hy1 : H1' y = some (.ins C dx []) := by rw [← hH1, upd_same]
  have ot1 : ∀ b, b ≠ y → b ≠ dx → H1' b = H1 b := fun b n1 n2 => by rw [← hH1, upd_ne n1, upd_ne n2]
  have old : ∀ b o, H1 b = some o → b ≠ y ∧ b ≠ dx := fun b o e => ⟨fun z => (by rw [z, hx] at e; cases e), fun z => (by rw [z, hdx] at e; cases e)⟩
  have nof : ∀ {b : Addr}, H1 b = none → ¬ FA P0 Oc σ b := fun hb z => by have := S1.dom _ z; rw [hb] at this; exact this
  refine ⟨y, v1, dx, d1, fun b => FA P0 Oc σ b ∨ b = y, rfl, hy1, fun b z => ?_, .inr rfl, (r1.v ed1).mono d1 S1.dom (fun b o e _ => by rw [ot1 b (old b o e).1 (old b o e).2]; exact e) (fun b z => z.imp id fun z => by rw [z]; exact hx), ks, xs, ez, fun H' r kn ws hl ey er ek rk nr nk rs same => ⟨rfl, r, _, er, trivial, fun od => ?_⟩⟩
  · rcases z with z | z
    · cases e : H1 b with
      | none => exact absurd z (nof e)
      | some o =>
        rw [ot1 b (old b o e).1 (old b o e).2]
        exact S1.dom b z
    · rw [z, hy1]; trivial
  have fre : ∀ {b : Addr}, H1' b = none → H1 b = none := fun {b} hb => by
    cases e : H1 b with
    | none => rfl
    | some o => rw [ot1 b (old b o e).1 (old b o e).2, e] at hb; cases hb
  have r0 := fre nr
  have k0 := fre nk
  have yr : y ≠ r := fun z => by rw [z, er] at ey; cases ey
  have yk : y ≠ kn := fun z => by rw [z, ek] at ey; cases ey
  generalize hH2 : upd H' r (.frz od (.dT (ks.zip ws))) = H2
  have ot2 : ∀ b, b ≠ r → H2 b = H' b := fun b n => by rw [← hH2, upd_ne n]
  have hr3 : H2 r = some (.frz od (.dT (ks.zip ws))) := by rw [← hH2, upd_same]
  have sm : Same H1 H2 := fun b o e => by
    obtain ⟨n1, n2⟩ := old b o e
    rw [ot2 b fun z => by rw [z, r0] at e; cases e]
    exact same b o (by rw [ot1 b n1 n2]; exact e) n1
  refine ⟨y, dx, _, rfl, by rw [ot2 y yr]; exact ey, ?_, ρ1, S1.same sm, (q.keep_bind (k1.trans (Keep.same sm))).mono fun ⟨hd2, ρ2⟩ q2 v2 H3 S3 k3 r3 => ?_⟩
  · rw [List.lookup, hm1, List.lookup, hm2]; rfl
  obtain ⟨d2, ed2, q2⟩ := q2.of_nox
  have sm3 := Keep.nil' k3
  by_cases cn : d2.nl = true
  · have q2 : Res E [] σ H (if d2.nl = true then (g [d2, .dit ks xs, .dit [] []] >>= fun b => match b.1 with | .ow _ => .stk | h => R.ok (h, ρ)) else .stk) _ := q2
    rw [if_pos cn] at q2
    have ey3 := sm3 y _ (by rw [ot2 y yr]; exact ey)
    have er3 := sm3 r _ hr3
    have ek3 := sm3 kn _ (by rw [ot2 kn rk.symm]; exact ek)
    refine ⟨y, v2, dx, r, kn, _, od, ks.zip ws, rfl, ⟨c.cls, c.nr, c.nk, rfl, rfl, rfl, rfl, rfl, yk, rk⟩, ey3, er3, rfl, [d2, .dit ks xs, .dit [] []], FA P0 Oc σ, ?_, rfl, ?_⟩
    · have oa : ∀ {b : Addr}, OA [2] ([v2, .ref r, .ref kn].map some) b → b = kn := fun ⟨i, hi, e⟩ => by
        rw [List.mem_singleton.mp hi] at e
        cases e
        rfl
      refine ⟨fun _ z => (nomatch z), Nat.le_refl _, fun b z => ?_, fun i d' e ni => ?_, fun i d' e hi => ?_, fun i j b hi hj _ _ => by rw [List.mem_singleton.mp hi, List.mem_singleton.mp hj], fun b z w => nof k0 (by rw [← oa z]; exact w)⟩
      · rcases z with z | z
        · exact S3.dom b z
        · rw [oa z, ek3]; trivial
      · match i, e, ni with
        | 0, e, _ => cases e; exact ⟨v2, rfl, (r3.v ed2).nl cn⟩
        | 1, e, _ =>
          cases e
          refine ⟨.ref r, rfl, ?_⟩
          unfold Rep
          refine ⟨r, ws, rfl, fun z => ?_, hl, .inr ⟨od, er3⟩, rs.mono xs (fun b z => ?_) (fun b o e n => ?_) fun b z => .inl ?_⟩
          · rcases z with z | z
            · exact nof r0 z
            · exact rk (oa z)
          · rcases z with (z | z) | z | z
            · cases e : H1 b with
              | none => exact absurd z (nof e)
              | some o =>
                have := same b o (by rw [ot1 b (old b o e).1 (old b o e).2]; exact e) (old b o e).1
                rw [this, ← e]
                exact S1.dom b z
            · rw [z, ey]; trivial
            · rw [z, er]; trivial
            · rw [z, ek]; trivial
          · exact sm3 b o (by rw [ot2 b fun z => n (.inr (.inl z))]; exact e)
          · rcases z with (z | z) | z
            · exact .inl (.inl z)
            · exact .inr (.inr (oa z))
            · exact .inr (.inl z)
        | 2, _, ni => exact absurd (List.mem_singleton.mpr rfl) ni
        | i + 3, e, _ => cases e
      · rw [List.mem_singleton.mp hi] at e ⊢
        cases e
        exact ⟨.ref kn, rfl, kn, [], rfl, rfl, ek3, Reps.nil⟩
    · have up : ∀ {H4 : Hp}, Keep [2] ([v2, .ref r, .ref kn].map some) H3 H4 → Same H H4 := fun {H4} k4 b o e => by
        have e1 := Keep.nil' k1 b o e
        refine k4.keep b o (sm3 b o (sm b o e1)) fun ⟨i, hi, e2⟩ => ?_
        rw [List.mem_singleton.mp hi] at e2
        cases e2
        rw [k0] at e1
        cases e1
      cases eg : g [d2, .dit ks xs, .dit [] []] with
      | stk => rw [eg] at q2; exact q2.elim
      | er c xs =>
        rw [eg] at q2
        exact fun H4 kp => o.ex c xs H4 (q2 H4 (Keep.same (up kp)))
      | ok pr =>
        obtain ⟨hd, os⟩ := pr
        rw [eg] at q2
        intro v4 H4 k4 S4 r4
        have s4 := up k4
        have s5 : ∀ b, H b ≠ none → H3 b ≠ none := fun b hb => Same.some (fun b o e => sm3 b o (sm b o (Keep.nil' k1 b o e))) b hb
        cases hd with
        | ow j => exact q2.elim
        | fr d' => exact q2 v4 H4 (S.same s4) (Keep.same s4) ⟨r4.1.less S4.dom fun b z => .inl z, fun mu a ea => Classical.byContradiction fun z => s5 a z (r4.2 mu a ea)⟩
        | vl d' => exact q2 v4 H4 (S.same s4) (Keep.same s4) (Rep.less S4.dom r4 fun b z => .inl z)
  · have q2 : Res E [] σ H (if d2.nl = true then (g [d2, .dit ks xs, .dit [] []] >>= fun b => match b.1 with | .ow _ => .stk | h => R.ok (h, ρ)) else .stk) _ := q2
    rw [if_neg cn] at q2
    exact q2.elim
/-- f(e, e2, {}) -/
theorem ce_callD (G : Glo X.prog X.w X.K X.mg X.base name k 3 [2] g) (o : Out2 X E XE) (hr : Room k X.A) (h1 : CEx X P0 Oc [] E e1 m1) (h2 : CEx X P0 Oc [] E e2 m2) {pd : Pos} (hg : Gl X name := by rfl) (hdb : (name == ("__debug__" : Str)) = false := by decide)
    (he : starEach [e1, e2, .Dict [] [] pd] X.env = (false, eval e1 X.env) :: starEach [e2, .Dict [] [] pd] X.env := by rfl) (he2 : starEach [e2, .Dict [] [] pd] X.env = (false, eval e2 X.env) :: starEach [.Dict [] [] pd] X.env := by rfl) (he3 : starEach [.Dict [] [] pd] X.env = (false, eval (.Dict [] [] pd) X.env) :: starEach [] X.env := by rfl)
    (hpl : (backTo pos (starEach [e2, .Dict [] [] pd] X.env)).any (·.1) = false := by rfl) : CEx X P0 Oc [] E (.Call (.Name name p) [e1, e2, .Dict [] [] pd] [] pos) (cCallD g m1 m2) := by
  obtain ⟨f, fd, ps, hm, hk, hb, _, F⟩ := G.ex
  refine PE.imp (pe_call F hr hg hm hk hb .nil o.pass (pa_cons h1 (pa_cons h2 (pa_cons pe_dnewT pa_nil he3) he2) he) hdb he hpl) fun σ H Q ⟨ρ, S, h⟩ => ?_
  refine ⟨ρ, S, h.of_bind.mono fun ⟨hd1, ρ1⟩ q v1 H1 S1 k1 r1 => ⟨ρ1, S1, (Res.keep_bind (show Res E [] σ H (m2 ρ1 >>= fun a => (hd1.v).nox >>= fun d1 => (a.1.v).nox >>= fun d2 => (g [d1, d2, .dit [] []] >>= fun b => match b.1 with | .ow _ => .stk | h => R.ok (h, ρ))) _ from q) k1).mono fun ⟨hd2, ρ2⟩ q2 v2 H2 S2 k2 r2 kn hkn => ?_⟩⟩
  obtain ⟨d1, ed1, q2⟩ := q2.of_nox
  obtain ⟨d2, ed2, q2⟩ := Res.of_nox (show Res E [] σ H ((hd2.v).nox >>= fun d2 => (g [d1, d2, .dit [] []] >>= fun b => match b.1 with | .ow _ => .stk | h => R.ok (h, ρ))) _ from q2)
  have rr1 := S1.rep k2 (r1.v ed1)
  have rr2 := r2.v ed2
  have nof : ¬ FA P0 Oc σ kn := fun z => by have := S2.dom _ z; rw [hkn] at this; exact this
  generalize hH3 : upd H2 kn (.dT []) = H3
  have ek : H3 kn = some (.dT []) := by rw [← hH3, upd_same]
  have sm : Same H2 H3 := hH3 ▸ Same.new hkn
  have oa : ∀ {b : Addr}, OA [2] ([v1, v2, .ref kn].map some) b → b = kn := fun ⟨i, hi, e⟩ => by
    rw [List.mem_singleton.mp hi] at e
    cases e
    rfl
  have pm : ∀ b, FA (FA P0 Oc σ) [2] ([v1, v2, .ref kn].map some) b → FA P0 Oc σ b ∨ H2 b = none := fun b z => z.imp id fun z => by rw [oa z]; exact hkn
  refine ⟨rfl, [d1, d2, .dit [] []], FA P0 Oc σ, ?_, rfl, ?_⟩
  · refine ⟨fun _ z => (nomatch z), Nat.le_refl _, fun b z => ?_, fun i d' e ni => ?_, fun i d' e hi => ?_, fun i j b hi hj _ _ => by rw [List.mem_singleton.mp hi, List.mem_singleton.mp hj], fun b z w => nof (by rw [← oa z]; exact w)⟩
    · rcases z with z | z
      · exact (S2.same sm).dom b z
      · rw [oa z, ek]; trivial
    · match i, e, ni with
      | 0, e, _ => cases e; exact ⟨v1, rfl, rr1.mono d1 S2.dom (fun b o e _ => sm b o e) pm⟩
      | 1, e, _ => cases e; exact ⟨v2, rfl, rr2.mono d2 S2.dom (fun b o e _ => sm b o e) pm⟩
      | 2, _, ni => exact absurd (List.mem_singleton.mpr rfl) ni
      | i + 3, e, _ => cases e
    · rw [List.mem_singleton.mp hi] at e ⊢
      cases e
      exact ⟨.ref kn, rfl, kn, [], rfl, rfl, ek, Reps.nil⟩
  · have up0 : Same H H2 := fun b o e => Keep.nil' k2 b o (Keep.nil' k1 b o e)
    have up : ∀ {H4 : Hp}, Keep [2] ([v1, v2, .ref kn].map some) H3 H4 → Same H H4 := fun {H4} k4 b o e => by
      have e1 := up0 b o e
      refine k4.keep b o (sm b o e1) fun z => ?_
      rw [oa z, hkn] at e1
      cases e1
    cases eg : g [d1, d2, .dit [] []] with
    | stk => rw [eg] at q2; exact q2.elim
    | er c xs =>
      rw [eg] at q2
      exact fun H4 kp => o.ex c xs H4 (q2 H4 (Keep.same (up kp)))
    | ok pr =>
      obtain ⟨hd, os⟩ := pr
      rw [eg] at q2
      intro v4 H4 k4 S4 r4
      have s4 := up k4
      have s5 : ∀ b, H b ≠ none → H3 b ≠ none := fun b hb => Same.some (fun b o e => sm b o (up0 b o e)) b hb
      cases hd with
      | ow j => exact q2.elim
      | fr d' => exact q2 v4 H4 (S.same s4) (Keep.same s4) ⟨r4.1.less S4.dom fun b z => .inl z, fun mu a ea => Classical.byContradiction fun z => s5 a z (r4.2 mu a ea)⟩
      | vl d' => exact q2 v4 H4 (S.same s4) (Keep.same s4) (Rep.less S4.dom r4 fun b z => .inl z)
end
@[simp] theorem e_callD {g : Fn} {m1 m2 : EM} {ρ : Env} : cCallD g m1 m2 ρ = (m1 ρ >>= fun p => m2 p.2 >>= fun q => p.1.v.nox >>= fun d1 => q.1.v.nox >>= fun d2 => g [d1, d2, .dit [] []] >>= fun r => match r.1 with | .ow _ => .stk | h => R.ok (h, ρ)) := by
  unfold cCallD; congr
@[simp] theorem e_looks {gr : List D → R Hd} {g : Fn} {m1 m2 : EM} {ρ : Env} : cLooks gr g m1 m2 ρ = (m1 ρ >>= fun p => p.1.v.nox >>= fun d1 => (gr [d1]).nox >>= fun y => match y with
    | .fr (.dit ks xs) => (m2 p.2 >>= fun q => q.1.v.nox >>= fun d2 => if d2.nl = true then (g [d2, .dit ks xs, .dit [] []] >>= fun r => match r.1 with | .ow _ => .stk | h => R.ok (h, ρ)) else .stk)
    | _ => .stk) := by
  unfold cLooks; congr
end Y

set_option Elab.async false
set_option linter.all false
set_option maxRecDepth 100000
namespace Y
open PySem PySem.Spec PyProof.Rows L2
structure MDef (K : PySem.W.Frag) (C : Addr) (m qual : Str) (st : Stmt) : Prop where
  ex : ∃ f fd, Meth K C m f ∧ Fun K m qual st f fd
structure IDef (K : PySem.W.Frag) (mg : Str → Option Value) (x : Str) (C : Addr) (qual : Str) (st : Stmt) : Prop where
  ex : ∃ f fd, mg x = some (.ref C) ∧ Mk K C f ∧ Fun K "__init__" qual st f fd ∧ LkI K C
section
variable {P : Program} {w : World} {K : PySem.W.Frag} {mg : Str → Option Value} {base : Heap} {C : Addr} {x m qual y y2 : Str} {st : Stmt} {N : List Str} {k n : Nat}
theorem glom_mk (N' : List Str) (ns : Nat) {U : List Nat} {t : SM} (D : MDef K C m qual st) (S : FnScope N ["self", y] (defScope st))
    (hb : ∀ (cdv : Value) (A : Around) (outer : List PySem.Env) (s : Shared) (H : Hp) (E : XK) (P0 : Pr) (f : Addr), Room k (A.deeper (envOfC qual (defScope st) s.heap.objs.size f cdv)) → ∀ (a dx r kn : Addr) (fs : List (Str × V)) (od : Obj) (kvs : List (List Key × V)), LkC K C a r kn fs →
      PSs (cxOf (L2N.CX P w) P w K mg base N' qual (defScope st) f cdv A outer s H E) (defBody st) (gS K P0 (LkG ns 1 2 C a dx r kn fs od kvs) 2 U (exE mg E) t))
    (bi : ∀ (kV doc pm : Value) (an : Option Addr) (cdv ct : Value) (us : List Value), us.length = 2 → bindArgs (PySem.W.fnOf m qual (defArgs st) (defBody st) (defScope st) .none kV doc pm an cdv ct) ⟨us, []⟩ = Pure.pure ((["self", y] : List Str).zip us))
    (h0 : N'[0]? = some y := by rfl) (h1 : N'[1]? = some ("%r" : Str) := by rfl) (h2 : N'[2]? = some ("%k" : Str) := by rfl) (hs : N'[ns]? = some ("self" : Str) := by rfl) (hlen : N'.length = ns + 1 := by rfl) (h3 : 3 ≤ ns := by decide) (hn : 3 ≤ n := by decide) (hn2 : n ≤ ns + 1 := by decide)
    (nr : (defScope st).names.lookup ("%r" : Str) = none := by rfl) (nk : (defScope st).names.lookup ("%k" : Str) = none := by rfl) (hU : 2 ∈ U := by decide) : GloM P w K mg base C m (k + 1) (fnD 3 n [2] t) := by
  obtain ⟨f, fd, hM, F⟩ := D.ex
  exact ⟨f, fd, ["self", y], hM, F.binds bi, fnM_ok F S h0 h1 h2 hs hlen h3 hn hn2 nr nk hU fun cdv A outer s H E P0 hr => hb cdv A outer s H E P0 f hr⟩
theorem glop_mk (N' : List Str) (ns : Nat) {t : SM} (D : MDef K C m qual st) (S : FnScope N ["self", y, y2] (defScope st))
    (hb : ∀ (cdv : Value) (A : Around) (outer : List PySem.Env) (s : Shared) (H : Hp) (E : XK) (P0 : Pr) (f : Addr), Room k (A.deeper (envOfC qual (defScope st) s.heap.objs.size f cdv)) →
      CSs (cxOf (L2N.CX P w) P w K mg base N' qual (defScope st) f cdv A outer s H E) P0 [] [] [] (exE mg E) (defBody st) t)
    (bi : ∀ (kV doc pm : Value) (an : Option Addr) (cdv ct : Value) (us : List Value), us.length = 3 → bindArgs (PySem.W.fnOf m qual (defArgs st) (defBody st) (defScope st) .none kV doc pm an cdv ct) ⟨us, []⟩ = Pure.pure ((["self", y, y2] : List Str).zip us))
    (h0 : N'[0]? = some y := by rfl) (h1 : N'[1]? = some y2 := by rfl) (hs : N'[ns]? = some ("self" : Str) := by rfl) (hlen : N'.length = ns + 1 := by rfl) (h3 : 2 ≤ ns := by decide) (hn : 2 ≤ n := by decide) (hn2 : n ≤ ns + 1 := by decide) : GloP P w K mg base C m (k + 1) 2 (fnP 2 n t) := by
  obtain ⟨f, fd, hM, F⟩ := D.ex
  refine ⟨f, fd, ["self", y, y2], hM, F.binds bi, (fnP_ok F S h0 h1 hs hlen h3 hn hn2 fun cdv A outer s H E P0 hr => hb cdv A outer s H E P0 f hr).imp fun vs H Q E ⟨a, ws, e, h⟩ => ?_⟩
  have hl : ws.length = 2 := h.1
  match ws, hl with
  | [u, v], _ => exact ⟨a, u, v, e, spD_pure h⟩
theorem looks_mk (N' : List Str) (ns : Nat) {t : SM} {sf : Stmt} {p1 q1 d1 w1 p2 q2 d2 w2 : Pos} (D : IDef K mg x C qual st) (S : FnScope N ["self", y] (defScope st))
    (hb : ∀ (cdv : Value) (A : Around) (outer : List PySem.Env) (s : Shared) (H : Hp) (E : XK) (P0 : Pr) (f : Addr), Room k (A.deeper (envOfC qual (defScope st) s.heap.objs.size f cdv)) → LkI K C → ∀ (a dx q : Addr),
      PS (cxOf (L2N.CX P w) P w K mg base N' qual (defScope st) f cdv A outer s H E) sf (gS K P0 (InG ns C a dx q) 1 [1, ns] (exE mg E) t))
    (bi : ∀ (kV doc pm : Value) (an : Option Addr) (cdv ct : Value) (us : List Value), us.length = 2 → bindArgs (PySem.W.fnOf "__init__" qual (defArgs st) (defBody st) (defScope st) .none kV doc pm an cdv ct) ⟨us, []⟩ = Pure.pure ((["self", y] : List Str).zip us))
    (hbody : defBody st = [.Assign [.Attribute (.Name "self" p1) "rows" q1] (.Dict [] [] d1) w1, sf, .Assign [.Attribute (.Name "self" p2) "known" q2] (.Dict [] [] d2) w2])
    (h0 : N'[0]? = some y := by rfl) (h1 : N'[1]? = some ("%r" : Str) := by rfl) (hs : N'[ns]? = some ("self" : Str) := by rfl) (hlen : N'.length = ns + 1 := by rfl) (h2 : 2 ≤ ns := by decide) (hn : n + 1 ≤ ns := by decide)
    (nr : (defScope st).names.lookup ("%r" : Str) = none := by rfl) (hv : Vis (defScope st) ("self" : Str) := by first | exact Or.inl rfl | exact Or.inr (Or.inl rfl)) : LooksC P w K mg base x C (k + 1) (initD n t) := by
  obtain ⟨f, fd, hm, hM, F, c⟩ := D.ex
  exact ⟨f, fd, ["self", y], hm, hM, F.binds bi, c, fnI_ok F S c h0 h1 hs hlen h2 hn nr hv hbody fun cdv A outer s H E P0 hr => hb cdv A outer s H E P0 f hr c⟩
end
theorem initD_eq {n : Nat} {m : SM} {ds : List D} : initD n m ds = (m (ds.map some ++ (some (.dit [] []) :: List.replicate n none)) >>= fun p => match p.1 with | .nx => (look 1 p.2).nox >>= fun d => R.ok (.fr d) | _ => .stk) := by
  unfold initD; congr
end Y

set_option Elab.async false
set_option linter.all false
set_option maxRecDepth 100000
namespace C
open PySem PySem.Spec PyProof.Rows L2 Y
/-- slots: 0:many 1:found 2:k 3:stand -/
noncomputable def e_stands_of_1 : EM := cOp addD (cTup (cCons (cC (.int 0)) (cNil))) (cVar 3)
noncomputable def e_stands_of_2 : EM := cOp addD (cTup (cCons (cC (.int 1)) (cNil))) (cVar 3)
noncomputable def b_stands_of_1 : SM := sAsg (cOp addD (cComp (cIter (cVar 1)) (tmName 3) (cYes) (e_stands_of_1) [3]) (cComp (cIter (cVar 1)) (tmName 3) (cYes) (e_stands_of_2) [3])) (tmName 1)
noncomputable def m_stands_of : SM := sSeq (sAsg (cLst (cCons (cTup (cNil)) (cNil))) (tmName 1)) (sSeq (sFor [] (cRange rng1D (cCons (cVar 0) (cNil))) (tmName 2) (b_stands_of_1) [2]) (sRet (cVar 1)))
noncomputable def g_stands_of : List D → R Hd := fnP 1 4 m_stands_of
/-- slots: 0:bits 1:place 2:bit -/
noncomputable def b_place_of_1 : SM := sAsg (cOp addD (cOp mulD (cC (.int 2)) (cVar 1)) (cVar 2)) (tmName 1)
noncomputable def m_place_of : SM := sSeq (sAsg (cC (.int 0)) (tmName 1)) (sSeq (sFor [] (cIter (cVar 0)) (tmName 2) (b_place_of_1) [2]) (sRet (cVar 1)))
noncomputable def g_place_of : List D → R Hd := fnP 1 3 m_place_of
/-- slots: 0:net 1:stand 2:k 3:ears 4:table 5:ear -/
noncomputable def e_ought_1 : EM := cIx (cVar 1) (cVar 5)
noncomputable def m_ought : SM := sSeq (sAsg (cIx (cVar 0) (cVar 2)) (tmTup [3, 4])) (sRet (cIx (cVar 4) (cCallF g_place_of (cCons (cComp (cIter (cVar 3)) (tmName 5) (cYes) (e_ought_1) [5]) (cNil)))))
noncomputable def g_ought : List D → R Hd := fnP 3 6 m_ought
/-- slots: 0:script 1:k -/
noncomputable def m__law_cell : SM := sSeq (sIf (cBl (cOp ltD (cVar 1) (cCall lenD (cCons (cVar 0) (cNil))))) (sRet (cIx (cVar 0) (cVar 1))) (sSkip)) (sRet (cOp addD (cOp mulD (cC (.int 6151)) (cVar 1)) (cC (.int 29))))
noncomputable def g__law_cell : List D → R Hd := fnP 2 2 m__law_cell
/-- slots: 0:script 1:k 2:cell 3:number 4:mixed 5:j -/
noncomputable def b__law_box_2_1 : SM := sSeq (sAsg (cOp modD (cOp addD (cOp addD (cOp addD (cOp mulD (cVar 4) (cC (.int 48271))) (cOp mulD (cOp mulD (cC (.int 7)) (cVar 5)) (cVar 5))) (cOp mulD (cC (.int 11)) (cVar 1))) (cC (.int 1))) (cC (.int 2147483647))) (tmName 4)) (sAsg (cOp addD (cOp mulD (cVar 3) (cC (.int 2147483647))) (cVar 4)) (tmName 3))
noncomputable def m__law_box_2 : SM := sSeq (sAsg (cCallF g__law_cell (cCons (cVar 0) (cCons (cVar 1) (cNil)))) (tmName 2)) (sSeq (sIf (cBl (cOp eqD (cOp modD (cVar 2) (cC (.int 2))) (cC (.int 0)))) (sRet (cLst (cCons (cOp fdivD (cVar 2) (cC (.int 2))) (cNil)))) (sSkip)) (sSeq (sAsg (cC (.int 0)) (tmName 3)) (sSeq (sAsg (cOp modD (cVar 2) (cC (.int 2147483647))) (tmName 4)) (sSeq (sFor [] (cRange rng1D (cCons (cC (.int 24)) (cNil))) (tmName 5) (b__law_box_2_1) [5]) (sRet (cLst (cCons (cVar 3) (cNil))))))))
noncomputable def g__law_box_2 : List D → R Hd := fnP 2 6 m__law_box_2
/-- slots: 0:box 1:many 2:digit -/
noncomputable def m__law_take_2 : SM := sSeq (sAsg (cOp modD (cIx (cOwn 0) (cC (.int 0))) (cVar 1)) (tmName 2)) (sSeq (sSetIx 0 (cC (.int 0)) (cOp fdivD (cIx (cOwn 0) (cC (.int 0))) (cVar 1))) (sRet (cVar 2)))
noncomputable def g__law_take_2 : Fn := fnD 2 3 [0] m__law_take_2
/-- slots: 0:many 1:found 2:k 3:row -/
noncomputable def e__law_readings_1 : EM := cOp addD (cVar 3) (cTup (cCons (cC (.int 0)) (cNil)))
noncomputable def e__law_readings_2 : EM := cOp addD (cVar 3) (cTup (cCons (cC (.int 1)) (cNil)))
noncomputable def b__law_readings_1 : SM := sAsg (cOp addD (cComp (cIter (cVar 1)) (tmName 3) (cYes) (e__law_readings_1) [3]) (cComp (cIter (cVar 1)) (tmName 3) (cYes) (e__law_readings_2) [3])) (tmName 1)
noncomputable def m__law_readings : SM := sSeq (sAsg (cLst (cCons (cTup (cNil)) (cNil))) (tmName 1)) (sSeq (sFor [] (cRange rng1D (cCons (cVar 0) (cNil))) (tmName 2) (b__law_readings_1) [2]) (sRet (cCall sortD (cCons (cVar 1) (cNil)))))
noncomputable def g__law_readings : List D → R Hd := fnP 1 4 m__law_readings
/-- slots: 0:box 1:many 2:left 3:ears 4:k 5:rows 6:way 7:signs 8:least 9:table 10:ear 11:row -/
noncomputable def b__law_rule_2_1 : SM := sAppend 3 (cPopAt 2 (cCallIO [(0, 0)] g__law_take_2 (cCons (cOwn 0) (cCons (cCall lenD (cCons (cOwn 2) (cNil))) (cNil)))))
noncomputable def e__law_rule_2_1 : EM := cCallIO [(0, 0)] g__law_take_2 (cCons (cOwn 0) (cCons (cC (.int 2)) (cNil)))
noncomputable def e__law_rule_2_2 : EM := cC (.int 1)
noncomputable def e__law_rule_2_3 : EM := cCallIO [(0, 0)] g__law_take_2 (cCons (cOwn 0) (cCons (cC (.int 2)) (cNil)))
noncomputable def t__law_rule_2_4 : BM := cBl (cOp eqD (cIx (cVar 11) (cVar 4)) (cIx (cVar 7) (cVar 4)))
noncomputable def e__law_rule_2_4 : EM := cVar 4
noncomputable def e__law_rule_2_5 : EM := cCall intOfD (cCons (cOp geD (cCall lenD (cCons (cComp (cRange rng1D (cCons (cCall lenD (cCons (cOwn 3) (cNil))) (cNil))) (tmName 4) (t__law_rule_2_4) (e__law_rule_2_4) [4]) (cNil))) (cVar 8)) (cNil))
noncomputable def m__law_rule_2 : SM := sSeq (sOwn [0, 2, 3] [0, 2] (cRg1 true (cVar 1)) 2) (sSeq (sOwn [0, 2, 3] [0, 2] (cLst (cNil)) 3) (sSeq (sFor [0] (cRange rng1D (cCons (cCall min2D (cCons (cCallIO [(0, 0)] g__law_take_2 (cCons (cOwn 0) (cCons (cC (.int 5)) (cNil)))) (cCons (cVar 1) (cNil)))) (cNil))) (tmName 4) (b__law_rule_2_1) []) (sSeq (sAsg (cCallF g__law_readings (cCons (cCall lenD (cCons (cOwn 3) (cNil))) (cNil))) (tmName 5)) (sSeq (sAsg (cCallIO [(0, 0)] g__law_take_2 (cCons (cOwn 0) (cCons (cC (.int 3)) (cNil)))) (tmName 6)) (sSeq (sIf (cBl (cOp eqD (cVar 6) (cC (.int 0)))) (sRet (cTup (cCons (cCall tupleD (cCons (cCall sortD (cCons (cOwn 3) (cNil))) (cNil))) (cCons (cCall tupleD (cCons (cComp (cIter (cVar 5)) (tmName 11) (cYes) (e__law_rule_2_1) [11]) (cNil))) (cNil))))) (sSkip)) (sSeq (sAsg (cComp (cIter (cOwn 3)) (tmName 10) (cYes) (e__law_rule_2_2) [10]) (tmName 7)) (sSeq (sIf (cBl (cOp eqD (cVar 6) (cC (.int 1)))) (sAsg (cComp (cIter (cOwn 3)) (tmName 10) (cYes) (e__law_rule_2_3) [10]) (tmName 7)) (sSkip)) (sSeq (sAsg (cCallIO [(0, 0)] g__law_take_2 (cCons (cOwn 0) (cCons (cOp addD (cCall lenD (cCons (cOwn 3) (cNil))) (cC (.int 2))) (cNil)))) (tmName 8)) (sSeq (sAsg (cComp (cIter (cVar 5)) (tmName 11) (cYes) (e__law_rule_2_5) [11]) (tmName 9)) (sRet (cTup (cCons (cCall tupleD (cCons (cCall sortD (cCons (cOwn 3) (cNil))) (cNil))) (cCons (cCall tupleD (cCons (cVar 9) (cNil))) (cNil))))))))))))))
noncomputable def g__law_rule_2 : Fn := fnD 2 12 [0] m__law_rule_2
/-- slots: 0:nets 1:net -/
noncomputable def e_need_nets_1 : EM := cCall lenD (cCons (cVar 1) (cNil))
noncomputable def m_need_nets : SM := sIf (cOrT (cNotT (cBl (cChain leD leD (cC (.int 2)) (cCall lenD (cCons (cVar 0) (cNil))) (cC (.int 6))))) (cOrT (cBl (cOp gtD (cLenSet (cComp (cIter (cVar 0)) (tmName 1) (cYes) (e_need_nets_1) [1])) (cC (.int 1)))) (cBl (cOp gtD (cCall lenD (cCons (cIx (cVar 0) (cC (.int 0))) (cNil))) (cC (.int 5)))))) (sRaise "TooMany") (sSkip)
noncomputable def g_need_nets : List D → R Hd := fnP 1 2 m_need_nets
/-- slots: 0:net 1:stand 2:k 3:ears 4:table 5:place 6:ear -/
noncomputable def b__law_told_1 : SM := sAsg (cOp addD (cOp mulD (cC (.int 2)) (cVar 5)) (cIx (cVar 1) (cVar 6))) (tmName 5)
noncomputable def m__law_told : SM := sSeq (sAsg (cIx (cVar 0) (cVar 2)) (tmTup [3, 4])) (sSeq (sAsg (cC (.int 0)) (tmName 5)) (sSeq (sFor [] (cIter (cVar 3)) (tmName 6) (b__law_told_1) [6]) (sRet (cIx (cVar 4) (cVar 5)))))
noncomputable def g__law_told : List D → R Hd := fnP 3 7 m__law_told
/-- slots: 0:thing -/
noncomputable def m__law_whole_2 : SM := sRet (cAnd (cIsi isInt (cVar 0)) (cNot (cIsi isBl (cVar 0))))
noncomputable def g__law_whole_2 : List D → R Hd := fnP 1 1 m__law_whole_2
/-- slots: 0:box 1:many 2:found 3:turn 4:net 5:k -/
noncomputable def e__law_nets_1 : EM := cCallIO [(0, 0)] g__law_rule_2 (cCons (cOwn 0) (cCons (cVar 1) (cNil)))
noncomputable def b__law_nets_1 : SM := sSeq (sAsg (cCall tupleD (cCons (cComp (cRange rng1D (cCons (cVar 1) (cNil))) (tmName 5) (cYes) (e__law_nets_1) [5]) (cNil))) (tmName 4)) (sSeq (sIf (cAndT (cBl (cOp neD (cOwn 2) (cLst (cNil)))) (cBl (cOp gtD (cCallIO [(0, 0)] g__law_take_2 (cCons (cOwn 0) (cCons (cC (.int 3)) (cNil)))) (cC (.int 0))))) (sSeq (sAsg (cCallIO [(0, 0)] g__law_take_2 (cCons (cOwn 0) (cCons (cVar 1) (cNil)))) (tmName 5)) (sAsg (cOp addD (cOp addD (cSlice (cIx (cOwn 2) (cNeg (cC (.int 1)))) (cNoPart) (cPart (cVar 5))) (cTup (cCons (cIx (cVar 4) (cVar 5)) (cNil)))) (cSlice (cIx (cOwn 2) (cNeg (cC (.int 1)))) (cPart (cOp addD (cVar 5) (cC (.int 1)))) (cNoPart))) (tmName 4))) (sSkip)) (sAppend 2 (cVar 4)))
noncomputable def m__law_nets : SM := sSeq (sAsg (cOp addD (cC (.int 1)) (cCallIO [(0, 0)] g__law_take_2 (cCons (cOwn 0) (cCons (cC (.int 5)) (cNil))))) (tmName 1)) (sSeq (sOwn [0, 2] [0] (cLst (cNil)) 2) (sSeq (sFor [0] (cRange rng1D (cCons (cOp addD (cC (.int 2)) (cCallIO [(0, 0)] g__law_take_2 (cCons (cOwn 0) (cCons (cC (.int 5)) (cNil))))) (cNil))) (tmName 3) (b__law_nets_1) [3, 4, 5]) (sRet (cOwn 2))))
noncomputable def g__law_nets : Fn := fnD 1 6 [0] m__law_nets
/-- slots: 0:tree -/
noncomputable def m__law_depth (G : List D → R Hd) : SM := sSeq (sIf (cBl (cOp eqD (cIx (cVar 0) (cC (.int 0))) (cC (.str "is")))) (sRet (cC (.int 0))) (sSkip)) (sRet (cOp addD (cC (.int 1)) (cCall max2D (cCons (cCallF G (cCons (cIx (cVar 0) (cC (.int 3))) (cNil))) (cCons (cCallF G (cCons (cIx (cVar 0) (cC (.int 4))) (cNil))) (cNil))))))
noncomputable def r__law_depth : Nat → List D → R Hd
  | 0 => fnP 1 1 (fun _ => .stk)
  | n + 1 => fnP 1 1 (m__law_depth (r__law_depth n))
noncomputable def g__law_depth : List D → R Hd := r__law_depth 40
/-- slots: 0:nets 1:tree 2:i 3:here -/
noncomputable def b__law_shown_1 : SM := sAsg (cIx (cVar 3) (cOp addD (cC (.int 3)) (cCallF g__law_told (cCons (cIx (cVar 0) (cVar 2)) (cCons (cIx (cVar 3) (cC (.int 1))) (cCons (cIx (cVar 3) (cC (.int 2))) (cNil))))))) (tmName 3)
noncomputable def b__law_shown_2 : SM := sSeq (sAsg (cVar 1) (tmName 3)) (sSeq (sWhile (cBl (cOp eqD (cIx (cVar 3) (cC (.int 0))) (cC (.str "look")))) (b__law_shown_1) []) (sIf (cBl (cOp neD (cIx (cVar 3) (cC (.int 1))) (cVar 2))) (sRet (cC .non)) (sSkip)))
noncomputable def m__law_shown : SM := sSeq (sFor [] (cRange rng1D (cCons (cCall lenD (cCons (cVar 0) (cNil))) (cNil))) (tmName 2) (b__law_shown_2) [2, 3]) (sRet (cCallF g__law_depth (cCons (cVar 1) (cNil))))
noncomputable def g__law_shown : List D → R Hd := fnP 2 4 m__law_shown
/-- slots: 0:thing 1:many 2:one -/
noncomputable def e__law_bits_2_1 : EM := cAnd (cIsi isInt (cVar 2)) (cAnd (cNot (cIsi isBl (cVar 2))) (cOp inD (cVar 2) (cTup (cCons (cC (.int 0)) (cCons (cC (.int 1)) (cNil))))))
noncomputable def m__law_bits_2 : SM := sSeq (sIf (cOrT (cNotT (cTru (cIsi isTup (cVar 0)))) (cBl (cOp neD (cCall lenD (cCons (cVar 0) (cNil))) (cVar 1)))) (sRet (cC (.bl false))) (sSkip)) (sRet (cCall allD (cCons (cComp (cIter (cVar 0)) (tmName 2) (cYes) (e__law_bits_2_1) [2]) (cNil))))
noncomputable def g__law_bits_2 : List D → R Hd := fnP 2 3 m__law_bits_2
/-- slots: 0:nets 1:rows 2:stand 3:switch 4:row 5:net -/
noncomputable def e_looks_rows_1 : EM := cCallF g_ought (cCons (cVar 5) (cCons (cVar 2) (cCons (cVar 3) (cNil))))
noncomputable def b_looks_rows_1 : SM := sSeq (sAsg (cCall tupleD (cCons (cComp (cIter (cVar 0)) (tmName 5) (cYes) (e_looks_rows_1) [5]) (cNil))) (tmName 4)) (sExpr (cSetD 1 (cVar 4) (cTup (cCons (cVar 2) (cCons (cVar 3) (cNil))))))
noncomputable def b_looks_rows_2 : SM := sFor [1, 6] (cRange rng1D (cCons (cCall lenD (cCons (cIx (cVar 0) (cC (.int 0))) (cNil))) (cNil))) (tmName 3) (b_looks_rows_1) [3, 4]
noncomputable def m_looks_rows : SM := (sFor [1, 6] (cIter (cCallF g_stands_of (cCons (cCall lenD (cCons (cIx (cVar 0) (cC (.int 0))) (cNil))) (cNil)))) (tmName 2) (b_looks_rows_2) [2, 3, 4])
noncomputable def g_looks_rows : List D → R Hd := initD 4 m_looks_rows
/-- slots: 0:some 1:row 2:low 3:high 4:net -/
noncomputable def t_parted_1 : BM := cBl (cOp eqD (cIx (cVar 1) (cVar 4)) (cC (.int 0)))
noncomputable def e_parted_1 : EM := cVar 4
noncomputable def t_parted_2 : BM := cBl (cOp eqD (cIx (cVar 1) (cVar 4)) (cC (.int 1)))
noncomputable def e_parted_2 : EM := cVar 4
noncomputable def m_parted : SM := sSeq (sAsg (cCall tupleD (cCons (cComp (cIter (cVar 0)) (tmName 4) (t_parted_1) (e_parted_1) [4]) (cNil))) (tmName 2)) (sSeq (sAsg (cCall tupleD (cCons (cComp (cIter (cVar 0)) (tmName 4) (t_parted_2) (e_parted_2) [4]) (cNil))) (tmName 3)) (sRet (cTup (cCons (cVar 2) (cCons (cVar 3) (cNil))))))
noncomputable def g_parted : List D → R Hd := fnP 2 5 m_parted
/-- slots: 0:some 1:rows 2:known 3:found 4:row 5:low 6:high 7:sides -/
noncomputable def b_best_1 (G : Fn) : SM := sSeq (sAsg (cCallF g_parted (cCons (cVar 0) (cCons (cVar 4) (cNil)))) (tmTup [5, 6])) (sIf (cAndT (cBl (cOp neD (cVar 5) (cTup (cNil)))) (cBl (cOp neD (cVar 6) (cTup (cNil))))) (sSeq (sAsg (cLst (cCons (cCallIO [(2, 2)] G (cCons (cVar 5) (cCons (cVar 1) (cCons (cOwn 2) (cNil))))) (cCons (cCallIO [(2, 2)] G (cCons (cVar 6) (cCons (cVar 1) (cCons (cOwn 2) (cNil))))) (cNil)))) (tmName 7)) (sIf (cAndT (cBl (cOp ninD (cC .non) (cVar 7))) (cOrT (cBl (cOp isD (cVar 3) (cC .non))) (cBl (cOp ltD (cOp addD (cC (.int 1)) (cCall max2D (cCons (cIx (cIx (cVar 7) (cC (.int 0))) (cC (.int 0))) (cCons (cIx (cIx (cVar 7) (cC (.int 1))) (cC (.int 0))) (cNil))))) (cIx (cVar 3) (cC (.int 0))))))) (sAsg (cTup (cCons (cOp addD (cC (.int 1)) (cCall max2D (cCons (cIx (cIx (cVar 7) (cC (.int 0))) (cC (.int 0))) (cCons (cIx (cIx (cVar 7) (cC (.int 1))) (cC (.int 0))) (cNil))))) (cCons (cVar 4) (cNil)))) (tmName 3)) (sSkip))) (sSkip))
noncomputable def m_best (G : Fn) : SM := sSeq (sIf (cBl (cOp eqD (cCall lenD (cCons (cVar 0) (cNil))) (cC (.int 1)))) (sRet (cTup (cCons (cC (.int 0)) (cCons (cC .non) (cNil))))) (sSkip)) (sSeq (sIf (cBl (cDIn true (cVar 0) (cOwn 2))) (sSeq (sAsg (cC .non) (tmName 3)) (sSeq (sFor [1, 2, 8] (cKeysG 1) (tmName 4) ((b_best_1 G)) [4, 5, 6, 7]) (sDPutS 2 (cVar 0) (cVar 3)))) (sSkip)) (sRet (cDGet (cOwn 2) (cVar 0))))
noncomputable def r_best : Nat → Fn
  | 0 => fnD 3 8 [2] (fun _ => .stk)
  | n + 1 => fnD 3 8 [2] (m_best (r_best n))
noncomputable def g_best : Fn := r_best 40
/-- slots: 0:some 1:rows 2:known 3:row 4:low 5:high 6:stand 7:switch -/
noncomputable def m_tree (G : Fn) : SM := sSeq (sIf (cBl (cOp eqD (cCall lenD (cCons (cVar 0) (cNil))) (cC (.int 1)))) (sRet (cTup (cCons (cC (.str "is")) (cCons (cIx (cVar 0) (cC (.int 0))) (cNil))))) (sSkip)) (sSeq (sAsg (cIx (cCallIO [(2, 2)] g_best (cCons (cVar 0) (cCons (cVar 1) (cCons (cOwn 2) (cNil))))) (cC (.int 1))) (tmName 3)) (sSeq (sAsg (cCallF g_parted (cCons (cVar 0) (cCons (cVar 3) (cNil)))) (tmTup [4, 5])) (sSeq (sAsg (cDGet (cVar 1) (cVar 3)) (tmTup [6, 7])) (sRet (cTup (cCons (cC (.str "look")) (cCons (cVar 6) (cCons (cVar 7) (cCons (cCallIO [(2, 2)] G (cCons (cVar 4) (cCons (cVar 1) (cCons (cOwn 2) (cNil))))) (cCons (cCallIO [(2, 2)] G (cCons (cVar 5) (cCons (cVar 1) (cCons (cOwn 2) (cNil))))) (cNil)))))))))))
noncomputable def r_tree : Nat → Fn
  | 0 => fnD 3 8 [2] (fun _ => .stk)
  | n + 1 => fnD 3 8 [2] (m_tree (r_tree n))
noncomputable def g_tree : Fn := r_tree 40
/-- slots: 0:nets 1:found -/
noncomputable def m_fewest_looks : SM := sSeq (sExpr (cCallF g_need_nets (cCons (cVar 0) (cNil)))) (sSeq (sAsg (cLooks g_looks_rows g_best (cVar 0) (cRg1 false (cCall lenD (cCons (cVar 0) (cNil))))) (tmName 1)) (sSeq (sIf (cBl (cOp isD (cVar 1) (cC .non))) (sRet (cC .non)) (sSkip)) (sRet (cIx (cVar 1) (cC (.int 0))))))
noncomputable def g_fewest_looks : List D → R Hd := fnP 1 2 m_fewest_looks
/-- slots: 0:nets -/
noncomputable def m_look_tree : SM := sSeq (sIf (cBl (cOp isD (cCallF g_fewest_looks (cCons (cVar 0) (cNil))) (cC .non))) (sRet (cC .non)) (sSkip)) (sRet (cLooks g_looks_rows g_tree (cVar 0) (cRg1 false (cCall lenD (cCons (cVar 0) (cNil))))))
noncomputable def g_look_tree : List D → R Hd := fnP 1 1 m_look_tree
/-- slots: 0:nets 1:found 2:stand 3:k 4:row 5:net -/
noncomputable def e__law_rows_1 : EM := cCallF g__law_told (cCons (cVar 5) (cCons (cVar 2) (cCons (cVar 3) (cNil))))
noncomputable def b__law_rows_1 : SM := sSeq (sAsg (cComp (cIter (cVar 0)) (tmName 5) (cYes) (e__law_rows_1) [5]) (tmName 4)) (sIf (cBl (cOp ninD (cVar 4) (cOwn 1))) (sAppend 1 (cVar 4)) (sSkip))
noncomputable def b__law_rows_2 : SM := sFor [] (cRange rng1D (cCons (cCall lenD (cCons (cIx (cVar 0) (cC (.int 0))) (cNil))) (cNil))) (tmName 3) (b__law_rows_1) [3, 4]
noncomputable def m__law_rows : SM := sSeq (sOwn [1] [] (cLst (cNil)) 1) (sSeq (sFor [] (cIter (cCallF g__law_readings (cCons (cCall lenD (cCons (cIx (cVar 0) (cC (.int 0))) (cNil))) (cNil)))) (tmName 2) (b__law_rows_2) [2, 3, 4]) (sRet (cOwn 1)))
noncomputable def g__law_rows : List D → R Hd := fnP 1 6 m__law_rows
/-- slots: 0:rows 1:some 2:known 3:key 4:row 5:low 6:high 7:both 8:i -/
noncomputable def t__law_least_3_1 (G : Fn) : BM := cBl (cOp eqD (cIx (cVar 4) (cVar 8)) (cC (.int 0)))
noncomputable def e__law_least_3_1 (G : Fn) : EM := cVar 8
noncomputable def t__law_least_3_2 (G : Fn) : BM := cBl (cOp eqD (cIx (cVar 4) (cVar 8)) (cC (.int 1)))
noncomputable def e__law_least_3_2 (G : Fn) : EM := cVar 8
noncomputable def b__law_least_3_1 (G : Fn) : SM := sSeq (sAsg (cComp (cIter (cVar 1)) (tmName 8) (t__law_least_3_1 G) (e__law_least_3_1 G) [8]) (tmName 5)) (sSeq (sAsg (cComp (cIter (cVar 1)) (tmName 8) (t__law_least_3_2 G) (e__law_least_3_2 G) [8]) (tmName 6)) (sIf (cAndT (cBl (cOp neD (cVar 5) (cLst (cNil)))) (cBl (cOp neD (cVar 6) (cLst (cNil))))) (sSeq (sAsg (cCall max2D (cCons (cCallIO [(2, 2)] G (cCons (cVar 0) (cCons (cVar 5) (cCons (cOwn 2) (cNil))))) (cCons (cCallIO [(2, 2)] G (cCons (cVar 0) (cCons (cVar 6) (cCons (cOwn 2) (cNil))))) (cNil)))) (tmName 7)) (sDPutS 2 (cVar 3) (cCall min2D (cCons (cDGet (cOwn 2) (cVar 3)) (cCons (cOp addD (cC (.int 1)) (cVar 7)) (cNil)))))) (sSkip)))
noncomputable def m__law_least_3 (G : Fn) : SM := sSeq (sAsg (cCall tupleD (cCons (cVar 1) (cNil))) (tmName 3)) (sSeq (sIf (cBl (cOp ltD (cCall lenD (cCons (cVar 1) (cNil))) (cC (.int 2)))) (sRet (cC (.int 0))) (sSkip)) (sSeq (sIf (cBl (cDIn true (cVar 3) (cOwn 2))) (sSeq (sDPutS 2 (cVar 3) (cC (.int 99))) (sFor [2] (cIter (cVar 0)) (tmName 4) ((b__law_least_3_1 G)) [4, 5, 6, 7])) (sSkip)) (sRet (cDGet (cOwn 2) (cVar 3)))))
noncomputable def r__law_least_3 : Nat → Fn
  | 0 => fnD 3 9 [2] (fun _ => .stk)
  | n + 1 => fnD 3 9 [2] (m__law_least_3 (r__law_least_3 n))
noncomputable def g__law_least_3 : Fn := r__law_least_3 40
/-- slots: 0:many 1:tree -/
noncomputable def m__law_is_tree (G : List D → R Hd) : SM := sSeq (sIf (cOrT (cNotT (cTru (cIsi isTup (cVar 1)))) (cBl (cOp eqD (cVar 1) (cTup (cNil))))) (sRet (cC (.bl false))) (sSkip)) (sSeq (sIf (cBl (cOp eqD (cIx (cVar 1) (cC (.int 0))) (cC (.str "is")))) (sRet (cAnd (cOp eqD (cCall lenD (cCons (cVar 1) (cNil))) (cC (.int 2))) (cCallF g__law_whole_2 (cCons (cIx (cVar 1) (cC (.int 1))) (cNil))))) (sSkip)) (sSeq (sIf (cOrT (cBl (cOp neD (cIx (cVar 1) (cC (.int 0))) (cC (.str "look")))) (cOrT (cBl (cOp neD (cCall lenD (cCons (cVar 1) (cNil))) (cC (.int 5)))) (cOrT (cNotT (cTru (cCallF g__law_bits_2 (cCons (cIx (cVar 1) (cC (.int 1))) (cCons (cVar 0) (cNil)))))) (cNotT (cTru (cCallF g__law_whole_2 (cCons (cIx (cVar 1) (cC (.int 2))) (cNil)))))))) (sRet (cC (.bl false))) (sSkip)) (sRet (cAnd (cChain leD ltD (cC (.int 0)) (cIx (cVar 1) (cC (.int 2))) (cVar 0)) (cAnd (cCallF G (cCons (cVar 0) (cCons (cIx (cVar 1) (cC (.int 3))) (cNil)))) (cCallF G (cCons (cVar 0) (cCons (cIx (cVar 1) (cC (.int 4))) (cNil)))))))))
noncomputable def r__law_is_tree : Nat → List D → R Hd
  | 0 => fnP 2 2 (fun _ => .stk)
  | n + 1 => fnP 2 2 (m__law_is_tree (r__law_is_tree n))
noncomputable def g__law_is_tree : List D → R Hd := r__law_is_tree 40
/-- slots: 0:way 1:nets 2:e -/
noncomputable def w__law_asked_13_1 : TM := tbSeq (tbIf (cBl (cOp eqD (cVar 0) (cC (.int 0)))) (tbRet (cXcall g_fewest_looks (cCons (cVar 1) (cNil)))) (tbNil)) (tbRet (cXcall g_look_tree (cCons (cVar 1) (cNil))))
noncomputable def h__law_asked_13_1 : Str → SM := fun cn => sRet (cC (.str (kindW cn)))
noncomputable def m__law_asked_13 : SM := sTry 2 ["TooMany"] w__law_asked_13_1 h__law_asked_13_1
noncomputable def g__law_asked_13 : List D → R Hd := fnP 2 3 m__law_asked_13
/-- slots: 0:box 1:nets 2:wide 3:some 4:k -/
noncomputable def e__law_others_6_1 : EM := cCallIO [(0, 0)] g__law_rule_2 (cCons (cOwn 0) (cCons (cC (.int 6)) (cNil)))
noncomputable def m__law_others_6 : SM := sSeq (sAsg (cCall tupleD (cCons (cComp (cRange rng1D (cCons (cC (.int 6)) (cNil))) (tmName 4) (cYes) (e__law_others_6_1) [4]) (cNil))) (tmName 2)) (sSeq (sAsg (cLst (cCons (cSlice (cVar 1) (cNoPart) (cPart (cC (.int 1)))) (cCons (cSlice (cOp mulD (cVar 1) (cC (.int 7))) (cNoPart) (cPart (cC (.int 7)))) (cCons (cOp addD (cSlice (cVar 1) (cNoPart) (cPart (cC (.int 1)))) (cLst (cCons (cOp addD (cIx (cVar 1) (cC (.int 0))) (cTup (cCons (cTup (cCons (cTup (cNil)) (cCons (cTup (cCons (cC (.int 0)) (cNil))) (cNil)))) (cNil)))) (cNil)))) (cCons (cLst (cCons (cVar 2) (cCons (cOp addD (cSlice (cVar 2) (cNoPart) (cPart (cC (.int 3)))) (cSlice (cVar 2) (cNoPart) (cPart (cC (.int 3))))) (cNil)))) (cCons (cLst (cNil)) (cNil))))))) (tmName 3)) (sRet (cIx (cVar 3) (cCallIO [(0, 0)] g__law_take_2 (cCons (cOwn 0) (cCons (cC (.int 5)) (cNil)))))))
noncomputable def g__law_others_6 : Fn := fnD 2 5 [0] m__law_others_6
/-- slots: 0:script 1:turn 2:box 3:nets 4:due 5:found 6:tree -/
noncomputable def b_law_k87_1 : SM := sSeq (sOwn [2] [2] (cCallF g__law_box_2 (cCons (cVar 0) (cCons (cVar 1) (cNil)))) 2) (sSeq (sAsg (cCallIO [(0, 2)] g__law_nets (cCons (cOwn 2) (cNil))) (tmName 3)) (sIf (cBl (cOp eqD (cCallIO [(0, 2)] g__law_take_2 (cCons (cOwn 2) (cCons (cC (.int 8)) (cNil)))) (cC (.int 1)))) (sSeq (sAsg (cCallIO [(0, 2)] g__law_others_6 (cCons (cOwn 2) (cCons (cVar 3) (cNil)))) (tmName 3)) (sIf (cOrT (cBl (cOp neD (cCallF g__law_asked_13 (cCons (cC (.int 0)) (cCons (cVar 3) (cNil)))) (cC (.str "many")))) (cBl (cOp neD (cCallF g__law_asked_13 (cCons (cC (.int 1)) (cCons (cVar 3) (cNil)))) (cC (.str "many"))))) (sRet (cC (.bl false))) (sSkip))) (sSeq (sAsg (cCallD g__law_least_3 (cCallF g__law_rows (cCons (cVar 3) (cNil))) (cRg1 true (cCall lenD (cCons (cVar 3) (cNil))))) (tmName 4)) (sSeq (sAsg (cCallF g__law_asked_13 (cCons (cC (.int 0)) (cCons (cVar 3) (cNil)))) (tmName 5)) (sSeq (sAsg (cCallF g__law_asked_13 (cCons (cC (.int 1)) (cCons (cVar 3) (cNil)))) (tmName 6)) (sIf (cBl (cOp gtD (cVar 4) (cC (.int 90)))) (sIf (cOrT (cBl (cOp isNotD (cVar 5) (cC .non))) (cBl (cOp isNotD (cVar 6) (cC .non)))) (sRet (cC (.bl false))) (sSkip)) (sIf (cOrT (cNotT (cTru (cCallF g__law_whole_2 (cCons (cVar 5) (cNil))))) (cBl (cOp neD (cVar 5) (cVar 4)))) (sRet (cC (.bl false))) (sIf (cOrT (cNotT (cTru (cCallF g__law_is_tree (cCons (cCall lenD (cCons (cIx (cVar 3) (cC (.int 0))) (cNil))) (cCons (cVar 6) (cNil)))))) (cBl (cOp neD (cCallF g__law_shown (cCons (cVar 3) (cCons (cVar 6) (cNil)))) (cVar 4)))) (sRet (cC (.bl false))) (sSkip)))))))))
noncomputable def m_law_k87 : SM := sSeq (sFor [] (cRange rng1D (cCons (cCall max2D (cCons (cC (.int 1)) (cCons (cCall min2D (cCons (cCall lenD (cCons (cVar 0) (cNil))) (cCons (cC (.int 3)) (cNil)))) (cNil)))) (cNil))) (tmName 1) (b_law_k87_1) [1, 2, 3, 4, 5, 6]) (sRet (cC (.bl true)))
noncomputable def g_law_k87 : List D → R Hd := fnP 1 7 m_law_k87
end C

set_option Elab.async false
set_option linter.all false
set_option maxRecDepth 100000
namespace H
open PySem PySem.Spec PyProof.Rows L2 Y
abbrev ti (xs : List Int) : D := .tup (xs.map D.int)
abbrev dRule (r : List Int × List Int) : D := .tup [ti r.1, ti r.2]
abbrev dNet (ns : List (List Int × List Int)) : D := .tup (ns.map dRule)
def placeI (xs : List Int) : Int := xs.foldl (fun p b => 2 * p + b) 0
theorem place_of_lst {xs : List Int} (hx : xs.length ≤ 16777216) : C.g_place_of [.lst (xs.map D.int)] = .ok (.vl (.int (placeI xs))) := by
  have h := for_run (tm := tmName 2) (body := C.b_place_of_1) (vs := [2]) (ws := []) D.int (fun p : Int => [some (D.lst (xs.map D.int)), some (.int p), none]) (fun p x => 2 * p + x) (fun _ => True) xs 0 trivial (fun p x _ hx => by
    simp [turnF, C.b_place_of_1, mulOk_l])
  simp [C.g_place_of, C.m_place_of, e_fnP, szOk_of hx, h.1, placeI]
end H

set_option Elab.async false
set_option linter.all false
set_option maxRecDepth 100000
namespace H
open PySem PySem.Spec PyProof.Rows L2 Y
theorem atI_nat' {α : Type} {xs : List α} {k : Nat} (h : k < xs.length) : atI xs (k : Int) = some xs[k] := atI_of (j := k) rfl (List.getElem?_eq_getElem h)
theorem atI_map {α β : Type} {f : α → β} {xs : List α} {i : Int} : atI (xs.map f) i = (atI xs i).map f := by
  unfold atI
  rw [List.length_map]
  cases ixN xs.length i with
  | none => rfl
  | some j => simp
theorem atI_int {xs : List Int} {i : Int} (h0 : 0 ≤ i) (h : i < xs.length) : atI xs i = some (xs.getD i.toNat 0) := by
  rw [atI_lt h0 h, List.getD_eq_getElem?_getD, List.getElem?_eq_getElem (by omega)]
  rfl
theorem atI_mapI {xs : List Int} {i : Int} (h0 : 0 ≤ i) (h : i < xs.length) : atI (xs.map D.int) i = some (.int (xs.getD i.toNat 0)) := by rw [atI_map, atI_int h0 h]; rfl
theorem place_go : ∀ {xs : List Int} {p : Int}, 0 ≤ p → (∀ x ∈ xs, 0 ≤ x ∧ x < 2) → 0 ≤ xs.foldl (fun p b => 2 * p + b) p ∧ xs.foldl (fun p b => 2 * p + b) p < (p + 1) * 2 ^ xs.length
  | [], p, hp, _ => by simp; omega
  | x :: xs, p, hp, h => by
    have hx := h x (by simp)
    have ih := place_go (xs := xs) (p := 2 * p + x) (by omega) fun y hy => h y (by simp [hy])
    rw [List.foldl_cons, List.length_cons, Int.pow_succ]
    refine ⟨ih.1, Int.lt_of_lt_of_le ih.2 ?_⟩
    have e : (p + 1) * (2 ^ xs.length * 2) = (2 * p + 2) * 2 ^ xs.length := by
      rw [Int.mul_comm (2 ^ xs.length) 2, ← Int.mul_assoc]
      congr 1
      omega
    rw [e]
    exact Int.mul_le_mul_of_nonneg_right (by omega) (Int.pow_nonneg (by omega))
theorem placeI_lt {xs : List Int} (h : ∀ x ∈ xs, 0 ≤ x ∧ x < 2) : 0 ≤ placeI xs ∧ placeI xs < 2 ^ xs.length := by
  have := place_go (xs := xs) (p := 0) (by omega) h
  simpa [placeI] using this
abbrev RuleT := List Int × List Int
structure GoodNet (ns : List RuleT) : Prop where
  sz : ns.length ≤ 100
  ear : ∀ r ∈ ns, r.1.length ≤ 100 ∧ (∀ e ∈ r.1, 0 ≤ e ∧ e < ns.length) ∧ r.2.length = 2 ^ r.1.length
structure IsSt (m : Nat) (st : List Int) : Prop where
  len : st.length = m
  bit : ∀ x ∈ st, 0 ≤ x ∧ x < 2
def tellI (r : RuleT) (st : List Int) : Int := r.2.getD (placeI (r.1.map fun e => st.getD e.toNat 0)).toNat 0
def oughtI (ns : List RuleT) (st : List Int) (k : Nat) : Int := tellI (ns.getD k ([], [])) st
theorem getD_bit {st : List Int} (h : ∀ x ∈ st, 0 ≤ x ∧ x < 2) (k : Nat) : 0 ≤ st.getD k 0 ∧ st.getD k 0 < 2 := by
  rw [List.getD_eq_getElem?_getD]
  cases e : st[k]? with
  | none => simp
  | some x => exact h x (List.mem_of_getElem? e)
theorem IsSt.get {m : Nat} {st : List Int} (h : IsSt m st) (k : Nat) : 0 ≤ st.getD k 0 ∧ st.getD k 0 < 2 := getD_bit h.bit k
theorem read_lt {m : Nat} {st : List Int} (h : IsSt m st) (es : List Int) : 0 ≤ placeI (es.map fun e => st.getD e.toNat 0) ∧ placeI (es.map fun e => st.getD e.toNat 0) < 2 ^ es.length := by
  have := placeI_lt (xs := es.map fun e => st.getD e.toNat 0) fun x hx => by
    obtain ⟨e, _, rfl⟩ := List.mem_map.mp hx
    exact h.get _
  rwa [List.length_map] at this
theorem net_at {ns : List RuleT} {k : Nat} (h : k < ns.length) : atI (ns.map dRule) (k : Int) = some (dRule (ns.getD k ([], []))) := by
  rw [atI_map, atI_nat' h, List.getD_eq_getElem?_getD, List.getElem?_eq_getElem h]
  rfl
theorem GoodNet.at {ns : List RuleT} (g : GoodNet ns) {k : Nat} (h : k < ns.length) : (ns.getD k ([], [])).1.length ≤ 100 ∧ (∀ e ∈ (ns.getD k ([], [])).1, 0 ≤ e ∧ e < ns.length) ∧ (ns.getD k ([], [])).2.length = 2 ^ (ns.getD k ([], [])).1.length := by
  rw [List.getD_eq_getElem?_getD, List.getElem?_eq_getElem h]
  exact g.ear _ (List.getElem_mem h)
theorem ought_ok {ns : List RuleT} {st : List Int} {k : Nat} (g : GoodNet ns) (hs : IsSt ns.length st) (hk : k < ns.length) : C.g_ought [dNet ns, ti st, .int k] = .ok (.vl (.int (oughtI ns st k))) := by
  obtain ⟨h1, h2, h3⟩ := g.at hk
  have h := comp_map (tm := tmName 5) (t := cYes) (e := C.e_ought_1) (vs := [5]) (ws := []) (ρ := [some (dNet ns), some (ti st), some (.int k), some (ti (ns.getD k ([], [])).1), some (ti (ns.getD k ([], [])).2), none]) D.int (fun e => D.int (st.getD e.toNat 0)) (ns.getD k ([], [])).1 (fun e he => by
    have := h2 e he
    simp [turnC, C.e_ought_1, atI_mapI this.1 (by rw [hs.len]; exact this.2)])
  have h4 := place_of_lst (xs := (ns.getD k ([], [])).1.map fun e => st.getD e.toNat 0) (by rw [List.length_map]; omega)
  rw [List.map_map] at h4
  have h5 := read_lt hs (ns.getD k ([], [])).1
  have h6 := atI_mapI (xs := (ns.getD k ([], [])).2) h5.1 (by rw [h3]; exact_mod_cast h5.2)
  simp only [Function.comp_def] at h4
  simp [C.g_ought, C.m_ought, e_fnP, net_at hk, szOk_of (show (ns.getD k ([], [])).1.length ≤ 16777216 by omega), h, h4, h6, -List.getD_eq_getElem?_getD]
  rfl
/-- the switches that are not as their rules tell -/
def wrongI (ns : List RuleT) (st : List Int) : List Nat := (List.range ns.length).filter fun k => !decide (oughtI ns st k = st.getD k 0)
abbrev ln' (xs : List Nat) : D := .lst (xs.map fun k => D.int (k : Nat))
def stands : Nat → List (List Int)
  | 0 => [[]]
  | m + 1 => (stands m).map (0 :: ·) ++ (stands m).map (1 :: ·)
theorem stands_len : ∀ m, (stands m).length = 2 ^ m
  | 0 => rfl
  | m + 1 => by simp [stands, stands_len m, Nat.pow_succ]; omega
theorem stands_st : ∀ {m : Nat} {st : List Int}, st ∈ stands m → IsSt m st
  | 0, st, h => by simp [stands] at h; subst h; exact ⟨rfl, by simp⟩
  | m + 1, st, h => by
    simp only [stands, List.mem_append, List.mem_map] at h
    rcases h with ⟨s, h, rfl⟩ | ⟨s, h, rfl⟩
    · exact ⟨by simp [(stands_st h).len], by simpa using (stands_st h).bit⟩
    · exact ⟨by simp [(stands_st h).len], by simpa using (stands_st h).bit⟩
abbrev lti (xs : List (List Int)) : D := .lst (xs.map ti)
theorem stands_of_ok {m : Nat} (hm : m ≤ 20) : C.g_stands_of [.int m] = .ok (.vl (lti (stands m))) := by
  have hp : ∀ k, k ≤ 20 → 2 ^ k ≤ 1048576 := fun k hk => Nat.pow_le_pow_right (by omega) hk
  have h := for_rng (tm := tmName 2) (body := C.b_stands_of_1) (vs := [2]) (ws := []) (n := m) (fun k : Nat => D.int (k : Nat)) (fun k => [some (.int m), some (lti (stands k)), none, none]) (fun i hi => by
    have hz := hp i (by omega)
    have hz2 := hp (i + 1) (by omega)
    have c1 : cCompL (tmName 3) cYes C.e_stands_of_1 [3] [] ((stands i).map ti) [some (.int m), some (lti (stands i)), some (.int (i : Nat)), none] = .ok (((stands i).map fun s => ti (0 :: s)), [some (.int m), some (lti (stands i)), some (.int (i : Nat)), none]) :=
      comp_map ti (fun s => ti (0 :: s)) (stands i) (fun s hs => by
        have := (stands_st hs).len
        simp [turnC, C.e_stands_of_1, szOk_of (show 1 + s.length ≤ 16777216 by omega)])
    have c2 : cCompL (tmName 3) cYes C.e_stands_of_2 [3] [] ((stands i).map ti) [some (.int m), some (lti (stands i)), some (.int (i : Nat)), none] = .ok (((stands i).map fun s => ti (1 :: s)), [some (.int m), some (lti (stands i)), some (.int (i : Nat)), none]) :=
      comp_map ti (fun s => ti (1 :: s)) (stands i) (fun s hs => by
        have := (stands_st hs).len
        simp [turnC, C.e_stands_of_2, szOk_of (show 1 + s.length ≤ 16777216 by omega)])
    have hl := stands_len i
    have z1 : szOk (stands i).length = true := szOk_of (by omega)
    have z2 : szOk ((stands i).length + (stands i).length) = true := szOk_of (by rw [Nat.pow_succ] at hz2; omega)
    refine ⟨by simp, ?_⟩
    simp only [turnF, C.b_stands_of_1]
    simp [c1, c2, z1, z2, stands, Function.comp_def])
  have hr : rngOk m = true := rngOk_of (by omega) (by omega)
  have hz2 : szOk m = true := szOk_of (by omega)
  have h : forL (tmName 2) C.b_stands_of_1 [2] [] ((List.range m).map fun k : Nat => D.int (k : Nat)) [some (.int m), some (.lst [.tup []]), none, none] = _ := h
  simp [C.g_stands_of, C.m_stands_of, e_fnP, hr, hz2, h]
theorem fit_nil {n : Nat} : Fit (n + 1) (.lst []) := by
  unfold Fit
  intro d h
  cases h
theorem eqPs_nil {xs : List D} : eqPs xs [] = xs.isEmpty := by cases xs <;> rfl
end H

set_option Elab.async false
set_option linter.all false
set_option maxRecDepth 100000
set_option exponentiation.threshold 300
namespace H
open PySem PySem.Spec PyProof.Rows L2 Y
def cellI (ns : List Int) (k : Nat) : Int := if k < ns.length then ns.getD k 0 else 6151 * k + 29
def isOk (r : R Hd) (d : D) : Prop := r = .ok (.fr d) ∨ r = .ok (.vl d)
theorem cell_ok {ns : List Int} {k : Nat} : isOk (C.g__law_cell [.arg ns, .int k]) (.int (cellI ns k)) := by
  unfold cellI
  by_cases h : k < ns.length
  · right
    have a := atI_int (xs := ns) (i := k) (by omega) (by omega)
    simp only [Int.toNat_natCast] at a
    simp [C.g__law_cell, C.m__law_cell, e_fnP, h, a, -List.getD_eq_getElem?_getD]
  · left
    simp [C.g__law_cell, C.m__law_cell, e_fnP, h, mulOk_l]
/-- numbers that the machine bears as factors -/
def Big (n : Nat) (z : Int) : Prop := z.natAbs < 2 ^ n
theorem Big.add {a b : Int} {n : Nat} (h : Big n a) (h2 : Big n b) : Big (n + 1) (a + b) := by
  unfold Big at *
  rw [Nat.pow_succ]
  have := Int.natAbs_add_le a b
  omega
theorem Big.times {a b : Int} {n m : Nat} (h : Big n a) (h2 : Big m b) : Big (n + m) (a * b) := by
  unfold Big at *
  rw [Int.natAbs_mul, Nat.pow_add]
  exact Nat.mul_lt_mul'' h h2
theorem Big.up {a : Int} {n m : Nat} (h : Big n a) (hm : n ≤ m) : Big m a := Nat.lt_of_lt_of_le h (Nat.pow_le_pow_right (by omega) hm)
theorem cut_hi {ds : List D} {k : Nat} : Y.cutD ds none (some (k : Int)) = ds.take k := by
  unfold Y.cutD
  rw [HT.sIx_none, HT.sIx_nat]
  simp
/-- a rule for m switches -/
structure RuleOk (m : Nat) (r : RuleT) : Prop where
  len : r.1.length ≤ 4
  sub : ∃ es : List Nat, r.1 = es.map (fun j : Nat => (j : Int)) ∧ es.Sublist (List.range m)
  tab : r.2.length = 2 ^ r.1.length
  bit : ∀ x ∈ r.2, 0 ≤ x ∧ x < 2
end H

set_option Elab.async false
set_option linter.all false
set_option maxRecDepth 100000
namespace H
open PySem PySem.Spec PyProof.Rows L2 Y
structure NetOk (ns : List RuleT) (most : Nat) : Prop where
  pos : 1 ≤ ns.length
  le : ns.length ≤ most
  rule : ∀ r ∈ ns, RuleOk ns.length r
theorem NetOk.good {ns : List RuleT} {most : Nat} (h : NetOk ns most) (hm : most ≤ 100) : GoodNet ns where
  sz := Nat.le_trans h.le hm
  ear := fun r hr => by
    have k := h.rule r hr
    refine ⟨by have := k.len; omega, fun e he => ?_, k.tab⟩
    obtain ⟨es, e1, sub⟩ := k.sub
    rw [e1] at he
    obtain ⟨j, hj, rfl⟩ := List.mem_map.mp he
    have := List.mem_range.mp (sub.subset hj)
    omega
end H

set_option Elab.async false
set_option linter.all false
set_option maxRecDepth 100000
namespace H
open PySem PySem.Spec PyProof.Rows L2 Y
theorem cut_to {ds : List D} {k : Nat} : Y.cutD ds none (some (k : Int)) = ds.take k := cut_hi
theorem cut_from {ds : List D} {k : Nat} : Y.cutD ds (some (k : Int)) none = ds.drop k := by
  unfold Y.cutD
  rw [HT.sIx_none, HT.sIx_nat]
  by_cases h : k ≤ ds.length
  · rw [Nat.min_eq_left h, List.take_of_length_le (by simp)]
  · rw [Nat.min_eq_right (by omega), List.drop_of_length_le (Nat.le_refl _), List.drop_of_length_le (by omega)]
    simp
def withI (st : List Int) (k : Nat) (b : Int) : List Int := st.take k ++ b :: st.drop (k + 1)
end H

set_option Elab.async false
set_option linter.all false
set_option maxRecDepth 100000
namespace H
open PySem PySem.Spec PyProof.Rows L2 Y
abbrev tn (b : List Nat) : D := .tup (b.map fun k : Nat => D.int (k : Nat))
theorem ixN_nat {n k : Nat} (h : k < n) : ixN n (k : Int) = some k := by
  unfold ixN
  rw [if_pos (by omega), if_pos (by omega)]
  rfl
def TabBits (ns : List RuleT) : Prop := ∀ r ∈ ns, ∀ x ∈ r.2, 0 ≤ x ∧ x < 2
theorem NetOk.tab {ns : List RuleT} {most : Nat} (h : NetOk ns most) : TabBits ns := fun r hr => (h.rule r hr).bit
end H

set_option Elab.async false
set_option linter.all false
set_option maxRecDepth 100000
namespace H
open PySem PySem.Spec PyProof.Rows L2 Y
end H

set_option Elab.async false
set_option linter.all false
set_option maxRecDepth 100000
namespace H
open PySem PySem.Spec PyProof.Rows L2 Y
structure OrdOk (m : Nat) (o : List (List Nat)) : Prop where
  ne : ∀ b ∈ o, b ≠ []
  sub : ∀ b ∈ o, b.Sublist (List.range m)
  perm : o.flatten.Perm (List.range m)
theorem OrdOk.len {m : Nat} {o : List (List Nat)} (h : OrdOk m o) : o.length ≤ m := by
  have : ∀ o : List (List Nat), (∀ b ∈ o, b ≠ []) → o.length ≤ o.flatten.length := fun o => by
    induction o with
    | nil => simp
    | cons b o ih =>
      intro h
      have h1 := h b (by simp)
      have h2 := ih fun c hc => h c (by simp [hc])
      have : 0 < b.length := List.length_pos_iff.mpr h1
      rw [List.flatten_cons, List.length_append, List.length_cons]
      omega
  have h2 := this o h.ne
  rw [h.perm.length_eq, List.length_range] at h2
  exact h2
theorem OrdOk.apart {m : Nat} {o : List (List Nat)} (h : OrdOk m o) : o.Pairwise (fun b c => ∀ k ∈ b, k ∉ c) := by
  have : o.flatten.Nodup := h.perm.nodup_iff.mpr List.nodup_range
  have := (List.pairwise_flatten.mp this).2
  exact this.imp fun h k hk z => h k hk k z rfl
end H

set_option Elab.async false
set_option linter.all false
set_option maxRecDepth 100000
namespace H
open PySem PySem.Spec PyProof.Rows L2 Y
@[simp] theorem neD_bl {a b : Bool} : neD (.bl a) (.bl b) = .ok (.bl (a != b)) := by
  rw [neD_of (n := 0) fit_bl fit_bl, eqP_bl]
  cases a <;> cases b <;> rfl
theorem OrdOk.turn {m : Nat} {o : List (List Nat)} (h : OrdOk m o) (w : Nat) : OrdOk m (o.drop w ++ o.take w) := by
  have p : (o.drop w ++ o.take w).Perm o := by
    have := List.perm_append_comm (l₁ := o.drop w) (l₂ := o.take w)
    rwa [List.take_append_drop] at this
  exact ⟨fun b hb => h.ne b (p.mem_iff.mp hb), fun b hb => h.sub b (p.mem_iff.mp hb), p.flatten.trans h.perm⟩
end H

set_option Elab.async false
set_option linter.all false
set_option maxRecDepth 100000
namespace H
open PySem PySem.Spec PyProof.Rows L2 Y
def blk (ks : List Int) (m j : Nat) : List Nat := (List.range m).filter fun k => decide (ks.getD k 0 = (j : Nat))
end H

set_option Elab.async false
set_option linter.all false
set_option maxRecDepth 100000
set_option exponentiation.threshold 300
namespace H
open PySem PySem.Spec PyProof.Rows L2 Y
abbrev tx (l : List Nat) : Str := ⟨l.toArray⟩
abbrev dt (l : List Nat) : D := .str (tx l)
theorem tx_inj {a b : List Nat} : tx a = tx b ↔ a = b := by
  constructor
  · intro h
    have := congrArg (fun s : Str => s.cps.toList) h
    simpa using this
  · rintro rfl; rfl
/-- signs that the machine bears -/
def SgOk (l : List Nat) : Prop := ∀ c ∈ l, c < 1114112
theorem fit_dt {n : Nat} {l : List Nat} (h : SgOk l) : Fit n (dt l) := by
  have : PyData.strOk (tx l) = true := by
    unfold PyData.strOk
    rw [← Array.all_toList, List.all_eq_true]
    intro c hc
    simpa using h c (by simpa using hc)
  cases n <;> exact this
theorem eqP_dt {a b : List Nat} : eqP (dt a) (dt b) = decide (a = b) := by
  rw [eqP_str, Bool.eq_iff_iff, beq_iff_eq, decide_eq_true_eq, tx_inj]
theorem eq_dt {a b : List Nat} (ha : SgOk a) (hb : SgOk b) : eqD (dt a) (dt b) = .ok (.bl (decide (a = b))) := by
  rw [eqD_of (n := 0) (fit_dt ha) (fit_dt hb), eqP_dt]
theorem ne_dt {a b : List Nat} (ha : SgOk a) (hb : SgOk b) : neD (dt a) (dt b) = .ok (.bl (!decide (a = b))) := by
  rw [neD_of (n := 0) (fit_dt ha) (fit_dt hb), eqP_dt]
end H

set_option Elab.async false
set_option linter.all false
set_option maxRecDepth 100000
set_option exponentiation.threshold 300
namespace H
open PySem PySem.Spec PyProof.Rows L2 Y
theorem take2_ok {n m : Int} (h0 : 0 < m) (h1 : m < 1073741824) : C.g__law_take_2 [.lst [.int n], .int m] = .ok (.vl (.int (n % m)), [some (.lst [.int (n / m)]), none]) := by
  have a : atI [D.int n] 0 = some (.int n) := rfl
  have b : ixN 1 0 = some 0 := rfl
  simp only [C.g__law_take_2, C.m__law_take_2]
  simp [e_fnD, smallPos_of h0 h1, h0, a, b, ixD]
def box2N (c : Int) (k : Nat) : Nat → Int × Int
  | 0 => (0, c % 2147483647)
  | j + 1 =>
    let m := ((box2N c k j).2 * 48271 + 7 * (j : Int) * j + 11 * k + 1) % 2147483647
    ((box2N c k j).1 * 2147483647 + m, m)
theorem box2_ok {ns : List Int} {k : Nat} (hk : k < 1000) : ∃ b : Int, C.g__law_box_2 [.arg ns, .int k] = .ok (.fr (.lst [.int b])) := by
  have h : forL (tmName 5) C.b__law_box_2_1 [5] [] ((List.range 24).map fun j : Nat => D.int (j : Nat)) [some (.arg ns), some (.int k), some (.int (cellI ns k)), some (.int 0), some (.int (cellI ns k % 2147483647)), none] = .ok (.nx, [some (.arg ns), some (.int k), some (.int (cellI ns k)), some (.int (box2N (cellI ns k) k 24).1), some (.int (box2N (cellI ns k) k 24).2), none]) :=
    for_rng (fun j : Nat => D.int (j : Nat)) (fun j => [some (.arg ns), some (.int k), some (.int (cellI ns k)), some (.int (box2N (cellI ns k) k j).1), some (.int (box2N (cellI ns k) k j).2), none]) (fun j hj => by
      refine ⟨by simp, ?_⟩
      have b1 : ∀ p : Int, mulOk p 2147483647 = true := fun p => mulOk_r (by decide)
      have b2 : ∀ p : Int, mulOk p 48271 = true := fun p => mulOk_r (by decide)
      have b3 : mulOk 7 j = true := mulOk_l (by decide)
      have b4 : mulOk 11 k = true := mulOk_l (by decide)
      have b5 : mulOk (7 * (j : Int)) j = true := mulOk_l (by omega)
      simp only [turnF, C.b__law_box_2_1]
      simp [b1, b2, b3, b4, b5, box2N])
  have hr : rngOk 24 = true := by decide
  have hz : szOk 24 = true := by decide
  have r24 : rng1D [.int 24] = .ok ((List.range 24).map fun j : Nat => D.int (j : Nat)) := by rw [d_rng1, if_pos hr]; rfl
  have z24 : szOk ((List.range 24).map fun j : Nat => D.int (j : Nat)).length = true := by simp [hz]
  by_cases e : cellI ns k % 2 = 0
  · refine ⟨cellI ns k / 2, ?_⟩
    rcases cell_ok (ns := ns) (k := k) with c | c <;> simp only [C.g__law_box_2, C.m__law_box_2] <;> simp [e_fnP, c, e, smallPos_of]
  · refine ⟨(box2N (cellI ns k) k 24).1, ?_⟩
    rcases cell_ok (ns := ns) (k := k) with c | c <;> simp only [C.g__law_box_2, C.m__law_box_2] <;> generalize C.b__law_box_2_1 = B at h ⊢ <;> generalize (List.range 24).map (fun j : Nat => D.int (j : Nat)) = L24 at h r24 z24 <;> simp [e_fnP, c, e, r24, z24, h, -d_rng1]
theorem mem_stands : ∀ {m : Nat} {st : List Int}, st ∈ stands m ↔ IsSt m st
  | 0, st => by
    constructor
    · exact stands_st
    · intro h
      have := h.len
      cases st with
      | nil => simp [stands]
      | cons => simp at this
  | m + 1, st => by
    constructor
    · exact stands_st
    · intro h
      cases st with
      | nil => have := h.len; simp at this
      | cons x st =>
        have hx := h.bit x (by simp)
        have hs : IsSt m st := ⟨by have := h.len; simpa using this, fun y hy => h.bit y (by simp [hy])⟩
        have : st ∈ stands m := mem_stands.mpr hs
        have e : x = 0 ∨ x = 1 := by omega
        rcases e with rfl | rfl <;> simp [stands, this]
theorem stands_lt : ∀ m, (stands m).Pairwise fun a b => ltL a b = true
  | 0 => by simp [stands]
  | m + 1 => by
    have ih := stands_lt m
    unfold stands
    rw [List.pairwise_append]
    refine ⟨?_, ?_, ?_⟩
    · rw [List.pairwise_map]; exact ih.imp fun h => by simpa [ltL] using h
    · rw [List.pairwise_map]; exact ih.imp fun h => by simpa [ltL] using h
    · intro a ha b hb
      obtain ⟨x, _, rfl⟩ := List.mem_map.mp ha
      obtain ⟨y, _, rfl⟩ := List.mem_map.mp hb
      simp [ltL]
theorem stands_nodup (m : Nat) : (stands m).Nodup := (stands_lt m).imp fun {a b} h e => by
  subst e
  rw [ltL_asym h] at h
  cases h
theorem stands_sorted {m : Nat} {xs : List (List Int)} (p : xs.Perm (stands m)) : sortL xs = stands m :=
  (sortL_of p.symm ((stands_lt m).imp fun h => ltL_asym h)).symm
/-- readings, the last bit grown -/
def rowsR : Nat → List (List Int)
  | 0 => [[]]
  | m + 1 => (rowsR m).map (· ++ [0]) ++ (rowsR m).map (· ++ [1])
theorem rowsR_st : ∀ {m : Nat} {st : List Int}, st ∈ rowsR m → IsSt m st
  | 0, st, h => by simp [rowsR] at h; subst h; exact ⟨rfl, by simp⟩
  | m + 1, st, h => by
    simp only [rowsR, List.mem_append, List.mem_map] at h
    rcases h with ⟨s, h, rfl⟩ | ⟨s, h, rfl⟩
    · have := rowsR_st h
      refine ⟨by simp [this.len], fun x hx => ?_⟩
      rcases List.mem_append.mp hx with hx | hx
      · exact this.bit x hx
      · simp at hx; omega
    · have := rowsR_st h
      refine ⟨by simp [this.len], fun x hx => ?_⟩
      rcases List.mem_append.mp hx with hx | hx
      · exact this.bit x hx
      · simp at hx; omega
theorem rowsR_len : ∀ m, (rowsR m).length = 2 ^ m
  | 0 => rfl
  | m + 1 => by simp [rowsR, rowsR_len m, Nat.pow_succ]; omega
theorem rowsR_nodup : ∀ m, (rowsR m).Nodup
  | 0 => by simp [rowsR]
  | m + 1 => by
    have ih := rowsR_nodup m
    unfold rowsR
    refine List.pairwise_append.mpr ⟨?_, ?_, ?_⟩
    · rw [List.pairwise_map]; exact ih.imp fun h e => h (List.append_cancel_right e)
    · rw [List.pairwise_map]; exact ih.imp fun h e => h (List.append_cancel_right e)
    · intro a ha b hb e
      obtain ⟨x, _, rfl⟩ := List.mem_map.mp ha
      obtain ⟨y, _, rfl⟩ := List.mem_map.mp hb
      have := List.append_inj' e rfl
      simp at this
theorem mem_rowsR : ∀ {m : Nat} {st : List Int}, IsSt m st → st ∈ rowsR m
  | 0, st, h => by
    have := h.len
    cases st with
    | nil => simp [rowsR]
    | cons => simp at this
  | m + 1, st, h => by
    rcases List.eq_nil_or_concat st with rfl | ⟨s, b, rfl⟩
    · have := h.len; simp at this
    · have hs : IsSt m s := ⟨by have := h.len; simpa using this, fun y hy => h.bit y (by simp [hy])⟩
      have hb := h.bit b (by simp)
      have := mem_rowsR hs
      have e : b = 0 ∨ b = 1 := by omega
      rcases e with rfl | rfl <;> simp [rowsR, this]
theorem rowsR_perm (m : Nat) : (rowsR m).Perm (stands m) :=
  (List.perm_ext_iff_of_nodup (rowsR_nodup m) (stands_nodup m)).mpr fun st => ⟨fun h => mem_stands.mpr (rowsR_st h), fun h => mem_rowsR (stands_st h)⟩
theorem readings_ok {m : Nat} (hm : m ≤ 20) : C.g__law_readings [.int m] = .ok (.fr (lti (stands m))) := by
  have hp : ∀ k, k ≤ 20 → 2 ^ k ≤ 1048576 := fun k hk => Nat.pow_le_pow_right (by omega) hk
  have h := for_rng (tm := tmName 2) (body := C.b__law_readings_1) (vs := [2]) (ws := []) (n := m) (fun k : Nat => D.int (k : Nat)) (fun k => [some (.int m), some (lti (rowsR k)), none, none]) (fun i hi => by
    have hz := hp i (by omega)
    have hz2 := hp (i + 1) (by omega)
    have c1 : cCompL (tmName 3) cYes C.e__law_readings_1 [3] [] ((rowsR i).map ti) [some (.int m), some (lti (rowsR i)), some (.int (i : Nat)), none] = .ok (((rowsR i).map fun s => ti (s ++ [0])), [some (.int m), some (lti (rowsR i)), some (.int (i : Nat)), none]) :=
      comp_map ti (fun s => ti (s ++ [0])) (rowsR i) (fun s hs => by
        have := (rowsR_st hs).len
        simp only [turnC, C.e__law_readings_1]
        simp [szOk_of (show s.length + 1 ≤ 16777216 by omega)])
    have c2 : cCompL (tmName 3) cYes C.e__law_readings_2 [3] [] ((rowsR i).map ti) [some (.int m), some (lti (rowsR i)), some (.int (i : Nat)), none] = .ok (((rowsR i).map fun s => ti (s ++ [1])), [some (.int m), some (lti (rowsR i)), some (.int (i : Nat)), none]) :=
      comp_map ti (fun s => ti (s ++ [1])) (rowsR i) (fun s hs => by
        have := (rowsR_st hs).len
        simp only [turnC, C.e__law_readings_2]
        simp [szOk_of (show s.length + 1 ≤ 16777216 by omega)])
    have hl := rowsR_len i
    have z1 : szOk (rowsR i).length = true := szOk_of (by omega)
    have z2 : szOk ((rowsR i).length + (rowsR i).length) = true := szOk_of (by rw [Nat.pow_succ] at hz2; omega)
    refine ⟨by simp, ?_⟩
    simp only [turnF, C.b__law_readings_1]
    simp [c1, c2, z1, z2, rowsR, Function.comp_def])
  have hr : rngOk m = true := rngOk_of (by omega) (by omega)
  have hz2 : szOk m = true := szOk_of (by omega)
  have h : forL (tmName 2) C.b__law_readings_1 [2] [] ((List.range m).map fun k : Nat => D.int (k : Nat)) [some (.int m), some (.lst [.tup []]), none, none] = _ := h
  have hs : sortD [lti (rowsR m)] = .ok (lti (stands m)) := by
    cases e : rowsR m with
    | nil => have := rowsR_len m; rw [e] at this; have := Nat.pow_pos (n := m) (show 0 < 2 by omega); simp at *; omega
    | cons x xs =>
      have ok : sortOk (x :: xs) = true := by
        unfold sortOk
        cases m with
        | zero => simp [rowsR] at e; obtain ⟨rfl, rfl⟩ := e; rfl
        | succ m =>
          rw [Bool.or_eq_true]
          right
          rw [← e, List.all_eq_true]
          intro y hy
          have := (rowsR_st hy).len
          cases y with
          | nil => simp at this
          | cons => rfl
      have := sortD_tups ok
      rw [← e] at this
      rw [← e, this, stands_sorted (rowsR_perm m)]
  generalize lti (rowsR m) = F at h hs
  simp only [C.g__law_readings, C.m__law_readings]
  simp [e_fnP, hr, hz2, h, hs]
end H

set_option Elab.async false
set_option linter.all false
set_option maxRecDepth 100000
set_option exponentiation.threshold 300
namespace H
open PySem PySem.Spec PyProof.Rows L2 Y
/-- for over range(n), by what holds at each turn -/
theorem for_inx {tm : GM} {body : SM} {vs ws : List Nat} (F : Nat → D) (I : Nat → Y.Env → Prop) (n : Nat) (ρ : Y.Env) (h0 : I 0 ρ)
    (hs : ∀ i ρ, i < n → I i ρ → ∃ ρ', turnF tm body vs (F i) ρ = .ok (.nx, ρ') ∧ I (i + 1) ρ' ∧ ∀ w ∈ ws, ρ'[w]? = ρ[w]?) : ∃ ρ', forL tm body vs ws ((List.range n).map F) ρ = .ok (.nx, ρ') ∧ I n ρ' := by
  have : ∀ (k i : Nat) (ρ : Y.Env), i + k = n → I i ρ → ∃ ρ', forL tm body vs ws ((List.range' i k).map F) ρ = .ok (.nx, ρ') ∧ I n ρ' := by
    intro k
    induction k with
    | zero => intro i ρ e h; exact ⟨ρ, rfl, by rw [← e]; exact h⟩
    | succ k ih =>
      intro i ρ e h
      obtain ⟨ρ1, e1, h1, w1⟩ := hs i ρ (by omega) h
      obtain ⟨ρ2, e2, h2⟩ := ih (i + 1) ρ1 (by omega) h1
      rw [List.range'_succ, List.map_cons]
      exact ⟨ρ2, for_cons e1 w1 e2, h2⟩
  rw [List.range_eq_range']
  exact this n 0 ρ (by omega) h0
theorem sub_range {es : List Nat} {m : Nat} (h : es.Pairwise (· < ·)) (hm : ∀ x ∈ es, x < m) : es.Sublist (List.range m) := by
  have e : es = (List.range m).filter fun k => decide (k ∈ es) := by
    have hf : ((List.range m).filter fun k => decide (k ∈ es)).Pairwise (· < ·) := List.Pairwise.filter _ List.pairwise_lt_range
    refine List.Perm.eq_of_pairwise (le := fun a b : Nat => a < b) (fun a b _ _ h1 h2 => by omega) h hf ?_
    refine (List.perm_ext_iff_of_nodup (h.imp fun h => by omega) (hf.imp fun h => by omega)).mpr fun k => ?_
    rw [List.mem_filter, List.mem_range, decide_eq_true_eq]
    exact ⟨fun h => ⟨hm k h, h⟩, fun h => h.2⟩
  rw [e]
  exact List.filter_sublist
/-- whole numbers, none twice, sorted: a part of a range -/
theorem sort_sub {E : List Nat} {m : Nat} (hn : E.Nodup) (hm : ∀ x ∈ E, x < m) : ∃ es : List Nat, sortI (E.map fun k : Nat => (k : Int)) = es.map (fun k : Nat => (k : Int)) ∧ es.Sublist (List.range m) ∧ es.length = E.length := by
  have p := sortI_perm (E.map fun k : Nat => (k : Int))
  have pw := sortI_pw (E.map fun k : Nat => (k : Int))
  generalize sortI (E.map fun k : Nat => (k : Int)) = S at p pw
  have nn : ∀ x ∈ S, 0 ≤ x ∧ x < m := fun x hx => by
    obtain ⟨k, hk, rfl⟩ := List.mem_map.mp (p.mem_iff.mp hx)
    have := hm k hk
    omega
  have e : S = (S.map Int.toNat).map fun k : Nat => (k : Int) := by
    rw [List.map_map]
    conv => lhs; rw [← List.map_id S]
    exact List.map_congr_left fun x hx => by
      have := nn x hx
      show x = ((x.toNat : Nat) : Int)
      omega
  refine ⟨S.map Int.toNat, e, sub_range ?_ fun x hx => ?_, ?_⟩
  · have nd : S.Nodup := p.nodup_iff.mpr (by
      refine List.pairwise_map.mpr (hn.imp fun {a b} h z => h ?_)
      exact_mod_cast z)
    rw [List.pairwise_map]
    have := List.Pairwise.and pw nd
    refine List.Pairwise.imp_of_mem (fun {a b} ha hb h => ?_) this
    have h1 := nn a ha
    have h2 := nn b hb
    have h3 := h.1
    have h4 : a ≠ b := h.2
    omega
  · obtain ⟨y, hy, rfl⟩ := List.mem_map.mp hx
    have := nn y hy
    omega
  · have := p.length_eq
    simpa using this
theorem erase_map {α β : Type} {f : α → β} : ∀ {xs : List α} {j : Nat}, (xs.map f).eraseIdx j = (xs.eraseIdx j).map f
  | [], _ => by simp
  | x :: xs, 0 => by simp
  | x :: xs, j + 1 => by simp [erase_map (xs := xs)]
theorem pick_perm {α : Type} : ∀ {xs : List α} {j : Nat} (h : j < xs.length), (xs[j] :: xs.eraseIdx j).Perm xs
  | x :: xs, 0, _ => by simp
  | x :: xs, j + 1, h => by
    have h : j < xs.length := by simpa using h
    have := pick_perm h
    rw [List.eraseIdx_cons_succ, List.getElem_cons_succ]
    exact (List.Perm.swap x xs[j] (xs.eraseIdx j)).trans (this.cons x)
theorem nls_rg {n : Int} : nls (rgD 0 n) = true := nls_map fun _ _ => by simp
theorem rule2_any {n : Int} {m : Nat} (hm : m ≤ 100) : ∃ (r : RuleT) (n' : Int), C.g__law_rule_2 [.lst [.int n], .int m] = .ok (.fr (dRule r), [some (.lst [.int n']), none]) ∧ RuleOk m r := by
  obtain ⟨M, hM⟩ : ∃ M : Nat, min (n % 5) (m : Int) = M := ⟨(min (n % 5) (m : Int)).toNat, by have := Int.emod_nonneg n (b := 5) (by omega); omega⟩
  have hM4 : M ≤ 4 ∧ M ≤ m := by have := Int.emod_lt_of_pos n (b := 5) (by omega); omega
  obtain ⟨ρ1, hl, n1, L, E, o, eρ, pm, el⟩ := for_inx (tm := tmName 4) (body := C.b__law_rule_2_1) (vs := []) (ws := []) (fun k : Nat => D.int (k : Nat))
    (fun i ρ => ∃ (b : Int) (L E : List Nat) (o : Option D), ρ = [some (.lst [.int b]), some (.int m), some (ln' L), some (ln' E), o, none, none, none, none, none, none, none] ∧ (E ++ L).Perm (List.range m) ∧ E.length = i) M
    [some (.lst [.int (n / 5)]), some (.int m), some (ln' (List.range m)), some (.lst []), none, none, none, none, none, none, none, none]
    ⟨n / 5, List.range m, [], none, rfl, by simp, rfl⟩ (fun i ρ hi ⟨b, L, E, o, eρ, pm, el⟩ => by
      subst eρ
      have ll : L.length = m - i := by have := pm.length_eq; rw [List.length_append, List.length_range] at this; omega
      have tk := take2_ok (n := b) (m := L.length) (by omega) (by omega)
      obtain ⟨j, hj⟩ : ∃ j : Nat, b % (L.length : Int) = j := ⟨(b % (L.length : Int)).toNat, by have := Int.emod_nonneg b (b := (L.length : Int)) (by omega); omega⟩
      have hjl : j < L.length := by have := Int.emod_lt_of_pos b (b := (L.length : Int)) (by omega); omega
      have ix := ixN_nat (n := L.length) (k := j) hjl
      have zl : szOk L.length = true := szOk_of (by omega)
      have ze : szOk (E.length + 1) = true := szOk_of (by omega)
      refine ⟨[some (.lst [.int (b / L.length)]), some (.int m), some (ln' (L.eraseIdx j)), some (ln' (E ++ [L[j]])), some (.int i), none, none, none, none, none, none, none], ?_, ⟨_, L.eraseIdx j, E ++ [L[j]], _, rfl, ?_, by simp [el]⟩, by simp⟩
      · simp only [turnF, C.b__law_rule_2_1]
        simp [tk, hj, popRes, zl, ze, ix, hjl, erase_map]
      · have := pick_perm hjl
        rw [List.append_assoc]
        exact (List.Perm.append_left E this).trans pm)
  subst eρ
  have nd : E.Nodup := by
    have : (E ++ L).Nodup := pm.nodup_iff.mpr List.nodup_range
    exact (List.pairwise_append.mp this).1
  have em : ∀ x ∈ E, x < m := fun x hx => List.mem_range.mp (pm.mem_iff.mp (by simp [hx]))
  obtain ⟨es, hs, sub, le⟩ := sort_sub nd em
  have hsd : sortD [ln' E] = .ok (.lst ((es.map fun k : Nat => (k : Int)).map D.int)) := by
    have : ln' E = .lst ((E.map fun k : Nat => (k : Int)).map D.int) := by rw [List.map_map]; rfl
    rw [this, d_sortN, hs]
  have rok : ∀ t : List Int, t.length = 2 ^ E.length → (∀ x ∈ t, 0 ≤ x ∧ x < 2) → RuleOk m (es.map (fun k : Nat => (k : Int)), t) := fun t h1 h2 => ⟨by simp [le]; omega, ⟨es, rfl, sub⟩, by simpa [le] using h1, h2⟩
  have rd := readings_ok (m := E.length) (by omega)
  have sl := stands_len E.length
  have pw : 2 ^ E.length ≤ 16 := Nat.pow_le_pow_right (n := 2) (by omega) (show E.length ≤ 4 by omega)
  have zE : szOk E.length = true := szOk_of (by omega)
  have rE : rngOk E.length = true := rngOk_of (by omega) (by omega)
  have zS : szOk (stands E.length).length = true := szOk_of (by omega)
  have rM : rngOk M = true := rngOk_of (by omega) (by omega)
  have zM : szOk M = true := szOk_of (by omega)
  have rg := rgB_of (n := m) (by omega)
  have rg0 : ln' (List.range m) = .lst (rgD 0 m) := by rw [rgD_nat]
  rw [rg0] at hl
  have t3 : ∀ b : Int, C.g__law_take_2 [.lst [.int b], .int 3] = .ok (.vl (.int (b % 3)), [some (.lst [.int (b / 3)]), none]) := fun b => take2_ok (by omega) (by omega)
  have t2 : ∀ b : Int, C.g__law_take_2 [.lst [.int b], .int 2] = .ok (.vl (.int (b % 2)), [some (.lst [.int (b / 2)]), none]) := fun b => take2_ok (by omega) (by omega)
  have t5 : C.g__law_take_2 [.lst [.int n], .int 5] = .ok (.vl (.int (n % 5)), [some (.lst [.int (n / 5)]), none]) := take2_ok (by omega) (by omega)
  have tl : ∀ b : Int, C.g__law_take_2 [.lst [.int b], .int ((E.length : Nat) + 2)] = .ok (.vl (.int (b % ((E.length : Nat) + 2))), [some (.lst [.int (b / ((E.length : Nat) + 2))]), none]) := fun b => take2_ok (by omega) (by omega)
  have hlen : lenD [ln' E] = .ok (.int E.length) := by simp
  have hmu : D.shallow (ln' E) = true := by simp [nls_all]
  have hix : itD (ln' E) = .ok (E.map fun k : Nat => D.int (k : Nat)) := rfl
  generalize hX : ln' E = XE at hl hsd hlen hmu hix
  generalize hSt : lti (stands E.length) = XS at rd
  by_cases w0 : n1 % 3 = 0
  · obtain ⟨ts, n2, e2, l2, p2⟩ := comp_ex (tm := tmName 11) (t := cYes) (e := C.e__law_rule_2_1) (vs := [11]) (ws := []) ti D.int (fun b : Int => [some (.lst [.int b]), some (.int m), some (ln' L), some XE, o, some XS, some (.int 0), none, none, none, none, none]) (fun x : Int => 0 ≤ x ∧ x < 2) (stands E.length) (n1 / 3) (fun b st hst => by
      refine ⟨b % 2, b / 2, ?_, by omega, by simp⟩
      simp only [turnC, C.e__law_rule_2_1]
      simp [t2])
    refine ⟨(es.map (fun k : Nat => (k : Int)), ts), n2, ?_, rok ts (by rw [l2, sl]) p2⟩
    subst hSt
    simp only [C.g__law_rule_2, C.m__law_rule_2]
    generalize C.b__law_rule_2_1 = B1 at hl ⊢
    simp [e_fnD, t5, hM, rM, zM, rg, hl, shAt, chkO_ws, nls_rg, hmu, hlen, rd, t3, w0, hsd, zS, e2]
  · -- by how many of its ears
    have tab : ∀ (ss : List Int) (x0 x2 x6 : Option D) (le : Int) (o : Option D), ss.length = E.length → ∃ (ts : List Int) (o' : Option D), cCompL (tmName 11) cYes C.e__law_rule_2_5 [11] [] ((stands E.length).map ti) [x0, some (.int m), x2, some XE, o, some XS, x6, some (.lst (ss.map D.int)), some (.int le), none, none, none] = .ok (ts.map D.int, [x0, some (.int m), x2, some XE, o', some XS, x6, some (.lst (ss.map D.int)), some (.int le), none, none, none]) ∧ ts.length = 2 ^ E.length ∧ ∀ x ∈ ts, 0 ≤ x ∧ x < 2 := fun ss x0 x2 x6 le o hl => by
      obtain ⟨ts, o', e, l, p⟩ := comp_ex (tm := tmName 11) (t := cYes) (e := C.e__law_rule_2_5) (vs := [11]) (ws := []) ti D.int (fun o : Option D => [x0, some (.int m), x2, some XE, o, some XS, x6, some (.lst (ss.map D.int)), some (.int le), none, none, none]) (fun x : Int => 0 ≤ x ∧ x < 2) (stands E.length) o (fun o st hst => by
        have hs := stands_st hst
        have inner : cCompL (tmName 4) C.t__law_rule_2_4 C.e__law_rule_2_4 [4] [] ((List.range E.length).map fun k : Nat => D.int (k : Nat)) [x0, some (.int m), x2, some XE, none, some XS, x6, some (.lst (ss.map D.int)), some (.int le), none, none, some (ti st)] = .ok (((List.range E.length).filter fun k => decide (st.getD k 0 = ss.getD k 0)).map fun k : Nat => D.int (k : Nat), [x0, some (.int m), x2, some XE, none, some XS, x6, some (.lst (ss.map D.int)), some (.int le), none, none, some (ti st)]) :=
          comp_filter (fun k : Nat => D.int (k : Nat)) (fun k => decide (st.getD k 0 = ss.getD k 0)) (fun k : Nat => D.int (k : Nat)) (List.range E.length) (fun k hk => by
            have hk := List.mem_range.mp hk
            have a1 := atI_mapI (xs := st) (i := k) (by omega) (by rw [hs.len]; omega)
            have a2 := atI_mapI (xs := ss) (i := k) (by omega) (by omega)
            simp only [Int.toNat_natCast] at a1 a2
            simp only [turnC, C.t__law_rule_2_4, C.e__law_rule_2_4]
            simp [a1, a2, ixD, -List.getD_eq_getElem?_getD]
            split <;> rfl)
        refine ⟨if le ≤ (((List.range E.length).filter fun k => decide (st.getD k 0 = ss.getD k 0)).length : Nat) then 1 else 0, none, ?_, by split <;> omega, by simp⟩
        generalize ((List.range E.length).filter fun k => decide (st.getD k 0 = ss.getD k 0)) = Fl at inner ⊢
        simp only [turnC, C.e__law_rule_2_5]
        simp [hlen, rE, zE, inner])
      exact ⟨ts, o', e, by rw [l, sl], p⟩
    have ones : ∀ (x0 x2 x4 x6 x7 : Option D), cCompL (tmName 10) cYes C.e__law_rule_2_2 [10] [3] (E.map fun k : Nat => D.int (k : Nat)) [x0, some (.int m), x2, some XE, x4, some XS, x6, x7, none, none, none, none] = .ok ((E.map fun _ => (1 : Int)).map D.int, [x0, some (.int m), x2, some XE, x4, some XS, x6, x7, none, none, none, none]) := fun x0 x2 x4 x6 x7 => by
      rw [List.map_map]
      exact comp_map (fun k : Nat => D.int (k : Nat)) (fun _ => D.int 1) E fun k hk => by
        simp only [turnC, C.e__law_rule_2_2]
        simp
    by_cases w1 : n1 % 3 = 1
    · obtain ⟨ss, n2, e2, l2, p2⟩ := comp_ex (tm := tmName 10) (t := cYes) (e := C.e__law_rule_2_3) (vs := [10]) (ws := [3]) (fun k : Nat => D.int (k : Nat)) D.int (fun b : Int => [some (.lst [.int b]), some (.int m), some (ln' L), some XE, o, some XS, some (.int 1), some (.lst ((E.map fun _ => (1 : Int)).map D.int)), none, none, none, none]) (fun x : Int => True) E (n1 / 3) (fun b k hk => by
        refine ⟨b % 2, b / 2, ?_, trivial, by simp⟩
        simp only [turnC, C.e__law_rule_2_3]
        simp [t2])
      obtain ⟨ts, o', e3, l3, p3⟩ := tab ss (some (.lst [.int (n2 / ((E.length : Nat) + 2))])) (some (ln' L)) (some (.int 1)) (n2 % ((E.length : Nat) + 2)) o l2
      refine ⟨(es.map (fun k : Nat => (k : Int)), ts), n2 / ((E.length : Nat) + 2), ?_, rok ts l3 p3⟩
      subst hSt
      have on := ones (some (.lst [.int (n1 / 3)])) (some (ln' L)) o (some (.int 1)) none
      simp only [C.g__law_rule_2, C.m__law_rule_2]
      generalize C.b__law_rule_2_1 = B1 at hl ⊢
      generalize (E.map fun _ => (1 : Int)).map D.int = ON at on e2
      simp [e_fnD, t5, hM, rM, zM, rg, hl, shAt, chkO_ws, nls_rg, hmu, hlen, rd, t3, w1, hsd, zS, hix, zE, on, e2, tl, e3]
      trace_state
    · obtain ⟨ts, o', e3, l3, p3⟩ := tab (E.map fun _ => (1 : Int)) (some (.lst [.int (n1 / 3 / ((E.length : Nat) + 2))])) (some (ln' L)) (some (.int (n1 % 3))) (n1 / 3 % ((E.length : Nat) + 2)) o (by simp)
      refine ⟨(es.map (fun k : Nat => (k : Int)), ts), n1 / 3 / ((E.length : Nat) + 2), ?_, rok ts l3 p3⟩
      subst hSt
      have on := ones (some (.lst [.int (n1 / 3)])) (some (ln' L)) o (some (.int (n1 % 3))) none
      simp only [C.g__law_rule_2, C.m__law_rule_2]
      generalize C.b__law_rule_2_1 = B1 at hl ⊢
      generalize (E.map fun _ => (1 : Int)).map D.int = ON at on e3
      simp [e_fnD, t5, hM, rM, zM, rg, hl, shAt, chkO_ws, nls_rg, hmu, hlen, rd, t3, w0, w1, hsd, zS, hix, zE, on, tl, e3]
      trace_state
theorem rule2_ok {n : Int} {m : Nat} (h1 : 1 ≤ m) (hm : m ≤ 100) : ∃ (r : RuleT) (n' : Int), C.g__law_rule_2 [.lst [.int n], .int m] = .ok (.fr (dRule r), [some (.lst [.int n']), none]) ∧ RuleOk m r := rule2_any hm
end H

set_option Elab.async false
set_option linter.all false
set_option maxRecDepth 100000
namespace H
open PySem PySem.Spec PyProof.Rows L2 Y
/-- for x in xs: if not p x: return rv -/
theorem for_all {α : Type} {tm : GM} {body : SM} {vs ws : List Nat} (F : α → D) (p : α → Bool) (rv : Hd) : ∀ (xs : List α) (ρ : Y.Env), (∀ x ∈ xs, p x = true → turnF tm body vs (F x) ρ = .ok (.nx, ρ)) → (∀ x ∈ xs, p x = false → ∃ ρ', turnF tm body vs (F x) ρ = .ok (.rt rv, ρ')) →
    ∃ ρ', forL tm body vs ws (xs.map F) ρ = if xs.all p = true then .ok (.nx, ρ) else .ok (.rt rv, ρ')
  | [], ρ, _, _ => ⟨ρ, rfl⟩
  | x :: xs, ρ, h1, h2 => by
    cases e : p x with
    | true =>
      obtain ⟨ρ', h⟩ := for_all F p rv xs ρ (fun y hy => h1 y (by simp [hy])) (fun y hy => h2 y (by simp [hy]))
      refine ⟨ρ', ?_⟩
      rw [List.map_cons, for_cons (h1 x (by simp) e) (fun _ _ => rfl) h, List.all_cons, e]
      rfl
    | false =>
      obtain ⟨ρ', h⟩ := h2 x (by simp) e
      refine ⟨ρ', ?_⟩
      rw [List.map_cons, for_rt h, List.all_cons, e]
      rfl
structure RuleLk (r : RuleT) : Prop where
  len : r.1.length ≤ 8
  tab : r.2.length = 2 ^ r.1.length
  bit : ∀ x ∈ r.2, 0 ≤ x ∧ x < 2
theorem RuleOk.lk {m : Nat} {r : RuleT} (h : RuleOk m r) : RuleLk r := ⟨Nat.le_trans h.len (by omega), h.tab, h.bit⟩
structure CaseOk (n : Nat) (cs : List Nat) : Prop where
  len : cs.length = n
  sg : ∀ c ∈ cs, c = 45 ∨ c = 48 ∨ c = 49
def wide (cs : List Nat) (k : Nat) : List Nat := cs.take k ++ 45 :: cs.drop (k + 1)
theorem CaseOk.wide {n : Nat} {cs : List Nat} (h : CaseOk n cs) {k : Nat} (hk : k < n) : CaseOk n (wide cs k) := by
  refine ⟨by have := h.len; simp [H.wide]; omega, fun c hc => ?_⟩
  rcases List.mem_append.mp hc with hc | hc
  · exact h.sg c (List.mem_of_mem_take hc)
  · rcases List.mem_cons.mp hc with rfl | hc
    · exact .inl rfl
    · exact h.sg c (List.mem_of_mem_drop hc)
end H

set_option Elab.async false
set_option linter.all false
set_option maxRecDepth 100000
namespace H
open PySem PySem.Spec PyProof.Rows L2 Y
end H

set_option Elab.async false
set_option linter.all false
set_option maxRecDepth 100000
namespace H
open PySem PySem.Spec PyProof.Rows L2 Y
end H

set_option Elab.async false
set_option linter.all false
set_option maxRecDepth 100000
namespace H
open PySem PySem.Spec PyProof.Rows L2 Y
structure NetM (m : Nat) (ns : List RuleT) : Prop where
  len : ns.length = m
  rule : ∀ r ∈ ns, RuleOk m r
theorem NetM.good {m : Nat} {ns : List RuleT} (h : NetM m ns) (hm : m ≤ 100) : GoodNet ns where
  sz := by rw [h.len]; exact hm
  ear := fun r hr => by
    have k := h.rule r hr
    refine ⟨by have := k.len; omega, fun e he => ?_, k.tab⟩
    obtain ⟨es, e1, sub⟩ := k.sub
    rw [e1] at he
    obtain ⟨j, hj, rfl⟩ := List.mem_map.mp he
    have := List.mem_range.mp (sub.subset hj)
    rw [h.len]
    omega
theorem NetM.at {m k : Nat} {ns : List RuleT} (h : NetM m ns) (hk : k < m) : RuleOk m (ns.getD k ([], [])) := by
  rw [List.getD_eq_getElem?_getD, List.getElem?_eq_getElem (by rw [h.len]; exact hk)]
  exact h.rule _ (List.getElem_mem _)
theorem NetM.bit {m k : Nat} {ns : List RuleT} {st : List Int} (h : NetM m ns) (hk : k < m) : oughtI ns st k = 0 ∨ oughtI ns st k = 1 := by
  have := getD_bit (h.at hk).bit (placeI ((ns.getD k ([], [])).1.map fun e => st.getD e.toNat 0)).toNat
  unfold oughtI tellI
  omega
theorem told_ok {ns : List RuleT} {st : List Int} {k : Nat} (g : GoodNet ns) (hs : IsSt ns.length st) (hk : k < ns.length) : C.g__law_told [dNet ns, ti st, .int k] = .ok (.vl (.int (oughtI ns st k))) := by
  obtain ⟨h1, h2, h3⟩ := g.at hk
  have h5 := read_lt hs (ns.getD k ([], [])).1
  have h6 := atI_mapI (xs := (ns.getD k ([], [])).2) h5.1 (by rw [h3]; exact_mod_cast h5.2)
  have zE : szOk (ns.getD k ([], [])).1.length = true := szOk_of (by omega)
  have na := net_at hk
  have ho : oughtI ns st k = (ns.getD k ([], [])).2.getD (placeI ((ns.getD k ([], [])).1.map fun e => st.getD e.toNat 0)).toNat 0 := rfl
  rw [ho]
  clear ho
  generalize ns.getD k ([], []) = r at *
  obtain ⟨E, Tb⟩ := r
  simp only at h1 h2 h3 h5 h6 zE
  show _ = R.ok (Hd.vl (D.int (Tb.getD (placeI (E.map fun e => st.getD e.toNat 0)).toNat 0)))
  have h4 := for_run (tm := tmName 6) (body := C.b__law_told_1) (vs := [6]) (ws := []) D.int (fun p : Int => [some (dNet ns), some (ti st), some (.int k), some (ti E), some (ti Tb), some (.int p), none]) (fun p e => 2 * p + st.getD e.toNat 0) (fun _ => True) E 0 trivial (fun p e _ he => by
    have := h2 e he
    have ml : mulOk 2 p = true := mulOk_l (by decide)
    refine ⟨trivial, by simp, ?_⟩
    simp only [turnF, C.b__law_told_1]
    simp [atI_mapI this.1 (by rw [hs.len]; exact this.2), ml, -List.getD_eq_getElem?_getD])
  have hf : E.foldl (fun p e => 2 * p + st.getD e.toNat 0) 0 = placeI (E.map fun e => st.getD e.toNat 0) := by rw [placeI, List.foldl_map]
  rw [hf] at h4
  simp only [C.g__law_told, C.m__law_told]
  simp [e_fnP, na, zE, h4.1, h6, -List.getD_eq_getElem?_getD]
inductive Tree where
  | is (i : Int) | look (st : List Int) (k : Nat) (a b : Tree)
abbrev wIs : D := dt [105, 115]
abbrev wLk : D := dt [108, 111, 111, 107]
def Tree.d : Tree → D
  | .is i => .tup [wIs, .int i]
  | .look st k a b => .tup [wLk, ti st, .int k, a.d, b.d]
def Tree.ok (m : Nat) : Tree → Prop
  | .is _ => True
  | .look st k a b => IsSt m st ∧ k < m ∧ a.ok m ∧ b.ok m
def Tree.dep : Tree → Nat
  | .is _ => 0
  | .look _ _ a b => 1 + max a.dep b.dep
def ledI (ns : List RuleT) : Tree → Int
  | .is i => i
  | .look st k a b => if oughtI ns st k = 0 then ledI ns a else ledI ns b
theorem s_is : Str.ofString "is" = tx [105, 115] := by decide +kernel
theorem s_look : Str.ofString "look" = tx [108, 111, 111, 107] := by decide +kernel
theorem e_ii : eqD (dt [105, 115]) (dt [105, 115]) = .ok (.bl true) := by rw [eq_dt (fun x hx => by simp at hx; omega) (fun x hx => by simp at hx; omega)]; rfl
theorem e_li : eqD (dt [108, 111, 111, 107]) (dt [105, 115]) = .ok (.bl false) := by rw [eq_dt (fun x hx => by simp at hx; omega) (fun x hx => by simp at hx; omega)]; rfl
theorem e_il : eqD (dt [105, 115]) (dt [108, 111, 111, 107]) = .ok (.bl false) := by rw [eq_dt (fun x hx => by simp at hx; omega) (fun x hx => by simp at hx; omega)]; rfl
theorem e_ll : eqD (dt [108, 111, 111, 107]) (dt [108, 111, 111, 107]) = .ok (.bl true) := by rw [eq_dt (fun x hx => by simp at hx; omega) (fun x hx => by simp at hx; omega)]; rfl
theorem i2 {a b : D} : atI [a, b] 0 = some a ∧ atI [a, b] 1 = some b := ⟨atI_of (j := 0) rfl rfl, atI_of (j := 1) rfl rfl⟩
theorem i5 {a b c d e : D} : atI [a, b, c, d, e] 0 = some a ∧ atI [a, b, c, d, e] 1 = some b ∧ atI [a, b, c, d, e] 2 = some c ∧ atI [a, b, c, d, e] 3 = some d ∧ atI [a, b, c, d, e] 4 = some e :=
  ⟨atI_of (j := 0) rfl rfl, atI_of (j := 1) rfl rfl, atI_of (j := 2) rfl rfl, atI_of (j := 3) rfl rfl, atI_of (j := 4) rfl rfl⟩
theorem law_depth_ok : ∀ (t : Tree) (n : Nat), t.dep < n → C.r__law_depth n [t.d] = .ok (.fr (.int t.dep))
  | .is i, 0, h => by omega
  | .is i, n + 1, _ => by
    simp only [C.r__law_depth, C.m__law_depth, s_is, Tree.d, Tree.dep]
    simp [e_fnP, ixD, i2.1, e_ii]
  | .look st k a b, 0, h => by omega
  | .look st k a b, n + 1, h => by
    have h1 := law_depth_ok a n (by unfold Tree.dep at h; omega)
    have h2 := law_depth_ok b n (by unfold Tree.dep at h; omega)
    simp only [C.r__law_depth, C.m__law_depth, s_is, Tree.d, Tree.dep]
    generalize C.r__law_depth n = G at h1 h2 ⊢
    simp [e_fnP, ixD, i5, e_li, h1, h2]
    omega
theorem whileN_step {t : BM} {body : SM} {vs : List Nat} {n : Nat} {ρ ρ1 ρ2 : Y.Env} (h1 : t ρ = .ok (true, ρ1)) (h2 : body ρ1 = .ok (.nx, ρ2)) : whileN t body vs (n + 1) ρ = whileN t body vs n (wipeE ρ2 vs) := by
  conv => lhs; unfold whileN
  rw [h1]
  simp only [R.bind_ok, if_true]
  rw [h2]
  rfl
theorem whileN_stop {t : BM} {body : SM} {vs : List Nat} {n : Nat} {ρ ρ1 : Y.Env} (h1 : t ρ = .ok (false, ρ1)) : whileN t body vs (n + 1) ρ = .ok (.nx, ρ1) := by
  unfold whileN
  rw [h1]
  rfl
theorem shown_go {m : Nat} {ns : List RuleT} {nss : List (List RuleT)} {i : Nat} {r1 : Option D} (h : NetM m ns) (hm : m ≤ 20) (hi : nss[i]? = some ns) : ∀ t : Tree, t.ok m → ∃ n, whileN (cBl (cOp eqD (cIx (cVar 3) (cC (.int 0))) (cC wLk))) C.b__law_shown_1 [] n [some (.lst (nss.map dNet)), r1, some (.int i), some t.d] = .ok (.nx, [some (.lst (nss.map dNet)), r1, some (.int i), some (Tree.is (ledI ns t)).d])
  | .is j, _ => by
    refine ⟨1, ?_⟩
    rw [whileN_stop (ρ1 := [some (.lst (nss.map dNet)), r1, some (.int i), some (Tree.is j).d])]
    · rfl
    · simp only [Tree.d]
      simp [ixD, i2.1, e_il]
  | .look st k a b, hk => by
    obtain ⟨h1, h2, h3, h4⟩ := hk
    have ni : atI (nss.map dNet) (i : Int) = some (dNet ns) := by rw [atI_map, atI_of (j := i) rfl hi]; rfl
    have o := told_ok (h.good (by omega)) (st := st) (k := k) (by rw [h.len]; exact h1) (by rw [h.len]; exact h2)
    have t1 : cBl (cOp eqD (cIx (cVar 3) (cC (.int 0))) (cC wLk)) [some (.lst (nss.map dNet)), r1, some (.int i), some (Tree.look st k a b).d] = .ok (true, [some (.lst (nss.map dNet)), r1, some (.int i), some (Tree.look st k a b).d]) := by
      simp only [Tree.d]
      simp [ixD, i5.1, e_ll]
    rcases h.bit (st := st) h2 with e | e
    · obtain ⟨n, hn⟩ := shown_go (r1 := r1) h hm hi a h3
      rw [e] at o
      refine ⟨n + 1, ?_⟩
      rw [whileN_step (ρ2 := [some (.lst (nss.map dNet)), r1, some (.int i), some a.d]) t1 (by
        simp only [C.b__law_shown_1, Tree.d]
        simp [ixD, i5, ni, o])]
      rw [show ledI ns (.look st k a b) = ledI ns a by rw [ledI, if_pos e]]
      exact hn
    · obtain ⟨n, hn⟩ := shown_go (r1 := r1) h hm hi b h4
      rw [e] at o
      refine ⟨n + 1, ?_⟩
      rw [whileN_step (ρ2 := [some (.lst (nss.map dNet)), r1, some (.int i), some b.d]) t1 (by
        simp only [C.b__law_shown_1, Tree.d]
        simp [ixD, i5, ni, o])]
      rw [show ledI ns (.look st k a b) = ledI ns b by rw [ledI, if_neg (by omega)]]
      exact hn
structure NetsOk (m : Nat) (nss : List (List RuleT)) : Prop where
  lo : 2 ≤ nss.length
  hi : nss.length ≤ 6
  m1 : 1 ≤ m
  m5 : m ≤ 5
  net : ∀ ns ∈ nss, NetM m ns
abbrev dNets (nss : List (List RuleT)) : D := .lst (nss.map dNet)
def shownB (nss : List (List RuleT)) (t : Tree) : Bool := (List.range nss.length).all fun i => decide (ledI (nss.getD i []) t = i)
def shownD (nss : List (List RuleT)) (t : Tree) : D := if shownB nss t = true then .int t.dep else .non
theorem law_shown_ok {m : Nat} {nss : List (List RuleT)} {t : Tree} (h : NetsOk m nss) (ht : t.ok m) (hd : t.dep < 40) : C.g__law_shown [dNets nss, t.d] = .ok (.fr (shownD nss t)) := by
  have hhi := h.hi
  have hm5 := h.m5
  have turn : ∀ i, i < nss.length → turnF (tmName 2) C.b__law_shown_2 [2, 3] (.int (i : Nat)) [some (dNets nss), some t.d, none, none] = if ledI (nss.getD i []) t = i then .ok (.nx, [some (dNets nss), some t.d, none, none]) else .ok (.rt (.fr .non), [some (dNets nss), some t.d, some (.int (i : Nat)), some (Tree.is (ledI (nss.getD i []) t)).d]) := fun i hi => by
    have hi' : nss[i]? = some (nss.getD i []) := by rw [List.getD_eq_getElem?_getD, List.getElem?_eq_getElem hi]; rfl
    have hn : NetM m (nss.getD i []) := h.net _ (List.mem_of_getElem? hi')
    obtain ⟨n, e⟩ := shown_go (r1 := some t.d) hn (by omega) hi' t ht
    have e := sWhile_of e
    generalize ledI (nss.getD i []) t = v at e ⊢
    simp only [turnF, C.b__law_shown_2, s_look]
    generalize C.b__law_shown_1 = B at e ⊢
    simp [e]
    simp [Tree.d, ixD, i2]
    by_cases c : v = i <;> simp [c]
  obtain ⟨ρ', e⟩ := for_all (tm := tmName 2) (body := C.b__law_shown_2) (vs := [2, 3]) (ws := []) (fun i : Nat => D.int (i : Nat)) (fun i => decide (ledI (nss.getD i []) t = i)) (.fr .non) (List.range nss.length) [some (dNets nss), some t.d, none, none]
    (fun i hi hp => by rw [turn i (List.mem_range.mp hi), if_pos (of_decide_eq_true hp)])
    (fun i hi hp => ⟨_, by rw [turn i (List.mem_range.mp hi), if_neg (of_decide_eq_false hp)]⟩)
  have dp := law_depth_ok t 40 hd
  have dp : C.g__law_depth [t.d] = _ := dp
  have rM : rngOk nss.length = true := rngOk_of (by omega) (by omega)
  have zM : szOk nss.length = true := szOk_of (by omega)
  simp only [C.g__law_shown, C.m__law_shown]
  generalize C.b__law_shown_2 = B at e ⊢
  have e : forL _ _ _ _ _ _ = if shownB nss t = true then _ else _ := e
  unfold shownD
  cases q : shownB nss t with
  | true =>
    have e : forL _ _ _ _ _ _ = _ := e.trans (if_pos q)
    simp [e_fnP, rM, zM, e, dp]
  | false =>
    have e : forL _ _ _ _ _ _ = _ := e.trans (if_neg (by rw [q]; simp))
    simp [e_fnP, rM, zM, e]
theorem dedup_one {m : Int} : ∀ {xs : List Int}, (∀ x ∈ xs, x = m) → (dedupI xs).length ≤ 1
  | [], _ => by simp [dedupI]
  | [x], _ => by simp [dedupI]
  | x :: y :: r, h => by
    have ih := dedup_one (xs := y :: r) fun z hz => h z (by simp [hz])
    have h1 := h x (by simp)
    have h2 := h y (by simp)
    unfold dedupI
    rw [if_pos (by rw [h1, h2]; simp)]
    exact ih
theorem need_nets_ok {m : Nat} {nss : List (List RuleT)} (h : NetsOk m nss) : C.g_need_nets [dNets nss] = .ok (.fr .non) := by
  have hlo := h.lo
  have hhi := h.hi
  have hm5 := h.m5
  have q := comp_map (tm := tmName 1) (t := cYes) (e := C.e_need_nets_1) (vs := [1]) (ws := []) (ρ := [some (dNets nss), none]) dNet (fun ns => D.int (ns.length : Nat)) nss (fun ns hns => by
    have := (h.net ns hns).len
    have z : szOk ns.length = true := szOk_of (by omega)
    simp only [turnC, C.e_need_nets_1]
    simp [z])
  have e2 : (nss.map fun ns => D.int (ns.length : Nat)) = (nss.map fun ns => ((ns.length : Nat) : Int)).map D.int := by rw [List.map_map]; rfl
  rw [e2] at q
  have dl := dedup_one (m := m) (xs := nss.map fun ns => ((ns.length : Nat) : Int)) fun x hx => by
    obtain ⟨ns, hns, rfl⟩ := List.mem_map.mp hx
    rw [(h.net ns hns).len]
  obtain ⟨n0, r, rfl⟩ : ∃ n0 r, nss = n0 :: r := by
    cases nss with
    | nil => simp at hlo
    | cons a b => exact ⟨a, b, rfl⟩
  have l0 := (h.net n0 (by simp)).len
  have a0 : atI ((n0 :: r).map dNet) 0 = some (dNet n0) := atI_of (j := 0) rfl rfl
  have z : szOk (n0 :: r).length = true := szOk_of (by omega)
  have z0 : szOk n0.length = true := szOk_of (by omega)
  have c1 : (2 : Int) ≤ ((n0 :: r).length : Nat) := by omega
  have c2 : (((n0 :: r).length : Nat) : Int) ≤ 6 := by omega
  have c3 : ¬ (5 : Int) < (n0.length : Nat) := by omega
  generalize hX : ((n0 :: r).map fun ns => ((ns.length : Nat) : Int)) = X at q dl
  have lX : X.length ≤ 4000 := by rw [← hX, List.length_map]; omega
  have c4 : ¬ (1 : Int) < ((dedupI X).length : Nat) := by omega
  have z' : szOk ((n0 :: r).map dNet).length = true := by rw [List.length_map]; exact z
  have ll : (((n0 :: r).map dNet).length : Int) = ((n0 :: r).length : Nat) := by rw [List.length_map]
  generalize (n0 :: r).length = N at c1 c2 ll
  generalize hL : (n0 :: r).map dNet = L at *
  have eL : dNets (n0 :: r) = .lst L := by rw [← hL]
  rw [eL] at q ⊢
  simp only [C.g_need_nets, C.m_need_nets]
  generalize C.e_need_nets_1 = B at q ⊢
  simp [e_fnP, z', ll, c1, c2, q, lX, c4, ixD, a0, z0, c3]
end H

set_option Elab.async false
set_option linter.all false
set_option maxRecDepth 100000
namespace H
open PySem PySem.Spec PyProof.Rows L2 Y
theorem fit_ti {n : Nat} {xs : List Int} : Fit (n + 1) (ti xs) := fun d h => by
  obtain ⟨x, _, rfl⟩ := List.mem_map.mp h
  cases n <;> trivial
theorem fit_rule {n : Nat} {r : RuleT} : Fit (n + 2) (dRule r) := fun d h => by
  simp only [List.mem_cons, List.not_mem_nil, or_false] at h
  rcases h with rfl | rfl
  · exact fit_ti
  · exact fit_ti
theorem fit_net {n : Nat} {ns : List RuleT} : Fit (n + 3) (dNet ns) := fun d h => by
  obtain ⟨r, _, rfl⟩ := List.mem_map.mp h
  exact fit_rule
theorem fit_nets {n : Nat} {nss : List (List RuleT)} : Fit (n + 4) (dNets nss) := fun d h => by
  obtain ⟨r, _, rfl⟩ := List.mem_map.mp h
  exact fit_net
theorem ne_nets {nss : List (List RuleT)} : neD (dNets nss) (.lst []) = .ok (.bl (!nss.isEmpty)) := by
  rw [neD_of (n := 4) fit_nets (fit_nil (n := 3)), eqP_lst, eqPs_nil]; simp
theorem at_last {α : Type} {xs : List α} (h : xs ≠ []) : atI xs (-1) = some (xs.getLast h) := by
  have hl : 0 < xs.length := List.length_pos_iff.mpr h
  unfold atI ixN
  rw [if_neg (by omega), if_pos (by omega)]
  show xs[((xs.length : Int) + -1).toNat]? = _
  rw [show ((xs.length : Int) + -1).toNat = xs.length - 1 by omega, List.getElem?_eq_getElem (by omega), List.getLast_eq_getElem]
theorem nets_ok {n : Int} : ∃ (m : Nat) (nss : List (List RuleT)) (n' : Int), C.g__law_nets [.lst [.int n]] = .ok (.fr (dNets nss), [some (.lst [.int n'])]) ∧ NetsOk m nss := by
  have tk := take2_ok (n := n) (m := 5) (by omega) (by omega)
  obtain ⟨m, hm⟩ : ∃ m : Nat, 1 + n % 5 = m := ⟨(1 + n % 5).toNat, by omega⟩
  have hm1 : 1 ≤ m ∧ m ≤ 5 := by omega
  have tk2 := take2_ok (n := n / 5) (m := 5) (by omega) (by omega)
  obtain ⟨M, hM⟩ : ∃ M : Nat, 2 + n / 5 % 5 = M := ⟨(2 + n / 5 % 5).toNat, by omega⟩
  have hM1 : 2 ≤ M ∧ M ≤ 6 := by omega
  obtain ⟨ρ', e, b, F, rfl, lF, hF⟩ := for_inx (tm := tmName 3) (body := C.b__law_nets_1) (vs := [3, 4, 5]) (ws := []) (fun k : Nat => D.int (k : Nat))
    (fun i ρ => ∃ (b : Int) (F : List (List RuleT)), ρ = [some (.lst [.int b]), some (.int m), some (dNets F), none, none, none] ∧ F.length = i ∧ ∀ ns ∈ F, NetM m ns) M
    [some (.lst [.int (n / 5 / 5)]), some (.int m), some (.lst []), none, none, none]
    ⟨n / 5 / 5, [], rfl, rfl, by simp⟩ (fun i ρ hi ⟨b, F, eρ, lF, hF⟩ => by
      subst eρ
      obtain ⟨ns, b1, e1, l1, h1⟩ := comp_ex (tm := tmName 5) (t := cYes) (e := C.e__law_nets_1) (vs := [5]) (ws := []) (fun j : Nat => D.int (j : Nat)) dRule (fun c : Int => [some (.lst [.int c]), some (.int m), some (dNets F), some (.int (i : Nat)), none, none]) (RuleOk m) (List.range m) b (fun c j hj => by
        obtain ⟨r, c2, er, hr⟩ := rule2_ok (n := c) (m := m) (by omega) (by omega)
        refine ⟨r, c2, ?_, hr, by simp⟩
        simp only [turnC, C.e__law_nets_1]
        simp [er])
      rw [List.length_range] at l1
      have hn : NetM m ns := ⟨l1, h1⟩
      have rm : rngOk m = true := rngOk_of (by omega) (by omega)
      have zm : szOk m = true := szOk_of (by omega)
      have zF : szOk (F.length + 1) = true := szOk_of (by omega)
      have ne := ne_nets (nss := F)
      have t3 := take2_ok (n := b1) (m := 3) (by omega) (by omega)
      have addF : ∀ x : List RuleT, NetM m x → ∃ G : List (List RuleT), F.map dNet ++ [dNet x] = G.map dNet ∧ G.length = i + 1 ∧ ∀ y ∈ G, NetM m y := fun x hx => ⟨F ++ [x], by simp, by simp [lF], fun y hy => by
        rcases List.mem_append.mp hy with hy | hy
        · exact hF y hy
        · simp only [List.mem_cons, List.not_mem_nil, or_false] at hy
          subst hy; exact hx⟩
      by_cases c : F = []
      · obtain ⟨G, eG, lG, hG⟩ := addF ns hn
        have ce : F.isEmpty = true := by rw [c]; rfl
        rw [ce] at ne
        have ne : neD (D.lst (F.map dNet)) (D.lst []) = .ok (.bl false) := ne
        refine ⟨_, ?_, ⟨b1, G, rfl, lG, hG⟩, by simp⟩
        simp only [turnF, C.b__law_nets_1]
        generalize C.e__law_nets_1 = B at e1 ⊢
        simp [rm, zm, e1, ne, zF, eG]
      · have ce : F.isEmpty = false := by cases F with
          | nil => exact absurd rfl c
          | cons => rfl
        rw [ce] at ne
        have ne : neD (D.lst (F.map dNet)) (D.lst []) = .ok (.bl true) := ne
        by_cases c3 : 0 < b1 % 3
        · have t4 := take2_ok (n := b1 / 3) (m := (m : Nat)) (by omega) (by omega)
          obtain ⟨w, hw⟩ : ∃ w : Nat, b1 / 3 % (m : Nat) = w := ⟨(b1 / 3 % (m : Nat)).toNat, by
            have : 0 ≤ b1 / 3 % ((m : Nat) : Int) := Int.emod_nonneg _ (by omega)
            omega⟩
          have hwl : w < m := by
            have : b1 / 3 % ((m : Nat) : Int) < m := Int.emod_lt_of_pos _ (by omega)
            omega
          rw [hw] at t4
          have al : atI (F.map dNet) (-1) = some (dNet (F.getLast c)) := by rw [atI_map, at_last c]; rfl
          have hl := hF _ (List.getLast_mem c)
          generalize F.getLast c = l at al hl
          have aw : atI (ns.map dRule) (w : Int) = some (dRule (ns.getD w ([], []))) := net_at (by omega)
          have hr := hn.at hwl
          generalize ns.getD w ([], []) = r at aw hr
          have hx : NetM m (l.take w ++ r :: l.drop (w + 1)) := ⟨by simp [hl.len]; omega, fun y hy => by
            simp only [List.mem_append, List.mem_cons] at hy
            rcases hy with hy | rfl | hy
            · exact hl.rule y (List.mem_of_mem_take hy)
            · exact hr
            · exact hl.rule y (List.mem_of_mem_drop hy)⟩
          obtain ⟨G, eG, lG, hG⟩ := addF _ hx
          have k1 := cut_to (ds := l.map dRule) (k := w)
          have k2 := cut_from (ds := l.map dRule) (k := w + 1)
          rw [show (((w + 1 : Nat)) : Int) = (w : Int) + 1 by omega, ← List.map_drop] at k2
          rw [← List.map_take] at k1
          have ll := hl.len
          have q1 : (l.take w).length ≤ 5 := by rw [List.length_take]; omega
          have q2 : (l.drop (w + 1)).length ≤ 5 := by rw [List.length_drop]; omega
          have ex : dNet (l.take w ++ r :: l.drop (w + 1)) = .tup ((l.take w).map dRule ++ dRule r :: (l.drop (w + 1)).map dRule) := by simp
          rw [ex] at eG
          refine ⟨_, ?_, ⟨b1 / 3 / m, G, rfl, lG, hG⟩, by simp⟩
          generalize hA : (l.take w).map dRule = A at k1 eG
          generalize hB : (l.drop (w + 1)).map dRule = B1 at k2 eG
          have lA : A.length ≤ 5 := by rw [← hA, List.length_map]; exact q1
          have lB : B1.length ≤ 5 := by rw [← hB, List.length_map]; exact q2
          have z1 : szOk (A.length + 1) = true := szOk_of (by omega)
          have z2 : szOk (A.length + 1 + B1.length) = true := szOk_of (by omega)
          simp only [turnF, C.b__law_nets_1]
          generalize C.e__law_nets_1 = B at e1 ⊢
          simp [rm, zm, e1, ne, t3, c3, t4, ixD, al, aw, k1, k2, z1, z2, zF, eG, szOk_of]
        · obtain ⟨G, eG, lG, hG⟩ := addF ns hn
          refine ⟨_, ?_, ⟨b1 / 3, G, rfl, lG, hG⟩, by simp⟩
          simp only [turnF, C.b__law_nets_1]
          generalize C.e__law_nets_1 = B at e1 ⊢
          simp [rm, zm, e1, ne, t3, c3, zF, eG])
  have rM : rngOk M = true := rngOk_of (by omega) (by omega)
  have zM : szOk M = true := szOk_of (by omega)
  refine ⟨m, F, b, ?_, ⟨by omega, by omega, by omega, by omega, hF⟩⟩
  simp only [C.g__law_nets, C.m__law_nets]
  generalize C.b__law_nets_1 = B at e ⊢
  simp [e_fnD, tk, hm, tk2, hM, rM, zM, e, shAt, szOk_of]
theorem law_whole2_ok {i : Int} : C.g__law_whole_2 [.int i] = .ok (.fr (.bl true)) := by
  simp [C.g__law_whole_2, C.m__law_whole_2, e_fnP, noDit, Y.isInt, Y.isBl]
end H

set_option Elab.async false
set_option linter.all false
set_option maxRecDepth 100000
namespace H
open PySem PySem.Spec PyProof.Rows L2 Y
structure EarsOk (m : Nat) (r : RuleT) : Prop where
  sub : ∃ es : List Nat, r.1 = es.map (fun j : Nat => (j : Int)) ∧ es.Nodup ∧ ∀ j ∈ es, j < m
theorem RuleOk.ears {m : Nat} {r : RuleT} (h : RuleOk m r) : EarsOk m r := by
  obtain ⟨es, e1, s⟩ := h.sub
  exact ⟨es, e1, s.nodup List.nodup_range, fun j hj => List.mem_range.mp (s.subset hj)⟩
end H

set_option Elab.async false
set_option linter.all false
set_option maxRecDepth 100000
namespace H
open PySem PySem.Spec PyProof.Rows L2 Y
abbrev li (xs : List Int) : D := .lst (xs.map D.int)
theorem NetOk.lk {ns : List RuleT} {most k : Nat} (h : NetOk ns most) (hk : k < ns.length) : RuleOk ns.length (ns.getD k ([], [])) := by
  rw [List.getD_eq_getElem?_getD, List.getElem?_eq_getElem hk]
  exact h.rule _ (List.getElem_mem hk)
end H

set_option Elab.async false
set_option linter.all false
set_option maxRecDepth 100000
namespace H
open PySem PySem.Spec PyProof.Rows L2 Y
end H

set_option Elab.async false
set_option linter.all false
set_option maxRecDepth 100000
namespace H
open PySem PySem.Spec PyProof.Rows L2 Y
def Nd : Nat → D → Prop
  | 0, d => noDit d = true
  | n + 1, d => noDit d = true ∧ ∀ xs, d = .tup xs → xs.length ≤ 1000000 ∧ ∀ x ∈ xs, Nd n x
theorem Nd.no : ∀ {n : Nat} {d : D}, Nd n d → noDit d = true
  | 0, _, h => h
  | _ + 1, _, h => h.1
theorem Nd.down : ∀ {n : Nat} {d : D}, Nd (n + 1) d → Nd n d
  | 0, _, h => h.1
  | n + 1, _, h => ⟨h.1, fun xs e => ⟨(h.2 xs e).1, fun x hx => Nd.down ((h.2 xs e).2 x hx)⟩⟩
theorem nd_flat {n : Nat} {d : D} (h : noDit d = true) (h2 : ∀ xs, d ≠ .tup xs) : Nd n d := by
  cases n with
  | zero => exact h
  | succ n => exact ⟨h, fun xs e => absurd e (h2 xs)⟩
@[simp] theorem nd_int {n : Nat} {i : Int} : Nd n (.int i) := nd_flat rfl (by simp)
@[simp] theorem nd_bl {n : Nat} {b : Bool} : Nd n (.bl b) := nd_flat rfl (by simp)
@[simp] theorem nd_non {n : Nat} : Nd n .non := nd_flat rfl (by simp)
@[simp] theorem nd_str {n : Nat} {x : Str} : Nd n (.str x) := nd_flat rfl (by simp)
@[simp] theorem nd_lst {n : Nat} {x : List D} : Nd n (.lst x) := nd_flat rfl (by simp)
@[simp] theorem nd_dik {n : Nat} {k : List Key} {x : List D} : Nd n (.dik k x) := nd_flat rfl (by simp)
theorem Nd.tup {n : Nat} {xs : List D} (h : Nd (n + 1) (.tup xs)) : xs.length ≤ 1000000 ∧ ∀ x ∈ xs, Nd n x := h.2 xs rfl
end H

set_option Elab.async false
set_option linter.all false
set_option maxRecDepth 100000
namespace H
open PySem PySem.Spec PyProof.Rows L2 Y
end H

set_option Elab.async false
set_option linter.all false
set_option maxRecDepth 100000
namespace H
open PySem PySem.Spec PyProof.Rows L2 Y
inductive Pap where
  | rest | against (k : Nat) | split (k : Nat) (a b : Pap)
abbrev wRest : D := dt [114, 101, 115, 116]
abbrev wAg : D := dt [97, 103, 97, 105, 110, 115, 116]
abbrev wSplit : D := dt [115, 112, 108, 105, 116]
def Pap.d : Pap → D
  | .rest => .tup [wRest]
  | .against k => .tup [wAg, .int k]
  | .split k a b => .tup [wSplit, .int k, a.d, b.d]
def Pap.ok (m : Nat) : Pap → Prop
  | .rest => True
  | .against k => k < m
  | .split k a b => k < m ∧ a.ok m ∧ b.ok m
def Pap.dep : Pap → Nat
  | .rest => 0
  | .against _ => 0
  | .split _ a b => 1 + max a.dep b.dep
theorem j2 {a b : D} : atI [a, b] 0 = some a ∧ atI [a, b] 1 = some b := ⟨atI_of (j := 0) rfl rfl, atI_of (j := 1) rfl rfl⟩
def sign (f : List Nat) (k c : Nat) : List Nat := f.take k ++ c :: f.drop (k + 1)
def both (x y : Option (List (List Int))) : Option (List (List Int)) := match x with
  | none => none
  | some a => match y with
    | none => none
    | some b => some (a ++ b)
end H

set_option Elab.async false
set_option linter.all false
set_option maxRecDepth 100000
namespace H
open PySem PySem.Spec PyProof.Rows L2 Y
end H

set_option Elab.async false
set_option linter.all false
set_option maxRecDepth 100000
namespace H
open PySem PySem.Spec PyProof.Rows L2 Y
theorem nin_of {x y : D} {b : Bool} (h : inD x y = .ok (.bl b)) : ninD x y = .ok (.bl (!b)) := by
  unfold inD at h
  unfold ninD
  cases e : inB x y with
  | none => rw [e] at h; cases h
  | some c => rw [e] at h; cases h; rfl
end H

set_option Elab.async false
set_option linter.all false
set_option maxRecDepth 100000
namespace H
open PySem PySem.Spec PyProof.Rows L2 Y
end H

set_option Elab.async false
set_option linter.all false
set_option maxRecDepth 100000
namespace H
open PySem PySem.Spec PyProof.Rows L2 Y
def flipI (st : List Int) (k : Nat) : List Int := withI st k (1 - st.getD k 0)
def addS (L : List (List Int)) (t : List Int) : List (List Int) := if t ∈ L then L else L ++ [t]
structure InS (m : Nat) (L : List (List Int)) : Prop where
  nd : L.Nodup
  st : ∀ x ∈ L, IsSt m x
theorem nodup_len {α : Type} [DecidableEq α] : ∀ {A B : List α}, A.Nodup → (∀ x ∈ A, x ∈ B) → A.length ≤ B.length
  | [], B, _, _ => by simp
  | x :: A, B, h, s => by
    obtain ⟨h1, h2⟩ := List.nodup_cons.mp h
    have hx := s x (by simp)
    have ih := nodup_len (A := A) (B := B.erase x) h2 fun y hy => (List.mem_erase_of_ne fun z : y = x => h1 (by rw [← z]; exact hy)).mpr (s y (by simp [hy]))
    rw [List.length_erase_of_mem hx] at ih
    have : 0 < B.length := List.length_pos_of_mem hx
    rw [List.length_cons]
    omega
theorem InS.len {m : Nat} {L : List (List Int)} (h : InS m L) : L.length ≤ 2 ^ m := by
  have := nodup_len h.nd (B := stands m) fun x hx => mem_stands.mpr (h.st x hx)
  rwa [stands_len] at this
theorem InS.add {m : Nat} {L : List (List Int)} {t : List Int} (h : InS m L) (ht : IsSt m t) : InS m (addS L t) := by
  unfold addS
  by_cases c : t ∈ L
  · rwa [if_pos c]
  · rw [if_neg c]
    refine ⟨List.nodup_append.mpr ⟨h.nd, by simp, fun a ha b hb z => ?_⟩, fun x hx => ?_⟩
    · rw [List.mem_singleton] at hb
      exact c (by rw [← hb, ← z]; exact ha)
    · rcases List.mem_append.mp hx with hx | hx
      · exact h.st x hx
      · rw [List.mem_singleton] at hx
        rw [hx]; exact ht
abbrev kt (t : List Int) : List Key := t.map Sum.inl
theorem keys_ti : ∀ t : List Int, keysOf (t.map D.int) = some (kt t)
  | [] => rfl
  | x :: t => by
    rw [List.map_cons]
    unfold keysOf
    rw [keys_ti t]
    rfl
theorem kt_inj {a b : List Int} : kt a = kt b ↔ a = b := ⟨fun h => by
  have := congrArg (List.map fun k : Key => match k with | Sum.inl i => i | Sum.inr _ => 0) h
  simpa [kt, List.map_map, Function.comp_def] using this, fun h => by rw [h]⟩
theorem find_kt : ∀ {L : List (List Int)} {ds : List D} {t : List Int}, L.length = ds.length → (findD (L.map kt) ds (kt t)).isSome = decide (t ∈ L)
  | [], ds, t, _ => by simp [findD]
  | a :: L, [], t, h => by simp at h
  | a :: L, d :: ds, t, h => by
    have ih := find_kt (L := L) (ds := ds) (t := t) (by simpa using h)
    rw [List.map_cons]
    unfold findD
    by_cases c : a = t
    · rw [if_pos (kt_inj.mpr c)]; simp [c]
    · rw [if_neg fun z => c (kt_inj.mp z), ih]
      have : ¬ t = a := fun z => c z.symm
      simp [this]
theorem get_kt {L : List (List Int)} {ds : List D} {t : List Int} : getDic (.dit (L.map kt) ds) (ti t) = .ok (findD (L.map kt) ds (kt t)) := by
  show (match keysOf (t.map D.int) with | some k => _ | none => _) = _
  rw [keys_ti]
end H

set_option Elab.async false
set_option linter.all false
set_option maxRecDepth 100000
namespace H
open PySem PySem.Spec PyProof.Rows L2 Y
end H

set_option Elab.async false
set_option linter.all false
set_option maxRecDepth 100000
namespace H
open PySem PySem.Spec PyProof.Rows L2 Y
end H

set_option Elab.async false
set_option linter.all false
set_option maxRecDepth 100000
namespace H
open PySem PySem.Spec PyProof.Rows L2 Y
theorem addS_mem {t x : List Int} {L : List (List Int)} : x ∈ addS L t ↔ x ∈ L ∨ x = t := by
  unfold addS
  split
  · rename_i c
    exact ⟨.inl, fun h => h.elim id fun e => e ▸ c⟩
  · rw [List.mem_append, List.mem_singleton]
end H

set_option Elab.async false
set_option linter.all false
set_option maxRecDepth 100000
namespace H
open PySem PySem.Spec PyProof.Rows L2 Y
@[simp] theorem e_dget {a b : EM} {ρ : Y.Env} : cDGet a b ρ = (a ρ >>= fun p => b p.2 >>= fun q => (p.1.d q.2).nox >>= fun x => (q.1.d q.2).nox >>= fun y => (getDic x y).nox >>= fun o => match o with | some z => R.ok (.vl z, q.2) | none => .stk) := id rfl
end H

set_option Elab.async false
set_option linter.all false
set_option maxRecDepth 100000
namespace H
open PySem PySem.Spec PyProof.Rows L2 Y
end H

set_option Elab.async false
set_option linter.all false
set_option maxRecDepth 100000
namespace H
open PySem PySem.Spec PyProof.Rows L2 Y
end H

set_option Elab.async false
set_option linter.all false
set_option maxRecDepth 100000
namespace H
open PySem PySem.Spec PyProof.Rows L2 Y
end H

set_option Elab.async false
set_option linter.all false
set_option maxRecDepth 100000
namespace H
open PySem PySem.Spec PyProof.Rows L2 Y
end H

set_option Elab.async false
set_option linter.all false
set_option maxRecDepth 100000
namespace H
open PySem PySem.Spec PyProof.Rows L2 Y
end H

set_option Elab.async false
set_option linter.all false
set_option maxRecDepth 100000
namespace H
open PySem PySem.Spec PyProof.Rows L2 Y
def lx : List Nat → List Nat → Prop
  | x :: xs, y :: ys => x < y ∨ (x = y ∧ lx xs ys)
  | _, _ => False
def sl (a b : List Nat) : Prop := a.length < b.length ∨ (a.length = b.length ∧ lx a b)
def sle (a b : List Nat) : Prop := a = b ∨ sl a b
theorem lx_app : ∀ {a b c d : List Nat}, lx a b → lx (a ++ c) (b ++ d)
  | [], _, _, _, h => h.elim
  | _ :: _, [], _, _, h => h.elim
  | x :: xs, y :: ys, c, d, h => h.imp id fun h => ⟨h.1, lx_app h.2⟩
theorem lx_last {x y : Nat} (h : x < y) : ∀ {a : List Nat}, lx (a ++ [x]) (a ++ [y])
  | [] => .inl h
  | _ :: _ => .inr ⟨rfl, lx_last h⟩
theorem sl_snoc {a b : List Nat} {x y : Nat} (h : sl a b) : sl (a ++ [x]) (b ++ [y]) := by
  rcases h with h | ⟨h, h2⟩
  · exact .inl (by simp; omega)
  · exact .inr ⟨by simp [h], lx_app h2⟩
theorem sl_last {a : List Nat} {x y : Nat} (h : x < y) : sl (a ++ [x]) (a ++ [y]) := .inr ⟨by simp, lx_last h⟩
def Wk (ns : List RuleT) : List Int → List Nat → List Int → Prop
  | s, [], t => s = t
  | s, k :: ks, t => k ∈ wrongI ns s ∧ Wk ns (flipI s k) ks t
theorem wk_snoc {ns : List RuleT} {k : Nat} {t : List Int} : ∀ {w : List Nat} {s : List Int}, Wk ns s (w ++ [k]) t ↔ ∃ u, Wk ns s w u ∧ k ∈ wrongI ns u ∧ t = flipI u k
  | [], s => by
    constructor
    · rintro ⟨h, h2⟩; exact ⟨s, rfl, h, h2.symm⟩
    · rintro ⟨u, rfl, h, h2⟩; exact ⟨h, h2.symm⟩
  | x :: w, s => by
    constructor
    · rintro ⟨h, h2⟩
      obtain ⟨u, h3, h4⟩ := wk_snoc.mp h2
      exact ⟨u, ⟨h, h3⟩, h4⟩
    · rintro ⟨u, ⟨h, h3⟩, h4⟩
      exact ⟨h, wk_snoc.mpr ⟨u, h3, h4⟩⟩
abbrev EnT := List Int × List Nat
def addE (s : EnT) (L : List EnT) (k : Nat) : List EnT := if flipI s.1 k ∈ L.map (·.1) then L else L ++ [(flipI s.1 k, s.2 ++ [k])]
def kidE (p : EnT) (k : Nat) : EnT := (flipI p.1 k, p.2 ++ [k])
/-- what holds of the entries; dn: the changes that were looked at -/
structure BI (ns : List RuleT) (st0 : List Int) (L : List EnT) (dn : EnT → Nat → Prop) : Prop where
  wk : ∀ e ∈ L, Wk ns st0 e.2 e.1
  srt : L.Pairwise fun a b => sl a.2 b.2
  par : ∀ e ∈ L, e = (st0, []) ∨ ∃ p k, p ∈ L ∧ dn p k ∧ k ∈ wrongI ns p.1 ∧ e = kidE p k
  all : ∀ p ∈ L, ∀ k ∈ wrongI ns p.1, dn p k → ∃ e ∈ L, e.1 = flipI p.1 k ∧ sle e.2 (p.2 ++ [k])
theorem BI.add {ns : List RuleT} {st0 : List Int} {L : List EnT} {dn dn' : EnT → Nat → Prop} {s : EnT} {k : Nat} (h : BI ns st0 L dn) (hs : s ∈ L) (hk : k ∈ wrongI ns s.1) (lt : ∀ p ∈ L, ∀ j, dn p j → sl p.2 s.2 ∨ p = s ∧ j < k)
    (d1 : ∀ p j, dn p j → dn' p j) (d2 : dn' s k) (d3 : ∀ p ∈ L, ∀ j, dn' p j → dn p j ∨ p = s ∧ j = k) (d4 : ∀ j, ¬ dn' (kidE s k) j) : BI ns st0 (addE s L k) dn' := by
  have big : ∀ e ∈ L, sl e.2 (s.2 ++ [k]) := fun e he => by
    rcases h.par e he with rfl | ⟨p, j, hp, hd, hj, rfl⟩
    · exact .inl (by simp)
    · rcases lt p hp j hd with z | ⟨rfl, z⟩
      · exact sl_snoc z
      · exact sl_last z
  unfold addE
  by_cases c : flipI s.1 k ∈ L.map (·.1)
  · rw [if_pos c]
    refine ⟨h.wk, h.srt, fun e he => ?_, fun p hp j hj hd => ?_⟩
    · rcases h.par e he with z | ⟨p, j, hp, hd, hj, z⟩
      · exact .inl z
      · exact .inr ⟨p, j, hp, d1 p j hd, hj, z⟩
    · rcases d3 p hp j hd with z | ⟨rfl, rfl⟩
      · exact h.all p hp j hj z
      · obtain ⟨e, he, ee⟩ := List.mem_map.mp c
        exact ⟨e, he, ee, .inr (big e he)⟩
  · rw [if_neg c]
    refine ⟨fun e he => ?_, ?_, fun e he => ?_, fun p hp j hj hd => ?_⟩
    · rcases List.mem_append.mp he with he | he
      · exact h.wk e he
      · obtain rfl := List.mem_singleton.mp he
        exact wk_snoc.mpr ⟨_, h.wk s hs, hk, rfl⟩
    · refine List.pairwise_append.mpr ⟨h.srt, List.pairwise_singleton _ _, fun a ha b hb => ?_⟩
      obtain rfl := List.mem_singleton.mp hb
      exact big a ha
    · rcases List.mem_append.mp he with he | he
      · rcases h.par e he with z | ⟨p, j, hp, hd, hj, z⟩
        · exact .inl z
        · exact .inr ⟨p, j, List.mem_append_left _ hp, d1 p j hd, hj, z⟩
      · obtain rfl := List.mem_singleton.mp he
        exact .inr ⟨s, k, List.mem_append_left _ hs, d2, hk, rfl⟩
    · rcases List.mem_append.mp hp with hp | hp
      · rcases d3 p hp j hd with z | ⟨rfl, rfl⟩
        · obtain ⟨e, he, e1, e2⟩ := h.all p hp j hj z
          exact ⟨e, List.mem_append_left _ he, e1, e2⟩
        · exact ⟨kidE p j, List.mem_append_right _ (List.mem_singleton.mpr rfl), rfl, .inl rfl⟩
      · obtain rfl := List.mem_singleton.mp hp
        exact absurd hd (d4 j)
end H

set_option Elab.async false
set_option linter.all false
set_option maxRecDepth 100000
namespace H
open PySem PySem.Spec PyProof.Rows L2 Y
end H

set_option Elab.async false
set_option linter.all false
set_option maxRecDepth 100000
namespace H
open PySem PySem.Spec PyProof.Rows L2 Y
theorem get_any {ks : List (List Key)} {ds : List D} {t : List Int} : getDic (.dit ks ds) (ti t) = .ok (findD ks ds (kt t)) := by
  show (match keysOf (t.map D.int) with | some k => R.ok (findD ks ds k) | none => .stk) = _
  rw [keys_ti]
theorem put_any {ks : List (List Key)} {ds : List D} {t : List Int} {d : D} (hz : ks.length + 1 ≤ 10000000) : putDic (.dit ks ds) (ti t) d = .ok (.dit (putKs ks (kt t)) (putDs ks ds (kt t) d)) := by
  show (match keysOf (t.map D.int) with | some k => if szOk (ks.length + 1) = true then R.ok (D.dit (putKs ks k) (putDs ks ds k d)) else .stk | none => .stk) = _
  rw [keys_ti]
  show (if szOk (ks.length + 1) = true then _ else _) = _
  rw [if_pos (szOk_of (by omega))]
section
variable {κ : Type} [DecidableEq κ]
theorem find_setD {k k' : κ} {d : D} : ∀ {ks : List κ} {ds : List D}, ks.length = ds.length → findD ks (setD ks ds k d) k' = if k = k' then (if k ∈ ks then some d else none) else findD ks ds k'
  | [], ds, h => by
    obtain rfl := List.length_eq_zero_iff.mp h.symm
    by_cases c : k = k' <;> simp [findD, c]
  | a :: ks, [], h => by simp at h
  | a :: ks, b :: ds, h => by
    have ih := find_setD (k := k) (k' := k') (d := d) (ks := ks) (ds := ds) (by simpa using h)
    show (if a = k' then some (if a = k then d else b) else findD ks (setD ks ds k d) k') = if k = k' then (if k ∈ a :: ks then some d else none) else (if a = k' then some b else findD ks ds k')
    rw [ih]
    by_cases c : k = k'
    · subst c
      by_cases c2 : a = k
      · simp [c2]
      · simp [c2]
        have : ¬ k = a := fun z => c2 z.symm
        simp [this]
    · by_cases c2 : a = k'
      · subst c2
        have : ¬ a = k := fun z => c z.symm
        simp [c, this]
      · simp [c, c2]
theorem find_snoc {k k' : κ} {d : D} : ∀ {ks : List κ} {ds : List D}, ks.length = ds.length → k ∉ ks → findD (ks ++ [k]) (ds ++ [d]) k' = if k = k' then some d else findD ks ds k'
  | [], ds, h, _ => by
    obtain rfl := List.length_eq_zero_iff.mp h.symm
    rfl
  | a :: ks, [], h, _ => by simp at h
  | a :: ks, b :: ds, h, hn => by
    have ih := find_snoc (k := k) (k' := k') (d := d) (ks := ks) (ds := ds) (by simpa using h) (fun z => hn (by simp [z]))
    show (if a = k' then some b else findD (ks ++ [k]) (ds ++ [d]) k') = if k = k' then some d else (if a = k' then some b else findD ks ds k')
    rw [ih]
    by_cases c : k = k'
    · subst c
      have : a ≠ k := fun z => hn (by simp [z])
      simp [this]
    · simp [c]
theorem find_put {k k' : κ} {d : D} {ks : List κ} {ds : List D} (h : ks.length = ds.length) : findD (putKs ks k) (putDs ks ds k d) k' = if k = k' then some d else findD ks ds k' := by
  unfold putKs putDs
  by_cases c : k ∈ ks
  · rw [if_pos c, if_pos c, find_setD h, if_pos c]
  · rw [if_neg c, if_neg c, find_snoc h c]
theorem setD_length {k : κ} {d : D} : ∀ {ks : List κ} {ds : List D}, ks.length = ds.length → (setD ks ds k d).length = ks.length
  | [], ds, h => by
    obtain rfl := List.length_eq_zero_iff.mp h.symm
    rfl
  | a :: ks, [], h => by simp at h
  | a :: ks, b :: ds, h => by
    show (setD ks ds k d).length + 1 = ks.length + 1
    rw [setD_length (by simpa using h)]
theorem put_len {k : κ} {d : D} {ks : List κ} {ds : List D} (h : ks.length = ds.length) : (putKs ks k).length = (putDs ks ds k d).length := by
  unfold putKs putDs
  by_cases c : k ∈ ks
  · rw [if_pos c, if_pos c, setD_length h]
  · rw [if_neg c, if_neg c]; simp [h]
theorem put_nd {k : κ} {ks : List κ} (h : ks.Nodup) : (putKs ks k).Nodup := by
  unfold putKs
  by_cases c : k ∈ ks
  · rw [if_pos c]; exact h
  · rw [if_neg c]
    exact List.nodup_append.mpr ⟨h, by simp, fun a ha b hb z => c (by rw [List.mem_singleton] at hb; rw [← hb, ← z]; exact ha)⟩
theorem put_mem {k k' : κ} {ks : List κ} (h : k' ∈ putKs ks k) : k' = k ∨ k' ∈ ks := by
  unfold putKs at h
  by_cases c : k ∈ ks
  · rw [if_pos c] at h; exact .inr h
  · rw [if_neg c] at h
    rcases List.mem_append.mp h with h | h
    · exact .inr h
    · exact .inl (List.mem_singleton.mp h)
end
abbrev FS := List (List Key) × List D × Bool
def valF (s : FS) (t : List Int) : Nat := match findD s.1 s.2.1 (kt t) with
  | some (.int z) => z.toNat
  | _ => 9999
def relF (st : List Int) (s : FS) (k : Nat) : FS := if valF s (flipI st k) + 1 < valF s st then (putKs s.1 (kt st), putDs s.1 s.2.1 (kt st) (.int ((valF s (flipI st k) + 1 : Nat) : Int)), true) else s
structure GS (ns : List RuleT) (other : List Int) (s : FS) : Prop where
  len : s.1.length = s.2.1.length
  nd : s.1.Nodup
  key : ∀ k ∈ s.1, ∃ t, k = kt t ∧ IsSt ns.length t
  val : ∀ t, findD s.1 s.2.1 (kt t) = none ∨ ∃ n : Nat, findD s.1 s.2.1 (kt t) = some (.int (n : Nat)) ∧ n < 9999 ∧ ∃ w, Wk ns t w other ∧ w.length = n
  own : findD s.1 s.2.1 (kt other) = some (.int ((0 : Nat) : Int))
theorem valF_int {s : FS} {t : List Int} {n : Nat} (h : findD s.1 s.2.1 (kt t) = some (.int (n : Nat))) : valF s t = n := by
  unfold valF
  rw [h]
  show ((n : Int)).toNat = n
  omega
theorem valF_no {s : FS} {t : List Int} (h : findD s.1 s.2.1 (kt t) = none) : valF s t = 9999 := by
  unfold valF
  rw [h]
section
variable {ns : List RuleT} {other : List Int} {s : FS}
theorem GS.le (h : GS ns other s) (t : List Int) : valF s t ≤ 9999 := by
  rcases h.val t with z | ⟨n, z, hn, _⟩
  · rw [valF_no z]; omega
  · rw [valF_int z]; omega
theorem GS.getD (h : GS ns other s) (t : List Int) : (findD s.1 s.2.1 (kt t)).getD (.int 9999) = .int (valF s t : Nat) := by
  rcases h.val t with z | ⟨n, z, hn, _⟩
  · rw [valF_no z, z]; rfl
  · rw [valF_int z, z]; rfl
theorem GS.rel (h : GS ns other s) {st : List Int} {k : Nat} (hs : IsSt ns.length st) (hk : k ∈ wrongI ns st) : GS ns other (relF st s k) := by
  unfold relF
  by_cases c : valF s (flipI st k) + 1 < valF s st
  · rw [if_pos c]
    have le := h.le st
    have f := fun t => find_put (k := kt st) (k' := kt t) (d := .int ((valF s (flipI st k) + 1 : Nat) : Int)) h.len
    refine ⟨put_len h.len, put_nd h.nd, fun k' hk' => ?_, fun t => ?_, ?_⟩
    · rcases put_mem hk' with rfl | z
      · exact ⟨st, rfl, hs⟩
      · exact h.key k' z
    · dsimp only
      rw [f t]
      by_cases e : st = t
      · subst e
        rw [if_pos rfl]
        refine .inr ⟨_, rfl, by omega, ?_⟩
        rcases h.val (flipI st k) with z | ⟨n, z, hn, w, hw, wl⟩
        · rw [valF_no z] at c; omega
        · exact ⟨k :: w, ⟨hk, hw⟩, by rw [List.length_cons, wl, valF_int z]⟩
      · rw [if_neg fun z => e (kt_inj.mp z)]
        exact h.val t
    · dsimp only
      rw [f other]
      have : ¬ kt st = kt other := fun z => by
        have z := kt_inj.mp z
        rw [z, valF_int h.own] at c
        omega
      rw [if_neg this]
      exact h.own
  · rw [if_neg c]; exact h
end
section
variable {ns : List RuleT} {other : List Int}
end
section
variable {ns : List RuleT} {other : List Int}
end
end H

set_option Elab.async false
set_option linter.all false
set_option maxRecDepth 100000
namespace H
open PySem PySem.Spec PyProof.Rows L2 Y
def lowS (S : List Nat) (r : List Int) : List Nat := S.filter fun i => decide (r.getD i 0 = 0)
def hiS (S : List Nat) (r : List Int) : List Nat := S.filter fun i => decide (r.getD i 0 = 1)
def splB (S : List Nat) (r : List Int) : Bool := !(lowS S r).isEmpty && !(hiS S r).isEmpty
def cst (f : List Nat → Nat) (S : List Nat) (r : List Int) : Nat := if splB S r = true then 1 + max (f (lowS S r)) (f (hiS S r)) else 99
def foldM (c : List Int → Nat) (v : Nat) (R : List (List Int)) : Nat := R.foldl (fun v r => min v (c r)) v
def lst : Nat → List (List Int) → List Nat → Nat
  | 0, _, _ => 0
  | n + 1, R, S => if S.length < 2 then 0 else foldM (cst (lst n R) S) 99 R
theorem foldM_le {c : List Int → Nat} {x : Nat} : ∀ {R : List (List Int)} {v : Nat}, x ≤ foldM c v R ↔ x ≤ v ∧ ∀ r ∈ R, x ≤ c r
  | [], v => by simp [foldM]
  | r :: R, v => by
    have ih := foldM_le (c := c) (x := x) (R := R) (v := min v (c r))
    show x ≤ foldM c (min v (c r)) R ↔ _
    rw [ih]
    constructor
    · rintro ⟨h1, h2⟩
      refine ⟨by omega, fun y hy => ?_⟩
      rcases List.mem_cons.mp hy with rfl | hy
      · omega
      · exact h2 y hy
    · rintro ⟨h1, h2⟩
      exact ⟨by have := h2 r (by simp); omega, fun y hy => h2 y (by simp [hy])⟩
theorem foldM_top {c : List Int → Nat} {v : Nat} {R : List (List Int)} : foldM c v R ≤ v := (foldM_le.mp (Nat.le_refl _)).1
theorem foldM_at {c : List Int → Nat} {v : Nat} {R : List (List Int)} {r : List Int} (h : r ∈ R) : foldM c v R ≤ c r := (foldM_le.mp (Nat.le_refl _)).2 r h
theorem foldM_eq {c c' : List Int → Nat} {v : Nat} {R R' : List (List Int)} (h : ∀ r, r ∈ R ↔ r ∈ R') (e : ∀ r ∈ R, c r = c' r) : foldM c v R = foldM c' v R' := by
  refine Nat.le_antisymm (foldM_le.mpr ⟨foldM_top, fun r hr => ?_⟩) (foldM_le.mpr ⟨foldM_top, fun r hr => ?_⟩)
  · have hr := (h r).mpr hr
    rw [← e r hr]
    exact foldM_at hr
  · rw [e r hr]
    exact foldM_at ((h r).mp hr)
theorem foldM_cases {c : List Int → Nat} {P : Nat → Prop} : ∀ {R : List (List Int)} {v : Nat}, P v → (∀ r ∈ R, P (c r) ∨ 99 ≤ c r) → v ≤ 99 → P (foldM c v R)
  | [], v, h, _, _ => h
  | r :: R, v, h, hr, hv => by
    show P (foldM c (min v (c r)) R)
    refine foldM_cases ?_ (fun y hy => hr y (by simp [hy])) (by omega)
    rcases hr r (by simp) with z | z
    · by_cases q : v ≤ c r
      · rw [Nat.min_eq_left q]; exact h
      · rw [Nat.min_eq_right (by omega)]; exact z
    · rw [Nat.min_eq_left (by omega)]; exact h
theorem two_len {α : Type} {p q : α → Bool} (h : ∀ x, p x = true → q x = true → False) : ∀ {S : List α}, (S.filter p).length + (S.filter q).length ≤ S.length
  | [] => by simp
  | x :: S => by
    have ih := two_len (p := p) (q := q) h (S := S)
    have hx := h x
    cases c1 : p x <;> cases c2 : q x <;> simp_all <;> omega
theorem part_lt {S : List Nat} {r : List Int} (h : splB S r = true) : (lowS S r).length < S.length ∧ (hiS S r).length < S.length ∧ 1 ≤ (lowS S r).length ∧ 1 ≤ (hiS S r).length := by
  have t := two_len (S := S) (p := fun i => decide (r.getD i 0 = 0)) (q := fun i => decide (r.getD i 0 = 1)) (fun i h1 h2 => by
    have h1 := of_decide_eq_true h1
    have h2 := of_decide_eq_true h2
    omega)
  have t : (lowS S r).length + (hiS S r).length ≤ S.length := t
  unfold splB at h
  simp only [Bool.and_eq_true, Bool.not_eq_true', List.isEmpty_eq_false_iff] at h
  have h1 := List.length_pos_iff.mpr h.1
  have h2 := List.length_pos_iff.mpr h.2
  omega
theorem lst_stable {R : List (List Int)} : ∀ (n n' : Nat) (S : List Nat), S.length ≤ n → S.length ≤ n' → lst n R S = lst n' R S
  | 0, 0, S, _, _ => rfl
  | 0, n' + 1, S, h, _ => by rw [lst, lst, if_pos (by omega)]
  | n + 1, 0, S, _, h => by rw [lst, lst, if_pos (by omega)]
  | n + 1, n' + 1, S, h, h' => by
    rw [lst, lst]
    by_cases c : S.length < 2
    · rw [if_pos c, if_pos c]
    · rw [if_neg c, if_neg c]
      refine foldM_eq (fun _ => Iff.rfl) fun r _ => ?_
      unfold cst
      by_cases q : splB S r = true
      · obtain ⟨h1, h2, _⟩ := part_lt q
        rw [if_pos q, if_pos q, lst_stable n n' _ (by omega) (by omega), lst_stable n n' _ (by omega) (by omega)]
      · rw [if_neg q, if_neg q]
theorem lst_set {R R' : List (List Int)} (h : ∀ r, r ∈ R ↔ r ∈ R') : ∀ (n : Nat) (S : List Nat), lst n R S = lst n R' S
  | 0, S => rfl
  | n + 1, S => by
    have ih : lst n R = lst n R' := funext fun S => lst_set h n S
    rw [lst, lst, ih]
    by_cases c : S.length < 2
    · rw [if_pos c, if_pos c]
    · rw [if_neg c, if_neg c]
      exact foldM_eq h fun _ _ => rfl
theorem lst_cases {R : List (List Int)} : ∀ (n : Nat) (S : List Nat), lst n R S ≤ n ∨ lst n R S = 99
  | 0, S => .inl (Nat.le_refl _)
  | n + 1, S => by
    rw [lst]
    by_cases c : S.length < 2
    · rw [if_pos c]; exact .inl (Nat.zero_le _)
    · rw [if_neg c]
      refine foldM_cases (P := fun v => v ≤ n + 1 ∨ v = 99) (.inr rfl) (fun r _ => ?_) (Nat.le_refl _)
      unfold cst
      by_cases q : splB S r = true
      · rw [if_pos q]
        have h1 := lst_cases (R := R) n (lowS S r)
        have h2 := lst_cases (R := R) n (hiS S r)
        omega
      · rw [if_neg q]; exact .inl (.inr rfl)
/-- the least depth for some nets; 99 where no tree is right -/
def lk (R : List (List Int)) (S : List Nat) : Nat := lst 40 R S
theorem lk_one {R : List (List Int)} {S : List Nat} (h : S.length < 2) : lk R S = 0 := by
  unfold lk
  rw [lst, if_pos h]
theorem lk_eq {R : List (List Int)} {S : List Nat} (h : ¬ S.length < 2) (h2 : S.length ≤ 40) : lk R S = foldM (cst (lk R) S) 99 R := by
  unfold lk
  rw [lst_stable 40 41 S h2 (by omega), lst, if_neg h]
theorem lk_cases {R : List (List Int)} {S : List Nat} : lk R S ≤ 40 ∨ lk R S = 99 := lst_cases 40 S
theorem lk_set {R R' : List (List Int)} (h : ∀ r, r ∈ R ↔ r ∈ R') (S : List Nat) : lk R S = lk R' S := lst_set h 40 S
theorem low_sub {S : List Nat} {r : List Int} : (lowS S r).Sublist S := List.filter_sublist
theorem hi_sub {S : List Nat} {r : List Int} : (hiS S r).Sublist S := List.filter_sublist
abbrev ni (S : List Nat) : List Int := S.map fun i : Nat => (i : Int)
theorem ni_inj {A B : List Nat} : ni A = ni B ↔ A = B := ⟨fun h => by
  have := congrArg (List.map Int.toNat) h
  simpa [ni, List.map_map, Function.comp_def] using this, fun h => by rw [h]⟩
def subsL : List Nat → List (List Nat)
  | [] => [[]]
  | x :: xs => subsL xs ++ (subsL xs).map (x :: ·)
theorem subsL_len : ∀ xs : List Nat, (subsL xs).length = 2 ^ xs.length
  | [] => rfl
  | x :: xs => by rw [subsL, List.length_append, List.length_map, subsL_len xs, List.length_cons, Nat.pow_succ]; omega
theorem subsL_mem {S xs : List Nat} (h : S.Sublist xs) : S ∈ subsL xs := by
  induction h with
  | slnil => simp [subsL]
  | cons a _ ih => rw [subsL]; exact List.mem_append_left _ ih
  | cons_cons a _ ih => rw [subsL]; exact List.mem_append_right _ (List.mem_map.mpr ⟨_, ih, rfl⟩)
/-- keys: of parts of the first M numbers -/
structure KeysM (M : Nat) (ks : List (List Key)) : Prop where
  nd : ks.Nodup
  mem : ∀ k ∈ ks, k ∈ (subsL (List.range M)).map fun S => kt (ni S)
theorem KeysM.len {M : Nat} {ks : List (List Key)} (h : KeysM M ks) : ks.length ≤ 2 ^ M := by
  have := nodup_len h.nd h.mem
  rwa [List.length_map, subsL_len, List.length_range] at this
theorem KeysM.put {M : Nat} {ks : List (List Key)} {S : List Nat} (h : KeysM M ks) (hs : S.Sublist (List.range M)) : KeysM M (putKs ks (kt (ni S))) :=
  ⟨put_nd h.nd, fun k hk => by
    rcases put_mem hk with rfl | hk
    · exact List.mem_map.mpr ⟨S, subsL_mem hs, rfl⟩
    · exact h.mem k hk⟩
end H

set_option Elab.async false
set_option linter.all false
set_option maxRecDepth 100000
namespace H
open PySem PySem.Spec PyProof.Rows L2 Y
def rowOf (nss : List (List RuleT)) (st : List Int) (k : Nat) : List Int := nss.map fun ns => oughtI ns st k
def RowR (m : Nat) (nss : List (List RuleT)) (r : List Int) : Prop := ∃ st k, IsSt m st ∧ k < m ∧ r = rowOf nss st k
theorem row_len {nss : List (List RuleT)} {st : List Int} {k : Nat} : (rowOf nss st k).length = nss.length := List.length_map _
theorem row_st {m k : Nat} {nss : List (List RuleT)} {st : List Int} (h : NetsOk m nss) (hk : k < m) : IsSt nss.length (rowOf nss st k) :=
  ⟨row_len, fun x hx => by
    obtain ⟨ns, hn, rfl⟩ := List.mem_map.mp hx
    have := (h.net ns hn).bit (st := st) hk
    omega⟩
theorem row_at {i k : Nat} {nss : List (List RuleT)} {st : List Int} (hi : i < nss.length) : (rowOf nss st k).getD i 0 = oughtI (nss.getD i []) st k := by
  unfold rowOf
  rw [List.getD_eq_getElem?_getD, List.getElem?_map, List.getD_eq_getElem?_getD, List.getElem?_eq_getElem hi]
  rfl
theorem tn_ni {S : List Nat} : tn S = ti (ni S) := by
  show D.tup _ = D.tup _
  rw [List.map_map]
  rfl
theorem setd87 {i : Nat} {KS : List (List Int)} {ds : List D} {u : List Int} {d : D} {ρ : Y.Env} (hl : KS.length = ds.length) (hz : KS.length ≤ 1000000) :
    (u ∈ KS → ∃ z, setdRes i (.dit (KS.map kt) ds) (ti u) d ρ = .ok (.vl z, ρ)) ∧ (u ∉ KS → setdRes i (.dit (KS.map kt) ds) (ti u) d ρ = .ok (.vl d, ρ.set i (some (.dit ((KS ++ [u]).map kt) (ds ++ [d]))))) := by
  have z : szOk ((KS.map kt).length + 1) = true := szOk_of (by rw [List.length_map]; omega)
  have fk := find_kt (L := KS) (ds := ds) (t := u) hl
  have e : setdRes i (.dit (KS.map kt) ds) (ti u) d ρ = (match findD (KS.map kt) ds (kt u) with | some z => R.ok (Hd.vl z, ρ) | none => R.ok (Hd.vl d, ρ.set i (some (.dit (putKs (KS.map kt) (kt u)) (putDs (KS.map kt) ds (kt u) d))))) := by
    show (match keysOf (u.map D.int) with | some k => if szOk ((KS.map kt).length + 1) = true then (match findD (KS.map kt) ds k with | some z => R.ok (Hd.vl z, ρ) | none => R.ok (Hd.vl d, ρ.set i (some (.dit (putKs (KS.map kt) k) (putDs (KS.map kt) ds k d))))) else .stk | none => .stk) = _
    rw [keys_ti]
    simp only [z, if_true]
  rw [e]
  refine ⟨fun h => ?_, fun h => ?_⟩
  · rw [decide_eq_true h] at fk
    obtain ⟨w, ew⟩ := Option.isSome_iff_exists.mp fk
    rw [ew]
    exact ⟨w, rfl⟩
  · rw [decide_eq_false h] at fk
    have ew : findD (KS.map kt) ds (kt u) = none := by
      cases q : findD (KS.map kt) ds (kt u) with
      | none => rfl
      | some w => rw [q] at fk; cases fk
    rw [ew]
    have nk : kt u ∉ KS.map kt := fun q => by
      obtain ⟨a, ha, e2⟩ := List.mem_map.mp q
      exact h (kt_inj.mp e2 ▸ ha)
    show R.ok (Hd.vl d, ρ.set i (some (.dit (putKs (KS.map kt) (kt u)) (putDs (KS.map kt) ds (kt u) d)))) = _
    unfold putKs putDs
    rw [if_neg nk, if_neg nk, List.map_append]
    rfl
theorem parted_ok {M : Nat} {S : List Nat} {r : List Int} (hs : S.Sublist (List.range M)) (hM : M ≤ 20) (hr : IsSt M r) : C.g_parted [tn S, ti r] = .ok (.fr (.tup [tn (lowS S r), tn (hiS S r)])) := by
  have at_ : ∀ i ∈ S, atI (r.map D.int) (i : Int) = some (.int (r.getD i 0)) := fun i hi => by
    have := List.mem_range.mp (hs.subset hi)
    have := atI_mapI (xs := r) (i := (i : Int)) (by omega) (by rw [hr.len]; omega)
    simpa using this
  have q1 : ∀ a b : Option D, cCompL (tmName 4) C.t_parted_1 C.e_parted_1 [4] [] (S.map fun i : Nat => D.int (i : Nat)) [some (tn S), some (ti r), a, b, none] = .ok ((lowS S r).map (fun i : Nat => D.int (i : Nat)), [some (tn S), some (ti r), a, b, none]) := fun a b =>
    comp_filter (fun i : Nat => D.int (i : Nat)) (fun i => decide (r.getD i 0 = 0)) (fun i : Nat => D.int (i : Nat)) S (fun i hi => by
      have e := at_ i hi
      generalize r.getD i 0 = v at e ⊢
      simp only [turnC, C.t_parted_1, C.e_parted_1]
      by_cases c : v = 0 <;> simp [ixD, e, c])
  have q2 : ∀ a b : Option D, cCompL (tmName 4) C.t_parted_2 C.e_parted_2 [4] [] (S.map fun i : Nat => D.int (i : Nat)) [some (tn S), some (ti r), a, b, none] = .ok ((hiS S r).map (fun i : Nat => D.int (i : Nat)), [some (tn S), some (ti r), a, b, none]) := fun a b =>
    comp_filter (fun i : Nat => D.int (i : Nat)) (fun i => decide (r.getD i 0 = 1)) (fun i : Nat => D.int (i : Nat)) S (fun i hi => by
      have e := at_ i hi
      generalize r.getD i 0 = v at e ⊢
      simp only [turnC, C.t_parted_2, C.e_parted_2]
      by_cases c : v = 1 <;> simp [ixD, e, c])
  have l6 : S.length ≤ M := by have := hs.length_le; rwa [List.length_range] at this
  have z : szOk S.length = true := szOk_of (by omega)
  show _ = R.ok (Hd.fr (D.tup [D.tup ((lowS S r).map fun i : Nat => D.int (i : Nat)), D.tup ((hiS S r).map fun i : Nat => D.int (i : Nat))]))
  generalize (lowS S r).map (fun i : Nat => D.int (i : Nat)) = A at q1 ⊢
  generalize (hiS S r).map (fun i : Nat => D.int (i : Nat)) = B at q2 ⊢
  simp only [C.g_parted, C.m_parted]
  generalize C.t_parted_1 = T1 at q1 ⊢
  generalize C.t_parted_2 = T2 at q2 ⊢
  generalize C.e_parted_1 = E1 at q1 ⊢
  generalize C.e_parted_2 = E2 at q2 ⊢
  simp [e_fnP, z, q1, q2, szOk_of]
theorem in_lli {r : List Int} {xs : List (List Int)} : inD (li r) (.lst (xs.map li)) = .ok (.bl (decide (r ∈ xs))) := by
  have f1 : Fit 1 (li r) := fun d h => by
    obtain ⟨x, _, rfl⟩ := List.mem_map.mp h
    trivial
  have c1 : dOk (li r) = true := dOk_fit f1
  have c2 : dOk (.lst (xs.map li)) = true := dOk_fit (n := 2) fun d h => by
    obtain ⟨x, _, rfl⟩ := List.mem_map.mp h
    exact fun d h => by
      obtain ⟨x, _, rfl⟩ := List.mem_map.mp h
      trivial
  have e : ((xs.map li).any fun z => eqP z (li r)) = decide (r ∈ xs) := by
    rw [List.any_map, Bool.eq_iff_iff, List.any_eq_true, decide_eq_true_eq]
    constructor
    · rintro ⟨x, hx, h⟩
      have : eqP (li x) (li r) = true := h
      rw [eqP_lst, eqPs_ints, decide_eq_true_eq] at this
      rw [← this]; exact hx
    · intro h
      refine ⟨r, h, ?_⟩
      show eqP (li r) (li r) = true
      rw [eqP_lst, eqPs_ints, decide_eq_true_eq]
  show (match (if (dOk (li r) && dOk (.lst (xs.map li))) = true then some ((xs.map li).any fun z => eqP z (li r)) else none) with | some b => R.ok (D.bl b) | none => .stk) = _
  rw [c1, c2, e]
  rfl
theorem mem_rows1 {f : Nat → List Int} {x : List Int} : ∀ {ks : List Nat} {L : List (List Int)}, x ∈ ks.foldl (fun L k => addS L (f k)) L ↔ x ∈ L ∨ ∃ k ∈ ks, x = f k
  | [], L => by simp
  | k :: ks, L => by
    rw [List.foldl_cons, mem_rows1, addS_mem]
    constructor
    · rintro ((h | h) | ⟨j, hj, e⟩)
      · exact .inl h
      · exact .inr ⟨k, by simp, h⟩
      · exact .inr ⟨j, by simp [hj], e⟩
    · rintro (h | ⟨j, hj, e⟩)
      · exact .inl (.inl h)
      · rcases List.mem_cons.mp hj with rfl | hj
        · exact .inl (.inr e)
        · exact .inr ⟨j, hj, e⟩
theorem mem_rows2 {f : List Int → Nat → List Int} {ks : List Nat} {x : List Int} : ∀ {ss : List (List Int)} {L : List (List Int)}, x ∈ ss.foldl (fun L st => ks.foldl (fun L k => addS L (f st k)) L) L ↔ x ∈ L ∨ ∃ st ∈ ss, ∃ k ∈ ks, x = f st k
  | [], L => by simp
  | s :: ss, L => by
    rw [List.foldl_cons, mem_rows2, mem_rows1]
    constructor
    · rintro ((h | h) | ⟨j, hj, e⟩)
      · exact .inl h
      · exact .inr ⟨s, by simp, h⟩
      · exact .inr ⟨j, by simp [hj], e⟩
    · rintro (h | ⟨j, hj, e⟩)
      · exact .inl (.inl h)
      · rcases List.mem_cons.mp hj with rfl | hj
        · exact .inl (.inr e)
        · exact .inr ⟨j, hj, e⟩
section
variable {m : Nat} {nss : List (List RuleT)}
theorem head_net (h : NetsOk m nss) : ∃ n0, atI (nss.map dNet) 0 = some (dNet n0) ∧ n0.length = m := by
  have := h.lo
  obtain ⟨n0, hn0⟩ : ∃ n0, nss[0]? = some n0 := ⟨_, List.getElem?_eq_getElem (by omega)⟩
  exact ⟨n0, by rw [atI_map, atI_of (i := 0) (j := 0) rfl hn0]; rfl, (h.net n0 (List.mem_of_getElem? hn0)).len⟩
theorem law_row1 (h : NetsOk m nss) {st : List Int} (hs : IsSt m st) {R : List (List Int)} (hR : InS nss.length R) :
    forL (tmName 3) C.b__law_rows_1 [3, 4] [] ((List.range m).map fun k : Nat => D.int (k : Nat)) [some (dNets nss), some (.lst (R.map li)), some (ti st), none, none, none]
      = .ok (.nx, [some (dNets nss), some (.lst (((List.range m).foldl (fun R k => addS R (rowOf nss st k)) R).map li)), some (ti st), none, none, none]) ∧ InS nss.length ((List.range m).foldl (fun R k => addS R (rowOf nss st k)) R) := by
  have hhi := h.hi
  have hm5 := h.m5
  refine for_run (fun k : Nat => D.int (k : Nat)) (fun R : List (List Int) => [some (dNets nss), some (.lst (R.map li)), some (ti st), none, none, none]) (fun R k => addS R (rowOf nss st k)) (InS nss.length) (List.range m) R hR fun R k hR hk => ?_
  have hk := List.mem_range.mp hk
  have rs := row_st (st := st) h hk
  refine ⟨hR.add rs, by simp, ?_⟩
  have q := comp_map (tm := tmName 5) (t := cYes) (e := C.e__law_rows_1) (vs := [5]) (ws := []) (ρ := [some (dNets nss), some (.lst (R.map li)), some (ti st), some (.int (k : Nat)), none, none]) dNet (fun ns => D.int (oughtI ns st k)) nss (fun ns hn => by
    have hn := h.net ns hn
    have o := told_ok (hn.good (by omega)) (st := st) (k := k) (by rw [hn.len]; exact hs) (by rw [hn.len]; exact hk)
    simp only [turnC, C.e__law_rows_1]
    simp [o])
  have e1 : (nss.map fun ns => D.int (oughtI ns st k)) = (rowOf nss st k).map D.int := by unfold rowOf; rw [List.map_map]; rfl
  rw [e1] at q
  have n := nin_of (in_lli (r := rowOf nss st k) (xs := R))
  have lR := hR.len
  have p6 : 2 ^ nss.length ≤ 64 := Nat.le_trans (Nat.pow_le_pow_right (by omega) hhi) (by omega)
  have zR : szOk (R.length + 1) = true := szOk_of (by omega)
  have zn : szOk nss.length = true := szOk_of (by omega)
  generalize rowOf nss st k = r at *
  simp only [turnF, C.b__law_rows_1]
  generalize C.e__law_rows_1 = B at q ⊢
  unfold addS
  by_cases c : r ∈ R <;> simp [q, n, c, zR, zn]
theorem law_rows_ok (h : NetsOk m nss) : ∃ R, C.g__law_rows [dNets nss] = .ok (.fr (.lst (R.map li))) ∧ InS nss.length R ∧ ∀ r, r ∈ R ↔ RowR m nss r := by
  have hhi := h.hi
  have hm5 := h.m5
  have q := for_run (tm := tmName 2) (body := C.b__law_rows_2) (vs := [2, 3, 4]) (ws := []) ti (fun R : List (List Int) => [some (dNets nss), some (.lst (R.map li)), none, none, none, none]) (fun R st => (List.range m).foldl (fun R k => addS R (rowOf nss st k)) R) (InS nss.length) (stands m) [] ⟨List.nodup_nil, by simp⟩ fun R st hR hst => by
    have hs := mem_stands.mp hst
    obtain ⟨e, h2⟩ := law_row1 h hs hR
    refine ⟨h2, by simp, ?_⟩
    obtain ⟨n0, a0, l0⟩ := head_net h
    have zM : szOk m = true := szOk_of (by omega)
    have rM : rngOk m = true := rngOk_of (by omega) (by omega)
    generalize (List.range m).foldl (fun R k => addS R (rowOf nss st k)) R = R2 at e ⊢
    simp only [turnF, C.b__law_rows_2]
    generalize C.b__law_rows_1 = B at e ⊢
    simp [ixD, a0, l0, zM, rM, e]
  obtain ⟨q, hR⟩ := q
  refine ⟨_, ?_, hR, fun r => ?_⟩
  · obtain ⟨n0, a0, l0⟩ := head_net h
    have rd := readings_ok (m := m) (by omega)
    have zM : szOk m = true := szOk_of (by omega)
    have zs : szOk (stands m).length = true := szOk_of (by
      rw [stands_len]
      exact Nat.le_trans (Nat.pow_le_pow_right (by omega) hm5) (by omega))
    generalize (stands m).foldl (fun R st => (List.range m).foldl (fun R k => addS R (rowOf nss st k)) R) [] = R at q ⊢
    have rd : C.g__law_readings [.int m] = .ok (.fr (.lst ((stands m).map ti))) := rd
    simp only [C.g__law_rows, C.m__law_rows]
    generalize C.b__law_rows_2 = B at q ⊢
    rw [List.map_nil] at q
    simp [e_fnP, ixD, a0, l0, zM, rd, zs, q, shAt]
  · rw [mem_rows2]
    constructor
    · rintro (h | ⟨st, hst, k, hk, e⟩)
      · cases h
      · exact ⟨st, k, mem_stands.mp hst, List.mem_range.mp hk, e⟩
    · rintro ⟨st, k, hst, hk, e⟩
      exact .inr ⟨st, mem_stands.mpr hst, k, List.mem_range.mpr hk, e⟩
end
end H

set_option Elab.async false
set_option linter.all false
set_option maxRecDepth 100000
namespace H
open PySem PySem.Spec PyProof.Rows L2 Y
/-- rows with the first look of each -/
structure RwS (m : Nat) (nss : List (List RuleT)) (s : List (List Int) × List D) : Prop where
  ins : InS nss.length s.1
  len : s.1.length = s.2.length
  val : ∀ r ∈ s.1, ∃ st k, IsSt m st ∧ k < m ∧ r = rowOf nss st k ∧ findD (s.1.map kt) s.2 (kt r) = some (.tup [ti st, .int (k : Nat)])
def addR (nss : List (List RuleT)) (st : List Int) (s : List (List Int) × List D) (k : Nat) : List (List Int) × List D :=
  if rowOf nss st k ∈ s.1 then s else (s.1 ++ [rowOf nss st k], s.2 ++ [.tup [ti st, .int (k : Nat)]])
theorem addR_1 {nss : List (List RuleT)} {st : List Int} {s : List (List Int) × List D} {k : Nat} : (addR nss st s k).1 = addS s.1 (rowOf nss st k) := by
  unfold addR addS
  by_cases c : rowOf nss st k ∈ s.1 <;> simp [c]
section
variable {m : Nat} {nss : List (List RuleT)}
theorem RwS.add {st : List Int} {s : List (List Int) × List D} {k : Nat} (h : NetsOk m nss) (hs : IsSt m st) (hk : k < m) (I : RwS m nss s) : RwS m nss (addR nss st s k) := by
  have i1 := I.ins.add (row_st (st := st) h hk)
  rw [← addR_1] at i1
  refine ⟨i1, ?_, ?_⟩
  · unfold addR
    by_cases c : rowOf nss st k ∈ s.1
    · rw [if_pos c]; exact I.len
    · rw [if_neg c]; simp [I.len]
  · unfold addR
    by_cases c : rowOf nss st k ∈ s.1
    · rw [if_pos c]; exact I.val
    · rw [if_neg c]
      have nk : kt (rowOf nss st k) ∉ s.1.map kt := fun z => by
        obtain ⟨a, ha, e⟩ := List.mem_map.mp z
        exact c (kt_inj.mp e ▸ ha)
      intro r hr
      have fs := find_snoc (k := kt (rowOf nss st k)) (k' := kt r) (d := .tup [ti st, .int (k : Nat)]) (ks := s.1.map kt) (ds := s.2) (by rw [List.length_map]; exact I.len) nk
      show ∃ st k', _ ∧ _ ∧ _ ∧ findD ((s.1 ++ [rowOf nss _ _]).map kt) _ _ = _
      rw [List.map_append]
      by_cases q : r = rowOf nss st k
      · subst q
        exact ⟨st, k, hs, hk, rfl, by rw [if_pos rfl] at fs; exact fs⟩
      · have hr : r ∈ s.1 := by
          rcases List.mem_append.mp hr with hr | hr
          · exact hr
          · exact absurd (List.mem_singleton.mp hr) q
        obtain ⟨st', k', h1, h2, h3, h4⟩ := I.val r hr
        exact ⟨st', k', h1, h2, h3, by rw [if_neg fun z => q (kt_inj.mp z).symm] at fs; exact fs.trans h4⟩
abbrev dRw (s : List (List Int) × List D) : D := .dit (s.1.map kt) s.2
theorem look_row1 (h : NetsOk m nss) {st : List Int} (hs : IsSt m st) {s : List (List Int) × List D} (hR : RwS m nss s) :
    forL (tmName 3) C.b_looks_rows_1 [3, 4] [] ((List.range m).map fun k : Nat => D.int (k : Nat)) [some (dNets nss), some (dRw s), some (ti st), none, none, none]
      = .ok (.nx, [some (dNets nss), some (dRw ((List.range m).foldl (addR nss st) s)), some (ti st), none, none, none]) ∧ RwS m nss ((List.range m).foldl (addR nss st) s) := by
  have hhi := h.hi
  have hm5 := h.m5
  refine for_run (fun k : Nat => D.int (k : Nat)) (fun s : List (List Int) × List D => [some (dNets nss), some (dRw s), some (ti st), none, none, none]) (addR nss st) (RwS m nss) (List.range m) s hR fun s k hR hk => ?_
  have hk := List.mem_range.mp hk
  refine ⟨hR.add h hs hk, by simp, ?_⟩
  have q := comp_map (tm := tmName 5) (t := cYes) (e := C.e_looks_rows_1) (vs := [5]) (ws := []) (ρ := [some (dNets nss), some (dRw s), some (ti st), some (.int (k : Nat)), none, none]) dNet (fun ns => D.int (oughtI ns st k)) nss (fun ns hn => by
    have hn := h.net ns hn
    have o := ought_ok (hn.good (by omega)) (st := st) (k := k) (by rw [hn.len]; exact hs) (by rw [hn.len]; exact hk)
    simp only [turnC, C.e_looks_rows_1]
    simp [o])
  have e1 : (nss.map fun ns => D.int (oughtI ns st k)) = (rowOf nss st k).map D.int := by unfold rowOf; rw [List.map_map]; rfl
  rw [e1] at q
  have lR := hR.ins.len
  have p6 : 2 ^ nss.length ≤ 64 := Nat.le_trans (Nat.pow_le_pow_right (by omega) hhi) (by omega)
  have zn : szOk nss.length = true := szOk_of (by omega)
  obtain ⟨R, V⟩ := s
  have sd := fun (ρ : Y.Env) => setd87 (i := 1) (KS := R) (ds := V) (u := rowOf nss st k) (d := .tup [ti st, .int (k : Nat)]) (ρ := ρ) hR.len (by have lR : R.length ≤ 2 ^ nss.length := lR; omega)
  unfold addR
  generalize rowOf nss st k = r at *
  simp only [turnF, C.b_looks_rows_1]
  generalize C.e_looks_rows_1 = B at q ⊢
  by_cases c : r ∈ R
  · obtain ⟨z, e⟩ := (sd [some (dNets nss), some (dRw (R, V)), some (ti st), some (.int (k : Nat)), some (ti r), none]).1 c
    simp [q, c, zn, e]
  · have e := (sd [some (dNets nss), some (dRw (R, V)), some (ti st), some (.int (k : Nat)), some (ti r), none]).2 c
    simp [q, c, zn, e]
theorem rows_1 {ss : List (List Int)} {ks : List Nat} : ∀ {s : List (List Int) × List D}, (ss.foldl (fun s st => ks.foldl (addR nss st) s) s).1 = ss.foldl (fun R st => ks.foldl (fun R k => addS R (rowOf nss st k)) R) s.1 := by
  have in1 : ∀ (st : List Int) {ks : List Nat} {s : List (List Int) × List D}, (ks.foldl (addR nss st) s).1 = ks.foldl (fun R k => addS R (rowOf nss st k)) s.1 := fun st {ks} => by
    induction ks with
    | nil => intro s; rfl
    | cons k ks ih => intro s; rw [List.foldl_cons, List.foldl_cons, ih, addR_1]
  induction ss with
  | nil => intro s; rfl
  | cons st ss ih => intro s; rw [List.foldl_cons, List.foldl_cons, ih, in1]
theorem looks_rows_ok (h : NetsOk m nss) : ∃ s, C.g_looks_rows [dNets nss] = .ok (.fr (dRw s)) ∧ RwS m nss s ∧ ∀ r, r ∈ s.1 ↔ RowR m nss r := by
  have hhi := h.hi
  have hm5 := h.m5
  have q := for_run (tm := tmName 2) (body := C.b_looks_rows_2) (vs := [2, 3, 4]) (ws := []) ti (fun s : List (List Int) × List D => [some (dNets nss), some (dRw s), none, none, none, none]) (fun s st => (List.range m).foldl (addR nss st) s) (RwS m nss) (stands m) ([], []) ⟨⟨List.nodup_nil, by simp⟩, rfl, by simp⟩ fun s st hR hst => by
    have hs := mem_stands.mp hst
    obtain ⟨e, h2⟩ := look_row1 h hs hR
    refine ⟨h2, by simp, ?_⟩
    obtain ⟨n0, a0, l0⟩ := head_net h
    have zM : szOk m = true := szOk_of (by omega)
    have rM : rngOk m = true := rngOk_of (by omega) (by omega)
    generalize (List.range m).foldl (addR nss st) s = s2 at e ⊢
    simp only [turnF, C.b_looks_rows_2]
    generalize C.b_looks_rows_1 = B at e ⊢
    simp [ixD, a0, l0, zM, rM, e]
  obtain ⟨q, hR⟩ := q
  refine ⟨_, ?_, hR, fun r => ?_⟩
  · obtain ⟨n0, a0, l0⟩ := head_net h
    have rd := stands_of_ok (m := m) (by omega)
    have zM : szOk m = true := szOk_of (by omega)
    have zs : szOk (stands m).length = true := szOk_of (by
      rw [stands_len]
      exact Nat.le_trans (Nat.pow_le_pow_right (by omega) hm5) (by omega))
    generalize (stands m).foldl (fun s st => (List.range m).foldl (addR nss st) s) ([], []) = s2 at q ⊢
    have rd : C.g_stands_of [.int m] = .ok (.vl (.lst ((stands m).map ti))) := rd
    have q : forL (tmName 2) C.b_looks_rows_2 [2, 3, 4] [] ((stands m).map ti) [some (dNets nss), some (.dit [] []), none, none, none, none] = _ := q
    simp only [C.g_looks_rows, C.m_looks_rows, initD_eq]
    generalize C.b_looks_rows_2 = B at q ⊢
    simp [ixD, a0, l0, zM, rd, zs, q]
  · rw [rows_1, mem_rows2]
    constructor
    · rintro (h | ⟨st, hst, k, hk, e⟩)
      · cases h
      · exact ⟨st, k, mem_stands.mp hst, List.mem_range.mp hk, e⟩
    · rintro ⟨st, k, hst, hk, e⟩
      exact .inr ⟨st, mem_stands.mpr hst, k, List.mem_range.mpr hk, e⟩
end
end H

set_option Elab.async false
set_option linter.all false
set_option maxRecDepth 100000
namespace H
open PySem PySem.Spec PyProof.Rows L2 Y
theorem for_val {α V : Type} {tm : GM} {body : SM} {vs : List Nat} (F : α → D) (g : V → α → V) (I : V → Y.Env → Prop) : ∀ (xs : List α) (v : V) (ρ : Y.Env), I v ρ →
    (∀ v ρ x, I v ρ → x ∈ xs → ∃ ρ', turnF tm body vs (F x) ρ = .ok (.nx, ρ') ∧ I (g v x) ρ') →
    ∃ ρ', forL tm body vs [] (xs.map F) ρ = .ok (.nx, ρ') ∧ I (xs.foldl g v) ρ'
  | [], v, ρ, hs, _ => ⟨ρ, rfl, hs⟩
  | x :: xs, v, ρ, hs, h => by
    obtain ⟨ρ1, e1, e3⟩ := h v ρ x hs (by simp)
    obtain ⟨ρ', e4, h4⟩ := for_val (body := body) (tm := tm) F g I xs (g v x) ρ1 e3 fun v ρ y hs hy => h v ρ y hs (by simp [hy])
    exact ⟨ρ', for_cons e1 (by simp) e4, h4⟩
theorem ne_ln {L : List Nat} : neD (ln' L) (.lst []) = .ok (.bl (!L.isEmpty)) := by
  have f : Fit 1 (ln' L) := fun d h => by
    obtain ⟨x, _, rfl⟩ := List.mem_map.mp h
    trivial
  rw [neD_of (n := 1) f (fit_nil (n := 0)), eqP_lst, eqPs_nil]
  simp
theorem get_tn {ks : List (List Key)} {ds : List D} {S : List Nat} : getDic (.dit ks ds) (tn S) = .ok (findD ks ds (kt (ni S))) := by rw [tn_ni]; exact get_any
theorem put_tn {ks : List (List Key)} {ds : List D} {S : List Nat} {d : D} (hz : ks.length + 1 ≤ 10000000) : putDic (.dit ks ds) (tn S) d = .ok (.dit (putKs ks (kt (ni S))) (putDs ks ds (kt (ni S)) d)) := by rw [tn_ni]; exact put_any hz
theorem kn_inj {A B : List Nat} : kt (ni A) = kt (ni B) ↔ A = B := kt_inj.trans ni_inj
theorem find_putN {ks : List (List Key)} {ds : List D} {S T : List Nat} {d : D} (h : ks.length = ds.length) : findD (putKs ks (kt (ni S))) (putDs ks ds (kt (ni S)) d) (kt (ni T)) = if S = T then some d else findD ks ds (kt (ni T)) := by
  rw [find_put h]
  by_cases c : S = T
  · rw [if_pos (kn_inj.mpr c), if_pos c]
  · rw [if_neg fun z => c (kn_inj.mp z), if_neg c]
structure KnL (M : Nat) (R : List (List Int)) (n : Nat) (ks : List (List Key)) (ds : List D) : Prop where
  km : KeysM M ks
  len : ks.length = ds.length
  val : ∀ T : List Nat, T.length ≤ n → ∀ d, findD ks ds (kt (ni T)) = some d → d = .int (lk R T : Nat)
section
variable {M : Nat} {R : List (List Int)} {n k : Nat} {ks ks' : List (List Key)} {ds ds' : List D}
theorem KnL.small (h : KnL M R n ks ds) (hM : M ≤ 6) : ks.length ≤ 64 := Nat.le_trans h.km.len (Nat.le_trans (Nat.pow_le_pow_right (by omega) hM) (by omega))
theorem KnL.less (h : KnL M R n ks ds) (hk : k ≤ n) : KnL M R k ks ds := ⟨h.km, h.len, fun T ht => h.val T (by omega)⟩
/-- behind a call for shorter lists -/
theorem KnL.more (h : KnL M R n ks ds) (h2 : KnL M R k ks' ds') (hk : k ≤ n) (u : ∀ T : List Nat, k < T.length → findD ks' ds' (kt (ni T)) = findD ks ds (kt (ni T))) : KnL M R n ks' ds' :=
  ⟨h2.km, h2.len, fun T ht d e => by
    by_cases c : T.length ≤ k
    · exact h2.val T c d e
    · rw [u T (by omega)] at e
      exact h.val T ht d e⟩
/-- what a call tells: new or known data -/
def IsV (h : Hd) (d : D) : Prop := h = .fr d ∨ h = .vl d
theorem least_turn (G : Fn) {S : List Nat} (hM : M ≤ 6) (hS : S.Sublist (List.range M)) (h2 : 2 ≤ S.length) (hR : InS M R)
    (hG : ∀ (T : List Nat) ks ds, T.length < S.length → T.Sublist (List.range M) → KnL M R T.length ks ds → ∃ hd ks' ds', G [.lst (R.map li), ln' T, .dit ks ds] = .ok (hd, [none, none, some (.dit ks' ds')]) ∧ IsV hd (.int (lk R T : Nat)) ∧ KnL M R T.length ks' ds' ∧ ∀ U : List Nat, T.length < U.length → findD ks' ds' (kt (ni U)) = findD ks ds (kt (ni U)))
    {r : List Int} (hr : r ∈ R) {v : Nat} {ks : List (List Key)} {ds : List D} (K : KnL M R (S.length - 1) ks ds) (hv : findD ks ds (kt (ni S)) = some (.int (v : Nat))) (h9 : v ≤ 99) :
    ∃ ks' ds', turnF (tmName 4) (C.b__law_least_3_1 G) [4, 5, 6, 7] (li r) [some (.lst (R.map li)), some (ln' S), some (.dit ks ds), some (tn S), none, none, none, none, none]
        = .ok (.nx, [some (.lst (R.map li)), some (ln' S), some (.dit ks' ds'), some (tn S), none, none, none, none, none]) ∧ KnL M R (S.length - 1) ks' ds' ∧ findD ks' ds' (kt (ni S)) = some (.int ((min v (cst (lk R) S r) : Nat) : Int))
      ∧ ∀ U : List Nat, S.length ≤ U.length → U ≠ S → findD ks' ds' (kt (ni U)) = findD ks ds (kt (ni U)) := by
  have rs := hR.st r hr
  have at_ : ∀ i ∈ S, atI (r.map D.int) (i : Int) = some (.int (r.getD i 0)) := fun i hi => by
    have := List.mem_range.mp (hS.subset hi)
    have := atI_mapI (xs := r) (i := (i : Int)) (by omega) (by rw [rs.len]; omega)
    simpa using this
  have l6 : S.length ≤ 6 := by have := hS.length_le; rw [List.length_range] at this; omega
  have q1 : cCompL (tmName 8) (C.t__law_least_3_1 G) (C.e__law_least_3_1 G) [8] [] (S.map fun i : Nat => D.int (i : Nat)) [some (.lst (R.map li)), some (ln' S), some (.dit ks ds), some (tn S), some (li r), none, none, none, none] = .ok ((lowS S r).map (fun i : Nat => D.int (i : Nat)), [some (.lst (R.map li)), some (ln' S), some (.dit ks ds), some (tn S), some (li r), none, none, none, none]) :=
    comp_filter (fun i : Nat => D.int (i : Nat)) (fun i => decide (r.getD i 0 = 0)) (fun i : Nat => D.int (i : Nat)) S (fun i hi => by
      have e := at_ i hi
      generalize r.getD i 0 = v at e ⊢
      simp only [turnC, C.t__law_least_3_1, C.e__law_least_3_1]
      by_cases c : v = 0 <;> simp [ixD, e, c])
  have q2 : ∀ a, cCompL (tmName 8) (C.t__law_least_3_2 G) (C.e__law_least_3_2 G) [8] [] (S.map fun i : Nat => D.int (i : Nat)) [some (.lst (R.map li)), some (ln' S), some (.dit ks ds), some (tn S), some (li r), a, none, none, none] = .ok ((hiS S r).map (fun i : Nat => D.int (i : Nat)), [some (.lst (R.map li)), some (ln' S), some (.dit ks ds), some (tn S), some (li r), a, none, none, none]) := fun a =>
    comp_filter (fun i : Nat => D.int (i : Nat)) (fun i => decide (r.getD i 0 = 1)) (fun i : Nat => D.int (i : Nat)) S (fun i hi => by
      have e := at_ i hi
      generalize r.getD i 0 = v at e ⊢
      simp only [turnC, C.t__law_least_3_2, C.e__law_least_3_2]
      by_cases c : v = 1 <;> simp [ixD, e, c])
  have z : szOk S.length = true := szOk_of (by omega)
  have n1 := ne_ln (L := lowS S r)
  have n2 := ne_ln (L := hiS S r)
  have hc : cst (lk R) S r = if splB S r = true then 1 + max (lk R (lowS S r)) (lk R (hiS S r)) else 99 := rfl
  have hsp : splB S r = (!(lowS S r).isEmpty && !(hiS S r).isEmpty) := rfl
  by_cases c : splB S r = true
  · rw [if_pos c] at hc
    rw [c] at hsp
    obtain ⟨s1, s2, s3, s4⟩ := part_lt c
    obtain ⟨hd1, ks1, ds1, e1, v1, K1, u1⟩ := hG (lowS S r) ks ds s1 (low_sub.trans hS) (K.less (by omega))
    have K1' := K.more K1 (by omega) u1
    obtain ⟨hd2, ks2, ds2, e2, v2, K2, u2⟩ := hG (hiS S r) ks1 ds1 s2 (hi_sub.trans hS) (K1'.less (by omega))
    have K2' := K1'.more K2 (by omega) u2
    have hv2 : findD ks2 ds2 (kt (ni S)) = some (.int (v : Nat)) := by rw [u2 S s2, u1 S s1]; exact hv
    have sm := K2'.small hM
    have fp := fun (d : D) (T : List Nat) => find_putN (S := S) (T := T) (d := d) K2'.len
    refine ⟨putKs ks2 (kt (ni S)), putDs ks2 ds2 (kt (ni S)) (.int ((min v (cst (lk R) S r) : Nat) : Int)), ?_, ⟨K2'.km.put hS, put_len K2'.len, fun T ht d e => ?_⟩, ?_, fun U hU hn => ?_⟩
    rotate_left
    · rw [fp _ T, if_neg fun z => by rw [z] at h2; have := z ▸ ht; omega] at e
      exact K2'.val T ht d e
    · exact (fp (.int ((min v (cst (lk R) S r) : Nat) : Int)) S).trans (if_pos rfl)
    · rw [fp _ U, if_neg fun z => hn z.symm, u2 U (by omega), u1 U (by omega)]
    · have gt := get_tn (ks := ks2) (ds := ds2) (S := S)
      rw [hv2] at gt
      have pt := put_tn (ks := ks2) (ds := ds2) (S := S) (d := .int ((min v (cst (lk R) S r) : Nat) : Int)) (by omega)
      have em : min (v : Int) (1 + max ((lk R (lowS S r) : Nat) : Int) ((lk R (hiS S r) : Nat) : Int)) = ((min v (cst (lk R) S r) : Nat) : Int) := by rw [hc]; omega
      have hsp := hsp.symm
      rw [Bool.and_eq_true] at hsp
      rw [hsp.1] at n1
      rw [hsp.2] at n2
      have n1 : neD (.lst ((lowS S r).map fun i : Nat => D.int (i : Nat))) (.lst []) = .ok (.bl true) := n1
      have n2 : neD (.lst ((hiS S r).map fun i : Nat => D.int (i : Nat))) (.lst []) = .ok (.bl true) := n2
      have e1 : G [.lst (R.map li), .lst ((lowS S r).map fun i : Nat => D.int (i : Nat)), .dit ks ds] = _ := e1
      have e2 : G [.lst (R.map li), .lst ((hiS S r).map fun i : Nat => D.int (i : Nat)), .dit ks1 ds1] = _ := e2
      generalize (lowS S r).map (fun i : Nat => D.int (i : Nat)) = A at q1 n1 e1
      generalize (hiS S r).map (fun i : Nat => D.int (i : Nat)) = B at q2 n2 e2
      generalize ((lk R (lowS S r) : Nat) : Int) = a at em v1
      generalize ((lk R (hiS S r) : Nat) : Int) = b at em v2
      generalize ((min v (cst (lk R) S r) : Nat) : Int) = w at em pt ⊢
      simp only [turnF, C.b__law_least_3_1]
      generalize C.t__law_least_3_1 G = T1 at q1 ⊢
      generalize C.t__law_least_3_2 G = T2 at q2 ⊢
      generalize C.e__law_least_3_1 G = E1 at q1 ⊢
      generalize C.e__law_least_3_2 G = E2 at q2 ⊢
      have q2 := q2 (some (.lst A))
      rcases v1 with rfl | rfl <;> rcases v2 with rfl | rfl <;> simp [q1, q2, z, n1, n2, e1, e2, gt, pt, em]
  · rw [if_neg c] at hc
    refine ⟨ks, ds, ?_, K, ?_, fun _ _ _ => rfl⟩
    · have c : splB S r = false := by simpa using c
      rw [c] at hsp
      have hsp := hsp.symm
      have n1 : neD (.lst ((lowS S r).map fun i : Nat => D.int (i : Nat))) (.lst []) = .ok (.bl (!(lowS S r).isEmpty)) := n1
      have n2 : neD (.lst ((hiS S r).map fun i : Nat => D.int (i : Nat))) (.lst []) = .ok (.bl (!(hiS S r).isEmpty)) := n2
      generalize (lowS S r).map (fun i : Nat => D.int (i : Nat)) = A at q1 n1
      generalize (hiS S r).map (fun i : Nat => D.int (i : Nat)) = B at q2 n2
      generalize (!(lowS S r).isEmpty) = b1 at n1 hsp
      generalize (!(hiS S r).isEmpty) = b2 at n2 hsp
      simp only [turnF, C.b__law_least_3_1]
      generalize C.t__law_least_3_1 G = T1 at q1 ⊢
      generalize C.t__law_least_3_2 G = T2 at q2 ⊢
      generalize C.e__law_least_3_1 G = E1 at q1 ⊢
      generalize C.e__law_least_3_2 G = E2 at q2 ⊢
      have q2 := q2 (some (.lst A))
      cases b1 with
      | false => simp [q1, q2, z, n1]
      | true =>
        cases b2 with
        | false => simp [q1, q2, z, n1, n2]
        | true => cases hsp
    · rw [hc, Nat.min_eq_left h9]; exact hv
theorem least_step (G : Fn) {S : List Nat} (hM : M ≤ 6) (hS : S.Sublist (List.range M)) (hR : InS M R)
    (hG : ∀ (T : List Nat) ks ds, T.length < S.length → T.Sublist (List.range M) → KnL M R T.length ks ds → ∃ hd ks' ds', G [.lst (R.map li), ln' T, .dit ks ds] = .ok (hd, [none, none, some (.dit ks' ds')]) ∧ IsV hd (.int (lk R T : Nat)) ∧ KnL M R T.length ks' ds' ∧ ∀ U : List Nat, T.length < U.length → findD ks' ds' (kt (ni U)) = findD ks ds (kt (ni U)))
    {ks : List (List Key)} {ds : List D} (K : KnL M R S.length ks ds) :
    ∃ hd ks' ds', fnD 3 9 [2] (C.m__law_least_3 G) [.lst (R.map li), ln' S, .dit ks ds] = .ok (hd, [none, none, some (.dit ks' ds')]) ∧ IsV hd (.int (lk R S : Nat)) ∧ KnL M R S.length ks' ds' ∧ ∀ U : List Nat, S.length < U.length → findD ks' ds' (kt (ni U)) = findD ks ds (kt (ni U)) := by
  have l6 : S.length ≤ 6 := by have := hS.length_le; rw [List.length_range] at this; omega
  have z : szOk S.length = true := szOk_of (by omega)
  have zi : ∀ a : D, tupleD [.lst (S.map fun i : Nat => D.int (i : Nat))] = .ok (.tup (S.map fun i : Nat => D.int (i : Nat))) := fun _ => rfl
  by_cases c2 : S.length < 2
  · have c2' : (S.length : Int) < 2 := by omega
    refine ⟨.fr (.int 0), ks, ds, ?_, .inl ?_, K, fun _ _ => rfl⟩
    · simp only [C.m__law_least_3]
      simp [e_fnD, z, c2']
    · rw [lk_one c2]; rfl
  · have c2' : ¬ (S.length : Int) < 2 := by omega
    have g0 := get_tn (ks := ks) (ds := ds) (S := S)
    cases hk : findD ks ds (kt (ni S)) with
    | some d =>
      have hd := K.val S (Nat.le_refl _) d hk
      subst hd
      rw [hk] at g0
      refine ⟨.vl (.int (lk R S : Nat)), ks, ds, ?_, .inr rfl, K, fun _ _ => rfl⟩
      generalize ((lk R S : Nat) : Int) = w at g0 ⊢
      have g0 : getDic (.dit ks ds) (.tup (S.map fun i : Nat => D.int (i : Nat))) = _ := g0
      simp only [C.m__law_least_3]
      generalize C.b__law_least_3_1 G = B
      simp [e_fnD, z, c2', cDIn, g0]
    | none =>
      rw [hk] at g0
      have sm := K.small hM
      have p0 := put_tn (ks := ks) (ds := ds) (S := S) (d := .int 99) (by omega)
      have fp := fun (T : List Nat) => find_putN (S := S) (T := T) (d := .int 99) K.len
      have K0 : KnL M R (S.length - 1) (putKs ks (kt (ni S))) (putDs ks ds (kt (ni S)) (.int 99)) := ⟨K.km.put hS, put_len K.len, fun T ht d e => by
        rw [fp T, if_neg fun z => by rw [← z] at ht; omega] at e
        exact K.val T (by omega) d e⟩
      have h0 := (fp S).trans (if_pos rfl)
      have u0 : ∀ U : List Nat, S.length ≤ U.length → U ≠ S → findD (putKs ks (kt (ni S))) (putDs ks ds (kt (ni S)) (.int 99)) (kt (ni U)) = findD ks ds (kt (ni U)) := fun U _ hn => by rw [fp U, if_neg fun z => hn z.symm]
      generalize putKs ks (kt (ni S)) = ks0 at *
      generalize putDs ks ds (kt (ni S)) (.int 99) = ds0 at *
      obtain ⟨ρ', e, ks1, ds1, rfl, K1, h1, h9, u1⟩ := for_val (tm := tmName 4) (body := C.b__law_least_3_1 G) (vs := [4, 5, 6, 7]) li (fun (v : Nat) r => min v (cst (lk R) S r))
        (fun v ρ => ∃ ks1 ds1, ρ = [some (.lst (R.map li)), some (ln' S), some (.dit ks1 ds1), some (tn S), none, none, none, none, none] ∧ KnL M R (S.length - 1) ks1 ds1 ∧ findD ks1 ds1 (kt (ni S)) = some (.int (v : Nat)) ∧ v ≤ 99 ∧ ∀ U : List Nat, S.length ≤ U.length → U ≠ S → findD ks1 ds1 (kt (ni U)) = findD ks ds (kt (ni U)))
        R 99 [some (.lst (R.map li)), some (ln' S), some (.dit ks0 ds0), some (tn S), none, none, none, none, none] ⟨ks0, ds0, rfl, K0, h0, Nat.le_refl _, u0⟩ fun v ρ r ⟨ks1, ds1, eρ, K1, h1, h9, u1⟩ hr => by
          subst eρ
          obtain ⟨ks2, ds2, e, K2, h2, u2⟩ := least_turn G hM hS (by omega) hR hG hr K1 h1 h9
          exact ⟨_, e, ks2, ds2, rfl, K2, h2, by omega, fun U hU hn => (u2 U hU hn).trans (u1 U hU hn)⟩
      have ev : R.foldl (fun (v : Nat) r => min v (cst (lk R) S r)) 99 = lk R S := (lk_eq c2 (by omega)).symm
      rw [ev] at h1
      have g1 := get_tn (ks := ks1) (ds := ds1) (S := S)
      rw [h1] at g1
      have lR := hR.len
      have zR : szOk R.length = true := szOk_of (by
        have : 2 ^ M ≤ 64 := Nat.le_trans (Nat.pow_le_pow_right (by omega) hM) (by omega)
        omega)
      refine ⟨.vl (.int (lk R S : Nat)), ks1, ds1, ?_, .inr rfl, ⟨K1.km, K1.len, fun T ht d ed => ?_⟩, fun U hU => u1 U (by omega) fun z => by rw [z] at hU; omega⟩
      · generalize ((lk R S : Nat) : Int) = w at g1 ⊢
        have g0 : getDic (.dit ks ds) (.tup (S.map fun i : Nat => D.int (i : Nat))) = _ := g0
        have g1 : getDic (.dit ks1 ds1) (.tup (S.map fun i : Nat => D.int (i : Nat))) = _ := g1
        have p0 : putDic (.dit ks ds) (.tup (S.map fun i : Nat => D.int (i : Nat))) (.int 99) = _ := p0
        have e : forL (tmName 4) (C.b__law_least_3_1 G) [4, 5, 6, 7] [] (R.map li) [some (.lst (R.map li)), some (.lst (S.map fun i : Nat => D.int (i : Nat))), some (.dit ks0 ds0), some (.tup (S.map fun i : Nat => D.int (i : Nat))), none, none, none, none, none] = _ := e
        simp only [C.m__law_least_3]
        generalize C.b__law_least_3_1 G = B at e ⊢
        simp [e_fnD, z, c2', cDIn, g0, p0, zR, e, g1]
      · by_cases q : T = S
        · rw [q, h1] at ed
          cases ed
          rw [q]
        · by_cases q2 : T.length ≤ S.length - 1
          · exact K1.val T q2 d ed
          · rw [u1 T (by omega) q] at ed
            exact K.val T ht d ed
theorem least_ok (hM : M ≤ 6) (hR : InS M R) : ∀ (n : Nat) (S : List Nat) (ks : List (List Key)) (ds : List D), S.length < n → S.Sublist (List.range M) → KnL M R S.length ks ds →
    ∃ hd ks' ds', C.r__law_least_3 n [.lst (R.map li), ln' S, .dit ks ds] = .ok (hd, [none, none, some (.dit ks' ds')]) ∧ IsV hd (.int (lk R S : Nat)) ∧ KnL M R S.length ks' ds' ∧ ∀ U : List Nat, S.length < U.length → findD ks' ds' (kt (ni U)) = findD ks ds (kt (ni U))
  | 0, S, ks, ds, h, _, _ => by omega
  | n + 1, S, ks, ds, h, hS, K => by
    rw [C.r__law_least_3]
    exact least_step _ hM hS hR (fun T ks ds hT hs K => least_ok hM hR n T ks ds (by omega) hs K) K
theorem knl_nil {n : Nat} : KnL M R n [] [] := ⟨⟨List.nodup_nil, by simp⟩, rfl, fun T _ d e => by cases e⟩
end
end H

set_option Elab.async false
set_option linter.all false
set_option maxRecDepth 100000
namespace H
open PySem PySem.Spec PyProof.Rows L2 Y
/-- what is kept for some nets -/
def FdOk (R : List (List Int)) (S : List Nat) (v : Nat) (d : D) : Prop := (d = .non ∧ v = 99) ∨ ∃ r, d = .tup [.int (v : Nat), ti r] ∧ r ∈ R ∧ splB S r = true ∧ v = 1 + max (lk R (lowS S r)) (lk R (hiS S r)) ∧ v ≤ 41
/-- what best tells -/
def BestV (R : List (List Int)) (S : List Nat) (d : D) : Prop := (S.length = 1 ∧ d = .tup [.int 0, .non]) ∨ (2 ≤ S.length ∧ FdOk R S (lk R S) d)
/-- .. as a side -/
def SideV (v : Nat) (d : D) : Prop := (d = .non ∧ v = 99) ∨ ∃ x, d = .tup [.int (v : Nat), x] ∧ (x = .non ∨ ∃ r, x = ti r) ∧ v ≤ 41
theorem BestV.side {R : List (List Int)} {S : List Nat} {d : D} (h : BestV R S d) : SideV (lk R S) d := by
  rcases h with ⟨h1, rfl⟩ | ⟨_, h⟩
  · rw [lk_one (by omega)]
    exact .inr ⟨.non, rfl, .inl rfl, by omega⟩
  · rcases h with h | ⟨r, rfl, _, _, _, hv⟩
    · exact .inl h
    · exact .inr ⟨ti r, rfl, .inr ⟨r, rfl⟩, hv⟩
theorem SideV.fit {v : Nat} {d : D} (h : SideV v d) : Fit 2 d := by
  rcases h with ⟨rfl, _⟩ | ⟨x, rfl, hx, _⟩
  · trivial
  · intro y hy
    simp only [List.mem_cons, List.not_mem_nil, or_false] at hy
    rcases hy with rfl | rfl
    · trivial
    · rcases hx with rfl | ⟨r, rfl⟩
      · trivial
      · exact fit_ti
theorem SideV.eqn {v : Nat} {d : D} (h : SideV v d) : eqP d .non = decide (v = 99) := by
  rcases h with ⟨rfl, rfl⟩ | ⟨x, rfl, _, hv⟩
  · rfl
  · rw [decide_eq_false (by omega)]
    rfl
theorem nin_non {v w : Nat} {d e : D} (h : SideV v d) (h2 : SideV w e) : ninD .non (.lst [d, e]) = .ok (.bl (!(decide (v = 99) || decide (w = 99)))) := by
  have c1 : dOk .non = true := dOk_fit (n := 0) (by unfold Fit; trivial)
  have c2 : dOk (.lst [d, e]) = true := dOk_fit (n := 3) fun y hy => by
    simp only [List.mem_cons, List.not_mem_nil, or_false] at hy
    rcases hy with rfl | rfl
    · exact h.fit
    · exact h2.fit
  refine nin_of ?_
  show (match (if (dOk .non && dOk (.lst [d, e])) = true then some ([d, e].any fun z => eqP z .non) else none) with | some b => R.ok (D.bl b) | none => .stk) = _
  rw [c1, c2]
  simp [h.eqn, h2.eqn]
theorem ne_tn {L : List Nat} : neD (tn L) (.tup []) = .ok (.bl (!L.isEmpty)) := by
  have f : Fit 1 (tn L) := fun d h => by
    obtain ⟨x, _, rfl⟩ := List.mem_map.mp h
    trivial
  have f2 : Fit 1 (.tup []) := fun d h => nomatch h
  rw [neD_of (n := 1) f f2, eqP_tup, eqPs_nil]
  simp
structure KnB (M : Nat) (R : List (List Int)) (ks : List (List Key)) (ds : List D) : Prop where
  km : KeysM M ks
  len : ks.length = ds.length
  val : ∀ (T : List Nat) d, findD ks ds (kt (ni T)) = some d → FdOk R T (lk R T) d
theorem knb_nil {M : Nat} {R : List (List Int)} : KnB M R [] [] := ⟨⟨List.nodup_nil, by simp⟩, rfl, fun T d e => by cases e⟩
theorem keys_R {R : List (List Int)} : ((R.map kt).map fun k : List Key => D.tup (k.map keyD)) = R.map ti := by
  rw [List.map_map]
  refine List.map_congr_left fun r _ => ?_
  show D.tup ((r.map Sum.inl).map keyD) = D.tup (r.map D.int)
  rw [List.map_map]
  rfl
section
variable {M : Nat} {R : List (List Int)} {V : List D}
theorem KnB.small {ks : List (List Key)} {ds : List D} (h : KnB M R ks ds) (hM : M ≤ 6) : ks.length ≤ 64 := Nat.le_trans h.km.len (Nat.le_trans (Nat.pow_le_pow_right (by omega) hM) (by omega))
abbrev envB (R : List (List Int)) (V : List D) (S : List Nat) (ks : List (List Key)) (ds : List D) (f : D) : Y.Env := [some (tn S), some (.dit (R.map kt) V), some (.dit ks ds), some f, none, none, none, none]
theorem best_turn (G : Fn) {S : List Nat} (hM : M ≤ 6) (hS : S.Sublist (List.range M)) (hR : InS M R)
    (hG : ∀ (T : List Nat) ks ds, 1 ≤ T.length → T.length < S.length → T.Sublist (List.range M) → KnB M R ks ds → ∃ hd d ks' ds', G [tn T, .dit (R.map kt) V, .dit ks ds] = .ok (hd, [none, none, some (.dit ks' ds')]) ∧ IsV hd d ∧ BestV R T d ∧ KnB M R ks' ds')
    {r : List Int} (hr : r ∈ R) {v : Nat} {f : D} {ks : List (List Key)} {ds : List D} (K : KnB M R ks ds) (hf : FdOk R S v f) :
    ∃ ks' ds' f', turnF (tmName 4) (C.b_best_1 G) [4, 5, 6, 7] (ti r) (envB R V S ks ds f) = .ok (.nx, envB R V S ks' ds' f') ∧ KnB M R ks' ds' ∧ FdOk R S (min v (cst (lk R) S r)) f' := by
  have pt := parted_ok hS (by omega) (hR.st r hr)
  have n1 := ne_tn (L := lowS S r)
  have n2 := ne_tn (L := hiS S r)
  have hc : cst (lk R) S r = if splB S r = true then 1 + max (lk R (lowS S r)) (lk R (hiS S r)) else 99 := rfl
  have hsp : splB S r = (!(lowS S r).isEmpty && !(hiS S r).isEmpty) := rfl
  have v99 : v ≤ 99 := by
    rcases hf with ⟨_, rfl⟩ | ⟨_, _, _, _, _, h⟩ <;> omega
  by_cases c : splB S r = true
  · rw [if_pos c] at hc
    rw [c] at hsp
    obtain ⟨s1, s2, s3, s4⟩ := part_lt c
    obtain ⟨hd1, d1, ks1, ds1, e1, v1, b1, K1⟩ := hG (lowS S r) ks ds s3 s1 (low_sub.trans hS) K
    obtain ⟨hd2, d2, ks2, ds2, e2, v2, b2, K2⟩ := hG (hiS S r) ks1 ds1 s4 s2 (hi_sub.trans hS) K1
    have b1 := b1.side
    have b2 := b2.side
    have nn := nin_non b1 b2
    have hsp := hsp.symm
    rw [Bool.and_eq_true] at hsp
    rw [hsp.1] at n1
    rw [hsp.2] at n2
    generalize hA : tn (lowS S r) = A at *
    generalize hB : tn (hiS S r) = B at *
    by_cases q : lk R (lowS S r) = 99 ∨ lk R (hiS S r) = 99
    · -- a side has no tree
      have qb : (decide (lk R (lowS S r) = 99) || decide (lk R (hiS S r) = 99)) = true := by
        rcases q with q | q <;> simp [q]
      rw [qb] at nn
      refine ⟨ks2, ds2, f, ?_, K2, ?_⟩
      · simp only [turnF, C.b_best_1]
        rcases v1 with rfl | rfl <;> rcases v2 with rfl | rfl <;> simp [pt, n1, n2, e1, e2, nn]
      · rw [hc, Nat.min_eq_left (by omega)]; exact hf
    · have qb : (decide (lk R (lowS S r) = 99) || decide (lk R (hiS S r) = 99)) = false := by
        rw [decide_eq_false (fun z => q (.inl z)), decide_eq_false (fun z => q (.inr z))]; rfl
      rw [qb] at nn
      obtain ⟨x1, rfl, _, g1⟩ := b1.resolve_left fun z => q (.inl z.2)
      obtain ⟨x2, rfl, _, g2⟩ := b2.resolve_left fun z => q (.inr z.2)
      have w40 : 1 + max (lk R (lowS S r)) (lk R (hiS S r)) ≤ 41 := by
        have h1 := lk_cases (R := R) (S := lowS S r)
        have h2 := lk_cases (R := R) (S := hiS S r)
        omega
      have i1 : atI [D.int (lk R (lowS S r) : Nat), x1] 0 = some (.int (lk R (lowS S r) : Nat)) := atI_of (j := 0) rfl rfl
      have i2 : atI [D.int (lk R (hiS S r) : Nat), x2] 0 = some (.int (lk R (hiS S r) : Nat)) := atI_of (j := 0) rfl rfl
      have j2 : ∀ a b : D, atI [a, b] 0 = some a ∧ atI [a, b] 1 = some b := fun a b => ⟨atI_of (j := 0) rfl rfl, atI_of (j := 1) rfl rfl⟩
      have ew : (1 : Int) + max ((lk R (lowS S r) : Nat) : Int) ((lk R (hiS S r) : Nat) : Int) = ((1 + max (lk R (lowS S r)) (lk R (hiS S r)) : Nat) : Int) := by omega
      have new : FdOk R S (1 + max (lk R (lowS S r)) (lk R (hiS S r))) (.tup [.int ((1 + max (lk R (lowS S r)) (lk R (hiS S r)) : Nat) : Int), ti r]) := .inr ⟨r, rfl, hr, c, rfl, w40⟩
      rw [hc]
      generalize hw : 1 + max (lk R (lowS S r)) (lk R (hiS S r)) = w at *
      generalize hp : ((lk R (lowS S r) : Nat) : Int) = p1 at *
      generalize hq : ((lk R (hiS S r) : Nat) : Int) = p2 at *
      rcases hf with ⟨rfl, rfl⟩ | ⟨r0, rfl, hr0⟩
      · refine ⟨ks2, ds2, .tup [.int (w : Int), ti r], ?_, K2, by rw [Nat.min_eq_right (by omega)]; exact new⟩
        simp only [turnF, C.b_best_1]
        rcases v1 with rfl | rfl <;> rcases v2 with rfl | rfl <;> simp [pt, n1, n2, e1, e2, nn, j2, ew, Y.isNon]
      · by_cases lt : w < v
        · have lt' : (w : Int) < (v : Int) := by omega
          refine ⟨ks2, ds2, .tup [.int (w : Int), ti r], ?_, K2, by rw [Nat.min_eq_right (by omega)]; exact new⟩
          simp only [turnF, C.b_best_1]
          rcases v1 with rfl | rfl <;> rcases v2 with rfl | rfl <;> simp [pt, n1, n2, e1, e2, nn, j2, ew, Y.isNon, lt, lt']
        · have lt' : ¬ (w : Int) < (v : Int) := by omega
          refine ⟨ks2, ds2, .tup [.int (v : Nat), ti r0], ?_, K2, by rw [Nat.min_eq_left (by omega)]; exact .inr ⟨r0, rfl, hr0⟩⟩
          simp only [turnF, C.b_best_1]
          rcases v1 with rfl | rfl <;> rcases v2 with rfl | rfl <;> simp [pt, n1, n2, e1, e2, nn, j2, ew, Y.isNon, lt, lt']
  · rw [if_neg c] at hc
    have c : splB S r = false := by simpa using c
    rw [c] at hsp
    have hsp := hsp.symm
    refine ⟨ks, ds, f, ?_, K, by rw [hc, Nat.min_eq_left v99]; exact hf⟩
    generalize hA : tn (lowS S r) = A at *
    generalize hB : tn (hiS S r) = B at *
    generalize (!(lowS S r).isEmpty) = b1 at n1 hsp
    generalize (!(hiS S r).isEmpty) = b2 at n2 hsp
    simp only [turnF, C.b_best_1]
    cases b1 with
    | false => simp [pt, n1]
    | true =>
      cases b2 with
      | false => simp [pt, n1, n2]
      | true => cases hsp
end
end H

set_option Elab.async false
set_option linter.all false
set_option maxRecDepth 100000
namespace H
open PySem PySem.Spec PyProof.Rows L2 Y
section
variable {M : Nat} {R : List (List Int)} {V : List D}
theorem best_step (G : Fn) {S : List Nat} (hM : M ≤ 6) (hS : S.Sublist (List.range M)) (h1 : 1 ≤ S.length) (hR : InS M R)
    (hG : ∀ (T : List Nat) ks ds, 1 ≤ T.length → T.length < S.length → T.Sublist (List.range M) → KnB M R ks ds → ∃ hd d ks' ds', G [tn T, .dit (R.map kt) V, .dit ks ds] = .ok (hd, [none, none, some (.dit ks' ds')]) ∧ IsV hd d ∧ BestV R T d ∧ KnB M R ks' ds')
    {ks : List (List Key)} {ds : List D} (K : KnB M R ks ds) :
    ∃ hd d ks' ds', fnD 3 8 [2] (C.m_best G) [tn S, .dit (R.map kt) V, .dit ks ds] = .ok (hd, [none, none, some (.dit ks' ds')]) ∧ IsV hd d ∧ BestV R S d ∧ KnB M R ks' ds' := by
  have l6 : S.length ≤ 6 := by have := hS.length_le; rw [List.length_range] at this; omega
  have z : szOk S.length = true := szOk_of (by omega)
  by_cases c1 : S.length = 1
  · refine ⟨.fr (.tup [.int 0, .non]), .tup [.int 0, .non], ks, ds, ?_, .inl rfl, .inl ⟨c1, rfl⟩, K⟩
    simp only [C.m_best]
    generalize C.b_best_1 G = B
    simp [e_fnD, z, c1, szOk_of]
  · have g0 := get_tn (ks := ks) (ds := ds) (S := S)
    have c1' : ¬ (S.length : Int) = 1 := by omega
    cases hk : findD ks ds (kt (ni S)) with
    | some d =>
      rw [hk] at g0
      refine ⟨.vl d, d, ks, ds, ?_, .inr rfl, .inr ⟨by omega, K.val S d hk⟩, K⟩
      have g0 : getDic (.dit ks ds) (.tup (S.map fun i : Nat => D.int (i : Nat))) = _ := g0
      simp only [C.m_best]
      generalize C.b_best_1 G = B
      simp [e_fnD, z, c1, c1', cDIn, g0]
    | none =>
      rw [hk] at g0
      obtain ⟨ρ', e, ks1, ds1, f1, rfl, K1, hf⟩ := for_val (tm := tmName 4) (body := C.b_best_1 G) (vs := [4, 5, 6, 7]) ti (fun (v : Nat) r => min v (cst (lk R) S r))
        (fun v ρ => ∃ ks1 ds1 f1, ρ = envB R V S ks1 ds1 f1 ∧ KnB M R ks1 ds1 ∧ FdOk R S v f1)
        R 99 (envB R V S ks ds .non) ⟨ks, ds, .non, rfl, K, .inl ⟨rfl, rfl⟩⟩ fun v ρ r ⟨ks1, ds1, f1, eρ, K1, hf⟩ hr => by
          subst eρ
          obtain ⟨ks2, ds2, f2, e, K2, hf2⟩ := best_turn G hM hS hR hG hr K1 hf
          exact ⟨_, e, ks2, ds2, f2, rfl, K2, hf2⟩
      have ev : R.foldl (fun (v : Nat) r => min v (cst (lk R) S r)) 99 = lk R S := (lk_eq (by omega) (by omega)).symm
      rw [ev] at hf
      have sm := K1.small hM
      have p1 := put_tn (ks := ks1) (ds := ds1) (S := S) (d := f1) (by omega)
      have fp := fun (T : List Nat) => find_putN (S := S) (T := T) (d := f1) K1.len
      have K2 : KnB M R (putKs ks1 (kt (ni S))) (putDs ks1 ds1 (kt (ni S)) f1) := ⟨K1.km.put hS, put_len K1.len, fun T d ed => by
        rw [fp T] at ed
        by_cases q : S = T
        · rw [if_pos q] at ed
          cases ed
          rw [← q]; exact hf
        · rw [if_neg q] at ed
          exact K1.val T d ed⟩
      have g2 := get_tn (ks := putKs ks1 (kt (ni S))) (ds := putDs ks1 ds1 (kt (ni S)) f1) (S := S)
      rw [(fp S).trans (if_pos rfl)] at g2
      generalize putKs ks1 (kt (ni S)) = ks2 at *
      generalize putDs ks1 ds1 (kt (ni S)) f1 = ds2 at *
      refine ⟨.vl f1, f1, ks2, ds2, ?_, .inr rfl, .inr ⟨by omega, hf⟩, K2⟩
      have g0 : getDic (.dit ks ds) (.tup (S.map fun i : Nat => D.int (i : Nat))) = _ := g0
      have g2 : getDic (.dit ks2 ds2) (.tup (S.map fun i : Nat => D.int (i : Nat))) = _ := g2
      have p1 : putDic (.dit ks1 ds1) (.tup (S.map fun i : Nat => D.int (i : Nat))) f1 = _ := p1
      have lR := hR.len
      have zR : szOk R.length = true := szOk_of (by
        have : 2 ^ M ≤ 64 := Nat.le_trans (Nat.pow_le_pow_right (by omega) hM) (by omega)
        omega)
      have kr := keys_R (R := R)
      have e : forL (tmName 4) (C.b_best_1 G) [4, 5, 6, 7] [] (R.map ti) [some (.tup (S.map fun i : Nat => D.int (i : Nat))), some (.dit (R.map kt) V), some (.dit ks ds), some .non, none, none, none, none] = .ok (.nx, [some (.tup (S.map fun i : Nat => D.int (i : Nat))), some (.dit (R.map kt) V), some (.dit ks1 ds1), some f1, none, none, none, none]) := e
      have zK : szOk (R.map kt).length = true := by rw [List.length_map]; exact zR
      generalize R.map kt = RK at kr e zK ⊢
      generalize R.map ti = RT at kr e
      rw [← kr] at e
      simp only [C.m_best]
      generalize C.b_best_1 G = B at e ⊢
      simp [e_fnD, z, c1, c1', cDIn, g0, zK, e, p1, g2]
theorem best_ok (hM : M ≤ 6) (hR : InS M R) : ∀ (n : Nat) (S : List Nat) (ks : List (List Key)) (ds : List D), 1 ≤ S.length → S.length < n → S.Sublist (List.range M) → KnB M R ks ds →
    ∃ hd d ks' ds', C.r_best n [tn S, .dit (R.map kt) V, .dit ks ds] = .ok (hd, [none, none, some (.dit ks' ds')]) ∧ IsV hd d ∧ BestV R S d ∧ KnB M R ks' ds'
  | 0, S, ks, ds, _, h, _, _ => by omega
  | n + 1, S, ks, ds, h1, h, hS, K => by
    rw [C.r_best]
    exact best_step _ hM hS h1 hR (fun T ks ds h1 hT hs K => best_ok hM hR n T ks ds h1 (by omega) hs K) K
end
end H

set_option Elab.async false
set_option linter.all false
set_option maxRecDepth 100000
namespace H
open PySem PySem.Spec PyProof.Rows L2 Y
section
variable {m : Nat} {nss : List (List RuleT)} {R : List (List Int)} {V : List D}
/-- a right tree of the least depth for some nets -/
structure TrOk (m : Nat) (nss : List (List RuleT)) (R : List (List Int)) (S : List Nat) (t : Tree) : Prop where
  ok : t.ok m
  dep : t.dep = lk R S
  led : ∀ i ∈ S, ledI (nss.getD i []) t = i
theorem tree_step (G : Fn) (h : NetsOk m nss) (hR : RwS m nss (R, V)) {S : List Nat} (hS : S.Sublist (List.range nss.length)) (h1 : 1 ≤ S.length) (hl : lk R S < 99)
    (hG : ∀ (T : List Nat) ks ds, 1 ≤ T.length → T.length < S.length → T.Sublist (List.range nss.length) → lk R T < 99 → KnB nss.length R ks ds → ∃ hd t ks' ds', G [tn T, .dit (R.map kt) V, .dit ks ds] = .ok (hd, [none, none, some (.dit ks' ds')]) ∧ IsV hd (Tree.d t) ∧ TrOk m nss R T t ∧ KnB nss.length R ks' ds')
    {ks : List (List Key)} {ds : List D} (K : KnB nss.length R ks ds) :
    ∃ hd t ks' ds', fnD 3 8 [2] (C.m_tree G) [tn S, .dit (R.map kt) V, .dit ks ds] = .ok (hd, [none, none, some (.dit ks' ds')]) ∧ IsV hd (Tree.d t) ∧ TrOk m nss R S t ∧ KnB nss.length R ks' ds' := by
  have hhi := h.hi
  have hm5 := h.m5
  have l6 : S.length ≤ 6 := by have := hS.length_le; rw [List.length_range] at this; omega
  have z : szOk S.length = true := szOk_of (by omega)
  by_cases c1 : S.length = 1
  · obtain ⟨i, rfl⟩ : ∃ i, S = [i] := by
      cases S with
      | nil => simp at c1
      | cons i r => cases r with
        | nil => exact ⟨i, rfl⟩
        | cons _ _ => simp at c1
    refine ⟨.fr (Tree.d (.is (i : Int))), .is (i : Int), ks, ds, ?_, .inl rfl, ⟨trivial, by rw [lk_one (by simp)]; rfl, fun j hj => by rw [List.mem_singleton.mp hj]; rfl⟩, K⟩
    have a0 : atI [D.int (i : Nat)] 0 = some (.int (i : Nat)) := atI_of (j := 0) rfl rfl
    simp only [C.m_tree, s_is, Tree.d]
    simp [e_fnD, szOk_of, ixD, a0]
  · have c1' : ¬ (S.length : Int) = 1 := by omega
    obtain ⟨hb, d, ks1, ds1, eb, vb, bb, K1⟩ := best_ok (R := R) (V := V) hhi hR.ins 40 S ks ds h1 (by omega) hS K
    have eb : C.g_best [tn S, .dit (R.map kt) V, .dit ks ds] = _ := eb
    obtain ⟨_, bb⟩ := bb.resolve_left fun z => c1 z.1
    obtain ⟨r, rfl, hr, hsp, hv, hv41⟩ := bb.resolve_left fun z => by omega
    obtain ⟨s1, s2, s3, s4⟩ := part_lt hsp
    have pt := parted_ok hS (by omega) (hR.ins.st r hr)
    obtain ⟨st, k, hst, hk, er, fr⟩ := hR.val r hr
    have gr := get_kt (L := R) (ds := V) (t := r)
    have fr : findD (R.map kt) V (kt r) = some (.tup [ti st, .int (k : Nat)]) := fr
    rw [fr] at gr
    obtain ⟨h2, t1, ks2, ds2, e2, v2, T1, K2⟩ := hG (lowS S r) ks1 ds1 s3 s1 (low_sub.trans hS) (by omega) K1
    obtain ⟨h3, t2, ks3, ds3, e3, v3, T2, K3⟩ := hG (hiS S r) ks2 ds2 s4 s2 (hi_sub.trans hS) (by omega) K2
    refine ⟨.fr (Tree.d (.look st k t1 t2)), .look st k t1 t2, ks3, ds3, ?_, .inl rfl, ⟨⟨hst, hk, T1.ok, T2.ok⟩, ?_, fun i hi => ?_⟩, K3⟩
    · have j2 : ∀ a b : D, atI [a, b] 0 = some a ∧ atI [a, b] 1 = some b := fun a b => ⟨atI_of (j := 0) rfl rfl, atI_of (j := 1) rfl rfl⟩
      generalize hA : tn (lowS S r) = A at *
      generalize hB : tn (hiS S r) = B at *
      have eb : C.g_best [.tup (S.map fun i : Nat => D.int (i : Nat)), .dit (R.map kt) V, .dit ks ds] = _ := eb
      have pt : C.g_parted [.tup (S.map fun i : Nat => D.int (i : Nat)), ti r] = _ := pt
      simp only [C.m_tree, s_look, Tree.d]
      generalize C.g_best = GB at eb ⊢
      rcases vb with rfl | rfl <;> rcases v2 with rfl | rfl <;> rcases v3 with rfl | rfl <;> simp [e_fnD, z, c1, c1', eb, j2, pt, gr, e2, e3, szOk_of]
    · show 1 + max t1.dep t2.dep = _
      rw [T1.dep, T2.dep, ← hv]
    · have ilt := List.mem_range.mp (hS.subset hi)
      have rb : r.getD i 0 = oughtI (nss.getD i []) st k := by rw [er]; exact row_at ilt
      have hn : NetM m (nss.getD i []) := h.net _ (by rw [List.getD_eq_getElem?_getD, List.getElem?_eq_getElem ilt]; exact List.getElem_mem _)
      show (if oughtI (nss.getD i []) st k = 0 then ledI (nss.getD i []) t1 else ledI (nss.getD i []) t2) = i
      rcases hn.bit (st := st) hk with e | e
      · rw [if_pos e]
        exact T1.led i (List.mem_filter.mpr ⟨hi, decide_eq_true (by rw [rb, e])⟩)
      · rw [if_neg (by omega)]
        exact T2.led i (List.mem_filter.mpr ⟨hi, decide_eq_true (by rw [rb, e])⟩)
theorem tree_ok (h : NetsOk m nss) (hR : RwS m nss (R, V)) : ∀ (n : Nat) (S : List Nat) (ks : List (List Key)) (ds : List D), 1 ≤ S.length → S.length < n → S.Sublist (List.range nss.length) → lk R S < 99 → KnB nss.length R ks ds →
    ∃ hd t ks' ds', C.r_tree n [tn S, .dit (R.map kt) V, .dit ks ds] = .ok (hd, [none, none, some (.dit ks' ds')]) ∧ IsV hd (Tree.d t) ∧ TrOk m nss R S t ∧ KnB nss.length R ks' ds'
  | 0, S, ks, ds, _, h, _, _, _ => by omega
  | n + 1, S, ks, ds, h1, hn, hS, hl, K => by
    rw [C.r_tree]
    exact tree_step _ h hR hS h1 hl (fun T ks ds h1 hT hs hl K => tree_ok h hR n T ks ds h1 (by omega) hs hl K) K
end
end H

set_option Elab.async false
set_option linter.all false
set_option maxRecDepth 100000
namespace H
open PySem PySem.Spec PyProof.Rows L2 Y
theorem kw87 : kindW "TooMany" = "many" := by decide +kernel
def dueD (v : Nat) : D := if v = 99 then .non else .int (v : Nat)
section
variable {m : Nat} {nss : List (List RuleT)} {R : List (List Int)}
theorem rg_tn {n : Nat} : rgD 0 (n : Int) = (List.range n).map fun k : Nat => D.int (k : Nat) := rgD_nat
theorem fewest_ok (h : NetsOk m nss) (hR : ∀ r, r ∈ R ↔ RowR m nss r) : ∃ hd, C.g_fewest_looks [dNets nss] = .ok hd ∧ IsV hd (dueD (lk R (List.range nss.length))) := by
  have hlo := h.lo
  have hhi := h.hi
  have nd := need_nets_ok h
  obtain ⟨⟨R', V⟩, er, I, hR'⟩ := looks_rows_ok h
  have hs := lk_set (R := R) (R' := R') (fun r => (hR r).trans (hR' r).symm) (List.range nss.length)
  rw [hs]
  obtain ⟨hb, d, ks1, ds1, eb, vb, bb, _⟩ := best_ok (R := R') (V := V) hhi I.ins 40 (List.range nss.length) [] [] (by simp; omega) (by simp; omega) (List.Sublist.refl _) knb_nil
  have bb := (bb.resolve_left fun z => by have := z.1; simp at this; omega).2
  have eb : C.g_best [.tup ((List.range nss.length).map fun k : Nat => D.int (k : Nat)), dRw (R', V), .dit [] []] = _ := eb
  rw [← rg_tn] at eb
  have rb : rgB 0 (nss.length : Nat) = true := rgB_of (by omega)
  have zn : szOk nss.length = true := szOk_of (by omega)
  have nl : nls (rgD 0 (nss.length : Nat)) = true := nls_rg
  have ln : lenD [dNets nss] = .ok (.int nss.length) := by simp
  have nlt : (D.tup (rgD 0 (nss.length : Nat))).nl = true := by unfold D.nl; exact nl
  generalize lk R' (List.range nss.length) = w at *
  generalize hX : dNets nss = X at *
  generalize hN : rgD 0 (nss.length : Nat) = RN at *
  have er : C.g_looks_rows [X] = .ok (.fr (.dit (R'.map kt) V)) := er
  have eb : C.g_best [.tup RN, .dit (R'.map kt) V, .dit [] []] = _ := eb
  generalize R'.map kt = RK at er eb
  simp only [C.g_fewest_looks, C.m_fewest_looks]
  generalize C.g_looks_rows = GR at er ⊢
  generalize C.g_best = GB at eb ⊢
  generalize C.g_need_nets = GN at nd ⊢
  have i2 : ∀ a b : D, atI [a, b] 0 = some a := fun a b => atI_of (j := 0) rfl rfl
  rcases bb with ⟨rfl, rfl⟩ | ⟨r, rfl, _, _, _, hw⟩
  · refine ⟨.fr .non, ?_, .inl rfl⟩
    rcases vb with rfl | rfl <;> simp [e_fnP, nd, er, ln, rb, hN, nl, eb, Y.isNon]
  · refine ⟨.vl (.int (w : Nat)), ?_, .inr (by unfold dueD; rw [if_neg (by omega)])⟩
    rcases vb with rfl | rfl <;> simp [e_fnP, nd, er, ln, rb, hN, nl, eb, Y.isNon, i2]
theorem tree87_ok (h : NetsOk m nss) (hR : ∀ r, r ∈ R ↔ RowR m nss r) : ∃ hd, C.g_look_tree [dNets nss] = .ok hd ∧
    ((lk R (List.range nss.length) = 99 ∧ IsV hd .non) ∨ (lk R (List.range nss.length) ≤ 40 ∧ ∃ t, IsV hd (Tree.d t) ∧ TrOk m nss R (List.range nss.length) t)) := by
  have hlo := h.lo
  have hhi := h.hi
  obtain ⟨hf, ef, vf⟩ := fewest_ok h hR
  rcases lk_cases (R := R) (S := List.range nss.length) with hl | hl
  · obtain ⟨⟨R', V⟩, er, I, hR'⟩ := looks_rows_ok h
    have hs := fun S => lk_set (R := R) (R' := R') (fun r => (hR r).trans (hR' r).symm) S
    obtain ⟨hb, t, ks1, ds1, eb, vb, tb, _⟩ := tree_ok h I 40 (List.range nss.length) [] [] (by simp; omega) (by simp; omega) (List.Sublist.refl _) (by rw [← hs]; omega) knb_nil
    have tb : TrOk m nss R (List.range nss.length) t := ⟨tb.ok, by rw [hs]; exact tb.dep, tb.led⟩
    have eb : C.g_tree [.tup ((List.range nss.length).map fun k : Nat => D.int (k : Nat)), .dit (R'.map kt) V, .dit [] []] = _ := eb
    rw [← rg_tn] at eb
    have rb : rgB 0 (nss.length : Nat) = true := rgB_of (by omega)
    have zn : szOk nss.length = true := szOk_of (by omega)
    have nl : nls (rgD 0 (nss.length : Nat)) = true := nls_rg
    have ln : lenD [dNets nss] = .ok (.int nss.length) := by simp
    have nlt : (D.tup (rgD 0 (nss.length : Nat))).nl = true := by unfold D.nl; exact nl
    have vf : IsV hf (.int (lk R (List.range nss.length) : Nat)) := by
      have : dueD (lk R (List.range nss.length)) = .int (lk R (List.range nss.length) : Nat) := by unfold dueD; rw [if_neg (by omega)]
      rw [← this]; exact vf
    have er : C.g_looks_rows [dNets nss] = .ok (.fr (.dit (R'.map kt) V)) := er
    refine ⟨hb, ?_, .inr ⟨hl, t, vb, tb⟩⟩
    generalize ((lk R (List.range nss.length) : Nat) : Int) = w at vf
    generalize Tree.d t = T at vb
    generalize dNets nss = X at *
    generalize hN : rgD 0 (nss.length : Nat) = RN at *
    generalize R'.map kt = RK at er eb
    simp only [C.g_look_tree, C.m_look_tree]
    generalize C.g_looks_rows = GR at er ⊢
    generalize C.g_tree = GT at eb ⊢
    generalize C.g_fewest_looks = GF at ef ⊢
    rcases vf with rfl | rfl <;> rcases vb with rfl | rfl <;> simp [e_fnP, ef, er, ln, rb, hN, nl, eb, Y.isNon]
  · have vf : IsV hf .non := by
      have : dueD (lk R (List.range nss.length)) = .non := by unfold dueD; rw [if_pos hl]
      rw [← this]; exact vf
    refine ⟨.fr .non, ?_, .inl ⟨hl, .inl rfl⟩⟩
    generalize dNets nss = X at *
    simp only [C.g_look_tree, C.m_look_tree]
    generalize C.g_looks_rows = GR
    generalize C.g_tree = GT
    generalize C.g_fewest_looks = GF at ef ⊢
    rcases vf with rfl | rfl <;> simp [e_fnP, ef, Y.isNon]
theorem asked_0 {X : D} {hd : Hd} {d : D} (e : C.g_fewest_looks [X] = .ok hd) (v : IsV hd d) : ∃ h', C.g__law_asked_13 [.int 0, X] = .ok h' ∧ IsV h' d := by
  refine ⟨hd, ?_, v⟩
  simp only [C.g__law_asked_13, C.m__law_asked_13, C.w__law_asked_13_1]
  generalize C.g_look_tree = GT
  generalize C.g_fewest_looks = GF at e ⊢
  rcases v with rfl | rfl <;> simp [C.h__law_asked_13_1, e_fnP, e]
theorem asked_1 {X : D} {hd : Hd} {d : D} (e : C.g_look_tree [X] = .ok hd) (v : IsV hd d) : ∃ h', C.g__law_asked_13 [.int 1, X] = .ok h' ∧ IsV h' d := by
  refine ⟨hd, ?_, v⟩
  simp only [C.g__law_asked_13, C.m__law_asked_13, C.w__law_asked_13_1]
  generalize C.g_look_tree = GT at e ⊢
  generalize C.g_fewest_looks = GF
  rcases v with rfl | rfl <;> simp [C.h__law_asked_13_1, e_fnP, e]
theorem asked_bad {X : D} (e : C.g_need_nets [X] = .er "TooMany" []) : C.g__law_asked_13 [.int 0, X] = .ok (.fr (.str (Str.ofString "many"))) ∧ C.g__law_asked_13 [.int 1, X] = .ok (.fr (.str (Str.ofString "many"))) := by
  have f : C.g_fewest_looks [X] = .er "TooMany" [] := by
    simp only [C.g_fewest_looks, C.m_fewest_looks]
    generalize C.g_looks_rows = GR
    generalize C.g_best = GB
    generalize C.g_need_nets = GN at e ⊢
    simp [e_fnP, e]
  have t : C.g_look_tree [X] = .er "TooMany" [] := by
    simp only [C.g_look_tree, C.m_look_tree]
    generalize C.g_looks_rows = GR
    generalize C.g_tree = GT
    generalize C.g_fewest_looks = GF at f ⊢
    simp [e_fnP, f]
  simp only [C.g__law_asked_13, C.m__law_asked_13, C.w__law_asked_13_1]
  generalize C.g_look_tree = GT at t ⊢
  generalize C.g_fewest_looks = GF at f ⊢
  constructor <;> simp [C.h__law_asked_13_1, e_fnP, f, t, kw87]
end
end H

set_option Elab.async false
set_option linter.all false
set_option maxRecDepth 100000
namespace H
open PySem PySem.Spec PyProof.Rows L2 Y
theorem bits87 {m : Nat} {st : List Int} (hm : m ≤ 1000) (hs : IsSt m st) : C.g__law_bits_2 [ti st, .int m] = .ok (.fr (.bl true)) := by
  obtain rfl := hs.len
  have c1 := comp_map (tm := tmName 2) (t := cYes) (e := C.e__law_bits_2_1) (vs := [2]) (ws := []) (ρ := [some (ti st), some (.int st.length), none]) D.int (fun _ => D.bl true) st fun x hx => by
    have hb := hs.bit x hx
    have it : inD (.int x) (.tup [.int 0, .int 1]) = .ok (.bl true) := by
      have : x = 0 ∨ x = 1 := by omega
      rcases this with rfl | rfl <;> rfl
    simp only [turnC, C.e__law_bits_2_1]
    simp [it, noDit, Y.isInt, Y.isBl]
  have e1 : (st.map fun _ => D.bl true) = (st.map fun _ => true).map D.bl := by rw [List.map_map]; rfl
  rw [e1] at c1
  have al := d_all (xs := st.map fun _ => true)
  have at' : (st.map fun _ => true).all id = true := by simp
  rw [at'] at al
  have zl : szOk st.length = true := szOk_of (by omega)
  generalize hq : (st.map fun _ => true).map D.bl = Q at c1 al
  have zq : szOk Q.length = true := by rw [← hq]; simpa using zl
  simp only [C.g__law_bits_2, C.m__law_bits_2]
  generalize C.e__law_bits_2_1 = E1 at *
  simp [e_fnP, noDit, Y.isTup, c1, al, zl, zq]
theorem ne_tup0 {x : D} {xs : List D} {n : Nat} (h : Fit n (.tup (x :: xs))) (hn : n ≤ 63 := by omega) : eqD (.tup (x :: xs)) (.tup []) = .ok (.bl false) := by
  have f2 : Fit n (.tup []) := by
    cases n with
    | zero => exact h
    | succ n => exact fun d h => nomatch h
  unfold eqD
  rw [dOk_fit h (by omega), dOk_fit f2 (by omega), eqP_tup]
  simp [eqPs_nil]
theorem fit_up87 : ∀ {n n' : Nat} {d : D}, n ≤ n' → Fit n d → Fit n' d
  | n, n', .non, _, _ => by unfold Fit; trivial
  | n, n', .bl _, _, _ => by unfold Fit; trivial
  | n, n', .int _, _, _ => by unfold Fit; trivial
  | n, n', .str x, _, h => by
    have h : PyData.strOk x = true := by cases n <;> exact h
    cases n' <;> exact h
  | n + 1, n' + 1, .tup ds, hn, h => fun d hd => fit_up87 (by omega) (h d hd)
  | n + 1, n' + 1, .lst ds, hn, h => fun d hd => fit_up87 (by omega) (h d hd)
  | n + 1, n' + 1, .ftu ds, hn, h => fun d hd => fit_up87 (by omega) (h d hd)
  | 0, _, .tup _, _, h => h.elim
  | 0, _, .lst _, _, h => h.elim
  | 0, _, .ftu _, _, h => h.elim
  | n + 1, 0, .tup _, hn, _ => by omega
  | n + 1, 0, .lst _, hn, _ => by omega
  | n + 1, 0, .ftu _, hn, _ => by omega
  | 0, _, .arg _, _, h => h.elim
  | n + 1, _, .arg _, _, h => h.elim
  | 0, _, .dik _ _, _, h => h.elim
  | n + 1, _, .dik _ _, _, h => h.elim
  | 0, _, .dit _ _, _, h => h.elim
  | n + 1, _, .dit _ _, _, h => h.elim
  | 0, _, .tab _ _, _, h => h.elim
  | n + 1, _, .tab _ _, _, h => h.elim
theorem fit_tree : ∀ (t : Tree), Fit (t.dep + 2) t.d
  | .is i => fun d h => by
    simp only [List.mem_cons, List.not_mem_nil, or_false] at h
    rcases h with rfl | rfl
    · exact fit_dt fun x hx => by simp at hx; omega
    · trivial
  | .look st k a b => fun d h => by
    have h1 := fit_tree a
    have h2 := fit_tree b
    simp only [List.mem_cons, List.not_mem_nil, or_false] at h
    rcases h with rfl | rfl | rfl | rfl | rfl
    · exact fit_dt fun x hx => by simp at hx; omega
    · exact fit_ti
    · show Fit (1 + max a.dep b.dep + 1) (.int k)
      exact trivial
    · exact fit_up87 (by show a.dep + 2 ≤ 1 + max a.dep b.dep + 1; omega) h1
    · exact fit_up87 (by show b.dep + 2 ≤ 1 + max a.dep b.dep + 1; omega) h2
theorem tree_no0 {t : Tree} (h : t.dep ≤ 60) : eqD t.d (.tup []) = .ok (.bl false) := by
  have f := fit_tree t
  cases t with
  | is i => exact ne_tup0 f (by omega)
  | look st k a b => exact ne_tup0 f (by omega)
theorem ne_look : neD wLk wLk = .ok (.bl false) := by rw [ne_dt (fun x hx => by simp at hx; omega) (fun x hx => by simp at hx; omega)]; rfl
theorem is_tree_ok {m : Nat} (hm : m ≤ 20) : ∀ (n : Nat) (t : Tree), t.ok m → t.dep < n → t.dep ≤ 60 → ∃ hd, C.r__law_is_tree n [.int m, t.d] = .ok hd ∧ IsV hd (.bl true)
  | 0, t, _, h, _ => by omega
  | n + 1, .is i, _, _, h6 => by
    have e0 := tree_no0 (t := .is i) h6
    have w := law_whole2_ok (i := i)
    refine ⟨.fr (.bl true), ?_, .inl rfl⟩
    have e0 : eqD (.tup [wIs, .int i]) (.tup []) = _ := e0
    simp only [C.r__law_is_tree, C.m__law_is_tree, s_is, s_look, Tree.d]
    generalize C.g__law_bits_2 = GB
    simp [e_fnP, ixD, i2, e_ii, e0, noDit, Y.isTup, w, szOk_of]
  | n + 1, .look st k a b, ht, hn, h6 => by
    obtain ⟨h1, h2, h3, h4⟩ := ht
    have hd : (Tree.look st k a b).dep = 1 + max a.dep b.dep := rfl
    obtain ⟨ha, ea, va⟩ := is_tree_ok hm n a h3 (by omega) (by omega)
    obtain ⟨hb, eb, vb⟩ := is_tree_ok hm n b h4 (by omega) (by omega)
    have e0 := tree_no0 (t := .look st k a b) h6
    have e0 : eqD (.tup [wLk, ti st, .int k, a.d, b.d]) (.tup []) = _ := e0
    have bo := bits87 (m := m) (by omega) h1
    have w := law_whole2_ok (i := (k : Nat))
    have k0 : (0 : Int) ≤ (k : Nat) := by omega
    have k1 : ((k : Nat) : Int) < (m : Nat) := by omega
    refine ⟨hb, ?_, vb⟩
    have nl := ne_look
    simp only [C.r__law_is_tree, C.m__law_is_tree, s_is, s_look, Tree.d]
    generalize C.r__law_is_tree n = G at ea eb ⊢
    generalize Tree.d a = A at *
    generalize Tree.d b = B at *
    generalize ti st = TS at *
    generalize C.g__law_bits_2 = GB at bo ⊢
    generalize C.g__law_whole_2 = GW at w ⊢
    rcases va with rfl | rfl <;> rcases vb with rfl | rfl <;> simp [e_fnP, ixD, i5, e_li, e0, noDit, Y.isTup, w, bo, nl, ea, eb, k1, szOk_of]
theorem need_len {ds : List D} (h : ds.length < 2 ∨ 6 < ds.length) (hz : ds.length ≤ 1000) : C.g_need_nets [.lst ds] = .er "TooMany" [] := by
  have z : szOk ds.length = true := szOk_of (by omega)
  have c : ¬ ((2 : Int) ≤ (ds.length : Nat) ∧ ((ds.length : Nat) : Int) ≤ 6) := by omega
  simp only [C.g_need_nets, C.m_need_nets]
  generalize C.e_need_nets_1 = B
  have hl : lenD [.lst ds] = .ok (.int (ds.length : Nat)) := by simp
  generalize ((ds.length : Nat) : Int) = n at c hl
  by_cases q : (2 : Int) ≤ n
  · have q2 : ¬ n ≤ 6 := fun z => c ⟨q, z⟩
    simp [e_fnP, z, hl, q, q2]
  · simp [e_fnP, z, hl, q]
theorem need_two {A B : List D} (ha : A.length ≤ 100) (hb : B.length ≤ 100) (h : A.length ≠ B.length ∨ 5 < A.length) : C.g_need_nets [.lst [.tup A, .tup B]] = .er "TooMany" [] := by
  have zA : szOk A.length = true := szOk_of (by omega)
  have zB : szOk B.length = true := szOk_of (by omega)
  have q := comp_map (tm := tmName 1) (t := cYes) (e := C.e_need_nets_1) (vs := [1]) (ws := []) (ρ := [some (.lst [.tup A, .tup B]), none]) (fun X : List D => D.tup X) (fun X => D.int (X.length : Nat)) [A, B] (fun X hX => by
    have zX : szOk X.length = true := by
      simp only [List.mem_cons, List.not_mem_nil, or_false] at hX
      rcases hX with rfl | rfl
      · exact zA
      · exact zB
    simp only [turnC, C.e_need_nets_1]
    simp [zX])
  have q : cCompL (tmName 1) cYes C.e_need_nets_1 [1] [] [.tup A, .tup B] [some (.lst [.tup A, .tup B]), none] = .ok ([((A.length : Nat) : Int), ((B.length : Nat) : Int)].map D.int, [some (.lst [.tup A, .tup B]), none]) := q
  have hd : (dedupI [((A.length : Nat) : Int), ((B.length : Nat) : Int)]).length = if A.length = B.length then 1 else 2 := by
    by_cases c : A.length = B.length
    · rw [if_pos c, c]; simp [dedupI]
    · rw [if_neg c]
      have c' : ¬ ((A.length : Nat) : Int) = ((B.length : Nat) : Int) := by omega
      simp [dedupI, c']
  have a0 : atI [D.tup A, D.tup B] 0 = some (.tup A) := atI_of (j := 0) rfl rfl
  have hz2 : szOk 2 = true := szOk_of (by omega)
  simp only [C.g_need_nets, C.m_need_nets]
  generalize C.e_need_nets_1 = E at q ⊢
  generalize hX : [((A.length : Nat) : Int), ((B.length : Nat) : Int)] = X at q hd
  have lX : X.length ≤ 4000 := by rw [← hX]; simp
  by_cases c : A.length = B.length
  · rw [if_pos c] at hd
    have c5 : (5 : Int) < (A.length : Nat) := by
      rcases h with h | h
      · exact absurd c h
      · omega
    simp [e_fnP, hz2, q, lX, hd, ixD, a0, zA, c5]
  · rw [if_neg c] at hd
    simp [e_fnP, hz2, q, lX, hd]
end H

set_option Elab.async false
set_option linter.all false
set_option maxRecDepth 100000
namespace H
open PySem PySem.Spec PyProof.Rows L2 Y
theorem others6_ok {m : Nat} {nss : List (List RuleT)} (h : NetsOk m nss) {n : Int} : ∃ hd d b', C.g__law_others_6 [.lst [.int n], dNets nss] = .ok (hd, [some (.lst [.int b']), none]) ∧ IsV hd d ∧ C.g_need_nets [d] = .er "TooMany" [] := by
  have hlo := h.lo
  have hhi := h.hi
  have hm5 := h.m5
  obtain ⟨ns, b1, e1, l1, h1⟩ := comp_ex (tm := tmName 4) (t := cYes) (e := C.e__law_others_6_1) (vs := [4]) (ws := []) (fun j : Nat => D.int (j : Nat)) dRule (fun c : Int => [some (.lst [.int c]), some (dNets nss), none, none, none]) (RuleOk 6) (List.range 6) n (fun c j hj => by
    obtain ⟨r, c2, er, hr⟩ := rule2_ok (n := c) (m := 6) (by omega) (by omega)
    have er : C.g__law_rule_2 [.lst [.int c], .int 6] = _ := er
    refine ⟨r, c2, ?_, hr, by simp⟩
    simp only [turnC, C.e__law_others_6_1]
    simp [er])
  rw [List.length_range] at l1
  obtain ⟨n0, a0, l0⟩ := head_net h
  have a0 : atI (nss.map dNet) 0 = some (.tup (n0.map dRule)) := a0
  have tk := take2_ok (n := b1) (m := 5) (by omega) (by omega)
  have r6 : rng1D [.int 6] = .ok ((List.range 6).map fun j : Nat => D.int (j : Nat)) := by rw [d_rng1, if_pos (by decide)]; rfl
  have z6 : szOk ((List.range 6).map fun j : Nat => D.int (j : Nat)).length = true := by simp [szOk_of]
  generalize ((List.range 6).map fun j : Nat => D.int (j : Nat)) = L6 at e1 r6 z6
  have lW : (ns.map dRule).length = 6 := by rw [List.length_map]; exact l1
  have lL : (nss.map dNet).length = nss.length := by rw [List.length_map]
  have l00 : (n0.map dRule).length = m := by rw [List.length_map]; exact l0
  obtain ⟨x, hx⟩ : ∃ x : Nat, b1 % 5 = (x : Int) := ⟨(b1 % 5).toNat, by omega⟩
  have hx5 : x < 5 := by omega
  rw [hx] at tk
  have c1 : Y.cutD (nss.map dNet) none (some 1) = (nss.map dNet).take 1 := cut_to (k := 1)
  have t1 : ∃ w, (nss.map dNet).take 1 = [w] ∧ w = .tup (n0.map dRule) := by
    cases hq : nss.map dNet with
    | nil => rw [hq] at lL; simp at lL; omega
    | cons w r =>
      rw [hq] at a0
      have : atI (w :: r) 0 = some w := atI_of (j := 0) rfl rfl
      rw [this] at a0
      cases a0
      exact ⟨_, rfl, rfl⟩
  obtain ⟨w, t1, rfl⟩ := t1
  rw [t1] at c1
  have c7 : ∀ L : List D, Y.cutD L none (some 7) = L.take 7 := fun L => cut_to (k := 7)
  have c3 : ∀ L : List D, Y.cutD L none (some 3) = L.take 3 := fun L => cut_to (k := 3)
  have zz : szOk ((nss.map dNet).length * 7) = true := szOk_of (by omega)
  have mz : (7 : Int) < 2 ^ 20 ∧ -(2 ^ 20) < (7 : Int) ∧ szOk ((nss.map dNet).length * (7 : Int).toNat) = true := ⟨by decide, by decide, zz⟩
  have ml : mulD (.lst (nss.map dNet)) (.int 7) = .ok (.lst (List.replicate 7 (nss.map dNet)).flatten) := by rw [d_mulL, if_pos mz]; rfl
  have lf : ((List.replicate 7 (nss.map dNet)).flatten.take 7).length = 7 := by
    rw [List.length_take, List.length_flatten]
    simp
    omega
  have z1 : szOk (m + 1) = true := szOk_of (by omega)
  have z3 : szOk (3 + 3) = true := szOk_of (by omega)
  have z2 : szOk (1 + 1) = true := szOk_of (by omega)
  have lt3 : ((ns.map dRule).take 3).length = 3 := by rw [List.length_take]; omega
  have key : ∀ (d : D), atI [D.lst [.tup (n0.map dRule)], .lst ((List.replicate 7 (nss.map dNet)).flatten.take 7), .lst [.tup (n0.map dRule), .tup (n0.map dRule ++ [.tup [.tup [], .tup [.int 0]]])], .lst [.tup (ns.map dRule), .tup ((ns.map dRule).take 3 ++ (ns.map dRule).take 3)], .lst []] (x : Int) = some d →
      C.g_need_nets [d] = .er "TooMany" [] := fun d hd => by
    have q5 := i5 (a := D.lst [.tup (n0.map dRule)]) (b := .lst ((List.replicate 7 (nss.map dNet)).flatten.take 7)) (c := .lst [.tup (n0.map dRule), .tup (n0.map dRule ++ [.tup [.tup [], .tup [.int 0]]])]) (d := .lst [.tup (ns.map dRule), .tup ((ns.map dRule).take 3 ++ (ns.map dRule).take 3)]) (e := .lst [])
    have : x = 0 ∨ x = 1 ∨ x = 2 ∨ x = 3 ∨ x = 4 := by omega
    rcases this with rfl | rfl | rfl | rfl | rfl
    · cases hd.symm.trans q5.1
      exact need_len (.inl (by simp)) (by simp)
    · cases hd.symm.trans q5.2.1
      exact need_len (.inr (by rw [lf]; omega)) (by rw [lf]; omega)
    · cases hd.symm.trans q5.2.2.1
      exact need_two (by omega) (by rw [List.length_append, l00]; simp; omega) (.inl (by rw [List.length_append]; simp))
    · cases hd.symm.trans q5.2.2.2.1
      exact need_two (by omega) (by rw [List.length_append, lt3]; omega) (.inr (by omega))
    · cases hd.symm.trans q5.2.2.2.2
      exact need_len (.inl (by simp)) (by simp)
  obtain ⟨d, hd⟩ : ∃ d, atI [D.lst [.tup (n0.map dRule)], .lst ((List.replicate 7 (nss.map dNet)).flatten.take 7), .lst [.tup (n0.map dRule), .tup (n0.map dRule ++ [.tup [.tup [], .tup [.int 0]]])], .lst [.tup (ns.map dRule), .tup ((ns.map dRule).take 3 ++ (ns.map dRule).take 3)], .lst []] (x : Int) = some d := by
    have : x = 0 ∨ x = 1 ∨ x = 2 ∨ x = 3 ∨ x = 4 := by omega
    rcases this with rfl | rfl | rfl | rfl | rfl <;> exact ⟨_, atI_of rfl rfl⟩
  refine ⟨.vl d, d, b1 / 5, ?_, .inr rfl, key d hd⟩
  clear key
  generalize hF : (List.replicate 7 (nss.map dNet)).flatten = F7 at *
  have c7 := c7 F7
  generalize F7.take 7 = F at c7 hd lf
  generalize hW : ns.map dRule = W at *
  have c3 := c3 W
  generalize W.take 3 = W3 at c3 hd lt3
  have e1 : cCompL (tmName 4) cYes C.e__law_others_6_1 [4] [] L6 [some (.lst [.int n]), some (.lst (nss.map dNet)), none, none, none] = .ok (W, [some (.lst [.int b1]), some (.lst (nss.map dNet)), none, none, none]) := e1
  show C.g__law_others_6 [.lst [.int n], .lst (nss.map dNet)] = _
  generalize hL : nss.map dNet = L at *
  generalize hN : n0.map dRule = N0 at *
  simp only [C.g__law_others_6, C.m__law_others_6]
  generalize C.e__law_others_6_1 = B at e1 ⊢
  simp [e_fnD, r6, z6, e1, c1, ml, c7, ixD, a0, l00, z1, c3, lt3, z3, z2, lf, tk, hd, lW, szOk_of]
theorem lk_small {R : List (List Int)} {S : List Nat} (h : S.length ≤ 6) : lk R S ≤ 6 ∨ lk R S = 99 := by
  unfold lk
  rw [lst_stable 40 6 S (by omega) h]
  exact lst_cases 6 S
theorem s_many87 : Str.ofString "many" = tx [109, 97, 110, 121] := by decide +kernel
theorem ne_many87 : neD (.str (Str.ofString "many")) (.str (Str.ofString "many")) = .ok (.bl false) := by
  rw [s_many87]
  exact (ne_dt (a := [109, 97, 110, 121]) (b := [109, 97, 110, 121]) (fun x hx => by simp at hx; omega) (fun x hx => by simp at hx; omega)).trans (by simp)
theorem shown_yes {m : Nat} {nss : List (List RuleT)} {R : List (List Int)} {t : Tree} (h : TrOk m nss R (List.range nss.length) t) : shownD nss t = .int (t.dep : Nat) := by
  unfold shownD shownB
  rw [if_pos (List.all_eq_true.mpr fun i hi => decide_eq_true (h.led i hi))]
section
variable {ns : List Int} {k n m : Nat} {b b1 b2 v : Int} {L : List D} {RD TD : D} {hd ha hb hi : Hd} {os : Y.Env} {n0 : List RuleT}
set_option maxHeartbeats 2000000 in
theorem turn87 (hbox : C.g__law_box_2 [.arg ns, .int k] = .ok (.fr (.lst [.int b]))) (hn : C.g__law_nets [.lst [.int b]] = .ok (.fr (.lst L), [some (.lst [.int b1])]))
    (tk : C.g__law_take_2 [.lst [.int b1], .int 8] = .ok (.vl (.int (b1 % 8)), [some (.lst [.int b2]), none])) (c : ¬ b1 % 8 = 1) (eR : C.g__law_rows [.lst L] = .ok (.fr RD))
    (el : C.g__law_least_3 [RD, .lst (rgD 0 (n : Int)), .dit [] []] = .ok (hd, os)) (vl : IsV hd (.int v)) (ln : lenD [.lst L] = .ok (.int n)) (rb : rgB 0 (n : Int) = true)
    (ea : C.g__law_asked_13 [.int 0, .lst L] = .ok ha) (va : IsV ha (.int v)) (eb : C.g__law_asked_13 [.int 1, .lst L] = .ok hb) (vb : IsV hb TD) (c90 : ¬ (90 : Int) < v)
    (w : C.g__law_whole_2 [.int v] = .ok (.fr (.bl true))) (nw : neD (.int v) (.int v) = .ok (.bl false)) (a0 : atI L 0 = some (dNet n0)) (l0 : n0.length = m) (zm : szOk m = true)
    (ei : C.g__law_is_tree [.int m, TD] = .ok hi) (vi : IsV hi (.bl true)) (es : C.g__law_shown [.lst L, TD] = .ok (.fr (.int v))) :
    turnF (tmName 1) C.b_law_k87_1 [1, 2, 3, 4, 5, 6] (.int (k : Nat)) [some (.arg ns), none, none, none, none, none, none] = .ok (.nx, [some (.arg ns), none, none, none, none, none, none]) := by
  simp only [turnF, C.b_law_k87_1]
  generalize C.g__law_asked_13 = GA at ea eb ⊢
  generalize C.g__law_others_6 = GO
  generalize C.g__law_least_3 = GL at el ⊢
  generalize C.g__law_rows = GR at eR ⊢
  generalize C.g__law_is_tree = GI at ei ⊢
  generalize C.g__law_shown = GS at es ⊢
  generalize C.g__law_whole_2 = GW at w ⊢
  have ln2 : ((L.length : Nat) : Int) = (n : Nat) := by
    have : lenD [.lst L] = .ok (.int (L.length : Nat)) := by simp
    rw [this] at ln
    cases ln
    rfl
  rcases vl with rfl | rfl <;> rcases va with rfl | rfl <;> rcases vb with rfl | rfl <;> rcases vi with rfl | rfl <;> simp [hbox, hn, tk, c, eR, ln2, rb, el, ea, eb, c90, w, nw, ixD, a0, l0, zm, ei, es, shAt]
set_option maxHeartbeats 2000000 in
theorem turn87n (hbox : C.g__law_box_2 [.arg ns, .int k] = .ok (.fr (.lst [.int b]))) (hn : C.g__law_nets [.lst [.int b]] = .ok (.fr (.lst L), [some (.lst [.int b1])]))
    (tk : C.g__law_take_2 [.lst [.int b1], .int 8] = .ok (.vl (.int (b1 % 8)), [some (.lst [.int b2]), none])) (c : ¬ b1 % 8 = 1) (eR : C.g__law_rows [.lst L] = .ok (.fr RD))
    (el : C.g__law_least_3 [RD, .lst (rgD 0 (n : Int)), .dit [] []] = .ok (hd, os)) (vl : IsV hd (.int v)) (ln : lenD [.lst L] = .ok (.int n)) (rb : rgB 0 (n : Int) = true)
    (ea : C.g__law_asked_13 [.int 0, .lst L] = .ok ha) (va : IsV ha .non) (eb : C.g__law_asked_13 [.int 1, .lst L] = .ok hb) (vb : IsV hb .non) (c90 : (90 : Int) < v) :
    turnF (tmName 1) C.b_law_k87_1 [1, 2, 3, 4, 5, 6] (.int (k : Nat)) [some (.arg ns), none, none, none, none, none, none] = .ok (.nx, [some (.arg ns), none, none, none, none, none, none]) := by
  simp only [turnF, C.b_law_k87_1]
  generalize C.g__law_asked_13 = GA at ea eb ⊢
  generalize C.g__law_others_6 = GO
  generalize C.g__law_least_3 = GL at el ⊢
  generalize C.g__law_rows = GR at eR ⊢
  generalize C.g__law_is_tree = GI
  generalize C.g__law_shown = GS
  generalize C.g__law_whole_2 = GW
  have ln2 : ((L.length : Nat) : Int) = (n : Nat) := by
    have : lenD [.lst L] = .ok (.int (L.length : Nat)) := by simp
    rw [this] at ln
    cases ln
    rfl
  rcases vl with rfl | rfl <;> rcases va with rfl | rfl <;> rcases vb with rfl | rfl <;> simp [hbox, hn, tk, c, eR, ln2, rb, el, ea, eb, c90, Y.isNon, shAt]
end
theorem good_k87 : Good C.g_law_k87 63 := fun ns hl hb => by
  obtain ⟨M, hM⟩ : ∃ M : Nat, max (1 : Int) (min (ns.length : Int) 3) = M := ⟨(max (1 : Int) (min (ns.length : Int) 3)).toNat, by omega⟩
  have hM4 : M ≤ 3 := by omega
  obtain ⟨ρ', h, hρ⟩ := for_inv (tm := tmName 1) (body := C.b_law_k87_1) (vs := [1, 2, 3, 4, 5, 6]) (ws := []) (fun k : Nat => D.int (k : Nat)) (fun ρ => ρ = [some (.arg ns), none, none, none, none, none, none]) (List.range M) _ rfl fun ρ k hρ hk => by
    subst hρ
    have hk := List.mem_range.mp hk
    obtain ⟨b, hbox⟩ := box2_ok (ns := ns) (k := k) (by omega)
    obtain ⟨m, nss, b1, hn, ok⟩ := nets_ok (n := b)
    have hhi := ok.hi
    have hlo := ok.lo
    have hm5 := ok.m5
    have tk := take2_ok (n := b1) (m := 8) (by omega) (by omega)
    refine ⟨_, ?_, rfl, by simp⟩
    by_cases c : b1 % 8 = 1
    · obtain ⟨hd, d, b2, eo, vo, nd⟩ := others6_ok ok (n := b1 / 8)
      obtain ⟨a0, a1⟩ := asked_bad nd
      have nm := ne_many87
      rw [c] at tk
      generalize dNets nss = NS at *
      simp only [turnF, C.b_law_k87_1]
      generalize C.g__law_asked_13 = GA at a0 a1 ⊢
      generalize C.g__law_others_6 = GO at eo ⊢
      rcases vo with rfl | rfl <;> simp [hbox, hn, tk, eo, a0, a1, nm, shAt]
    · obtain ⟨R, eR, iR, mR⟩ := law_rows_ok ok
      obtain ⟨hd, ks1, ds1, el, vl, _, _⟩ := least_ok hhi iR 40 (List.range nss.length) [] [] (by simp; omega) (List.Sublist.refl _) knl_nil
      have el : C.g__law_least_3 [.lst (R.map li), .lst ((List.range nss.length).map fun k : Nat => D.int (k : Nat)), .dit [] []] = _ := el
      rw [← rg_tn] at el
      obtain ⟨hf, ef, vf⟩ := fewest_ok ok mR
      obtain ⟨ht, et, vt⟩ := tree87_ok ok mR
      obtain ⟨ha, ea, va⟩ := asked_0 ef vf
      have rb : rgB 0 (nss.length : Nat) = true := rgB_of (by omega)
      have zn : szOk nss.length = true := szOk_of (by omega)
      have ln : lenD [dNets nss] = .ok (.int nss.length) := by simp
      obtain ⟨n0, a0, l0⟩ := head_net ok
      rcases lk_small (R := R) (S := List.range nss.length) (by simp; omega) with hs | hs
      · obtain ⟨_, t, vt, T⟩ := vt.resolve_left fun z => by omega
        obtain ⟨hb1, eb1, vb1⟩ := asked_1 et vt
        have hdep := T.dep
        obtain ⟨hi, ei, vi⟩ := is_tree_ok (m := m) (by omega) 40 t T.ok (by omega) (by omega)
        have ei : C.g__law_is_tree [.int m, t.d] = _ := ei
        have es := law_shown_ok ok T.ok (by omega)
        rw [shown_yes T, hdep] at es
        have va : IsV ha (.int (lk R (List.range nss.length) : Nat)) := by
          have : dueD (lk R (List.range nss.length)) = .int (lk R (List.range nss.length) : Nat) := by unfold dueD; rw [if_neg (by omega)]
          rw [← this]; exact va
        have w := law_whole2_ok (i := (lk R (List.range nss.length) : Nat))
        have c90 : ¬ (90 : Int) < (lk R (List.range nss.length) : Nat) := by omega
        have nw : neD (.int (lk R (List.range nss.length) : Nat)) (.int (lk R (List.range nss.length) : Nat)) = .ok (.bl false) := neD_refl (n := 0) (by unfold Fit; trivial)
        have zm : szOk m = true := szOk_of (by omega)
        have hn : C.g__law_nets [.lst [.int b]] = .ok (.fr (.lst (nss.map dNet)), [some (.lst [.int b1])]) := hn
        have eR : C.g__law_rows [.lst (nss.map dNet)] = _ := eR
        have ea : C.g__law_asked_13 [.int 0, .lst (nss.map dNet)] = _ := ea
        have eb1 : C.g__law_asked_13 [.int 1, .lst (nss.map dNet)] = _ := eb1
        have es : C.g__law_shown [.lst (nss.map dNet), t.d] = _ := es
        have ln : lenD [.lst (nss.map dNet)] = .ok (.int nss.length) := ln
        exact turn87 hbox hn tk c eR el vl ln rb ea va eb1 vb1 c90 w nw a0 l0 zm ei vi es
      · have vt : IsV ht .non := by
          rcases vt with ⟨_, z⟩ | ⟨z, _⟩
          · exact z
          · omega
        obtain ⟨hb1, eb1, vb1⟩ := asked_1 et vt
        have va : IsV ha .non := by
          have : dueD (lk R (List.range nss.length)) = .non := by unfold dueD; rw [if_pos hs]
          rw [← this]; exact va
        have c90 : (90 : Int) < (lk R (List.range nss.length) : Nat) := by omega
        have hn : C.g__law_nets [.lst [.int b]] = .ok (.fr (.lst (nss.map dNet)), [some (.lst [.int b1])]) := hn
        have eR : C.g__law_rows [.lst (nss.map dNet)] = _ := eR
        have ea : C.g__law_asked_13 [.int 0, .lst (nss.map dNet)] = _ := ea
        have eb1 : C.g__law_asked_13 [.int 1, .lst (nss.map dNet)] = _ := eb1
        have ln : lenD [.lst (nss.map dNet)] = .ok (.int nss.length) := ln
        exact turn87n hbox hn tk c eR el vl ln rb ea va eb1 vb1 c90
  subst hρ
  have rM : rngOk M = true := rngOk_of (by omega) (by omega)
  have zM : szOk M = true := szOk_of (by omega)
  refine ⟨.fr (.bl true), ?_, .inl rfl⟩
  simp only [C.g_law_k87, C.m_law_k87]
  simp [e_fnP, hM, rM, zM, h]
end H

set_option Elab.async false
set_option linter.all false
set_option maxRecDepth 100000
namespace K87
open PySem PySem.Spec PyProof.Rows L2 Y
def top (i : Nat) : Stmt := PySem.Challenge.pw_switchnets_k87_fewest_looks.main.body.getD i (.Pass ⟨0, 0, 0, 0⟩)
abbrev s_stands_of : Stmt := top 15
theorem sc_stands_of : FnScope ["many", "found", "k", "stand"] ["many"] (defScope s_stands_of) := ⟨rfl, rfl, rfl, by decide +kernel, rfl, by decide +kernel, by decide +kernel⟩
abbrev s_place_of : Stmt := top 16
theorem sc_place_of : FnScope ["bits", "place", "bit"] ["bits"] (defScope s_place_of) := ⟨rfl, rfl, rfl, by decide +kernel, rfl, by decide +kernel, by decide +kernel⟩
abbrev s_ought : Stmt := top 17
theorem sc_ought : FnScope ["net", "stand", "k", "ears", "table", "ear"] ["net", "stand", "k"] (defScope s_ought) := ⟨rfl, rfl, rfl, by decide +kernel, rfl, by decide +kernel, by decide +kernel⟩
abbrev s_need_nets : Stmt := top 21
theorem sc_need_nets : FnScope ["nets", "net"] ["nets"] (defScope s_need_nets) := ⟨rfl, rfl, rfl, by decide +kernel, rfl, by decide +kernel, by decide +kernel⟩
abbrev s_init : Stmt := (clsBody (top 22)).getD 0 (.Pass ⟨0, 0, 0, 0⟩)
theorem sc_init : FnScope ["self", "nets", "stand", "switch", "row", "net"] ["self", "nets"] (defScope s_init) := ⟨rfl, rfl, rfl, by decide +kernel, rfl, by decide +kernel, by decide +kernel⟩
theorem nd_init : (["nets", "%r", "stand", "switch", "row", "net", "self"] : List Str).Nodup := by decide +kernel
abbrev s_parted : Stmt := (clsBody (top 22)).getD 1 (.Pass ⟨0, 0, 0, 0⟩)
theorem sc_parted : FnScope ["self", "some", "row", "low", "high", "net"] ["self", "some", "row"] (defScope s_parted) := ⟨rfl, rfl, rfl, by decide +kernel, rfl, by decide +kernel, by decide +kernel⟩
theorem nd_parted : (["some", "row", "low", "high", "net", "self"] : List Str).Nodup := by decide +kernel
abbrev s_best : Stmt := (clsBody (top 22)).getD 2 (.Pass ⟨0, 0, 0, 0⟩)
theorem sc_best : FnScope ["self", "some", "found", "row", "low", "high", "sides"] ["self", "some"] (defScope s_best) := ⟨rfl, rfl, rfl, by decide +kernel, rfl, by decide +kernel, by decide +kernel⟩
theorem nd_best : (["some", "%r", "%k", "found", "row", "low", "high", "sides", "self"] : List Str).Nodup := by decide +kernel
abbrev s_tree : Stmt := (clsBody (top 22)).getD 3 (.Pass ⟨0, 0, 0, 0⟩)
theorem sc_tree : FnScope ["self", "some", "row", "low", "high", "stand", "switch"] ["self", "some"] (defScope s_tree) := ⟨rfl, rfl, rfl, by decide +kernel, rfl, by decide +kernel, by decide +kernel⟩
theorem nd_tree : (["some", "%r", "%k", "row", "low", "high", "stand", "switch", "self"] : List Str).Nodup := by decide +kernel
abbrev s_fewest_looks : Stmt := top 23
theorem sc_fewest_looks : FnScope ["nets", "found"] ["nets"] (defScope s_fewest_looks) := ⟨rfl, rfl, rfl, by decide +kernel, rfl, by decide +kernel, by decide +kernel⟩
abbrev s_look_tree : Stmt := top 24
theorem sc_look_tree : FnScope ["nets"] ["nets"] (defScope s_look_tree) := ⟨rfl, rfl, rfl, by decide +kernel, rfl, by decide +kernel, by decide +kernel⟩
abbrev s__law_cell : Stmt := top 26
theorem sc__law_cell : FnScope ["script", "k"] ["script", "k"] (defScope s__law_cell) := ⟨rfl, rfl, rfl, by decide +kernel, rfl, by decide +kernel, by decide +kernel⟩
abbrev s__law_box : Stmt := top 27
theorem sc__law_box : FnScope ["script", "k", "cell", "number", "mixed", "j"] ["script", "k"] (defScope s__law_box) := ⟨rfl, rfl, rfl, by decide +kernel, rfl, by decide +kernel, by decide +kernel⟩
abbrev s__law_take : Stmt := top 28
theorem sc__law_take : FnScope ["box", "many", "digit"] ["box", "many"] (defScope s__law_take) := ⟨rfl, rfl, rfl, by decide +kernel, rfl, by decide +kernel, by decide +kernel⟩
abbrev s__law_readings : Stmt := top 29
theorem sc__law_readings : FnScope ["many", "found", "k", "row"] ["many"] (defScope s__law_readings) := ⟨rfl, rfl, rfl, by decide +kernel, rfl, by decide +kernel, by decide +kernel⟩
abbrev s__law_rule : Stmt := top 30
theorem sc__law_rule : FnScope ["box", "many", "left", "ears", "k", "rows", "way", "signs", "least", "table", "ear", "row"] ["box", "many"] (defScope s__law_rule) := ⟨rfl, rfl, rfl, by decide +kernel, rfl, by decide +kernel, by decide +kernel⟩
abbrev s__law_told : Stmt := top 31
theorem sc__law_told : FnScope ["net", "stand", "k", "ears", "table", "place", "ear"] ["net", "stand", "k"] (defScope s__law_told) := ⟨rfl, rfl, rfl, by decide +kernel, rfl, by decide +kernel, by decide +kernel⟩
abbrev s__law_bits : Stmt := top 32
theorem sc__law_bits : FnScope ["thing", "many", "one"] ["thing", "many"] (defScope s__law_bits) := ⟨rfl, rfl, rfl, by decide +kernel, rfl, by decide +kernel, by decide +kernel⟩
abbrev s__law_whole : Stmt := top 33
theorem sc__law_whole : FnScope ["thing"] ["thing"] (defScope s__law_whole) := ⟨rfl, rfl, rfl, by decide +kernel, rfl, by decide +kernel, by decide +kernel⟩
abbrev s__law_nets : Stmt := top 34
theorem sc__law_nets : FnScope ["box", "many", "found", "turn", "net", "k"] ["box"] (defScope s__law_nets) := ⟨rfl, rfl, rfl, by decide +kernel, rfl, by decide +kernel, by decide +kernel⟩
abbrev s__law_rows : Stmt := top 35
theorem sc__law_rows : FnScope ["nets", "found", "stand", "k", "row", "net"] ["nets"] (defScope s__law_rows) := ⟨rfl, rfl, rfl, by decide +kernel, rfl, by decide +kernel, by decide +kernel⟩
abbrev s__law_least : Stmt := top 36
theorem sc__law_least : FnScope ["rows", "some", "known", "key", "row", "low", "high", "both", "i"] ["rows", "some", "known"] (defScope s__law_least) := ⟨rfl, rfl, rfl, by decide +kernel, rfl, by decide +kernel, by decide +kernel⟩
abbrev s__law_is_tree : Stmt := top 37
theorem sc__law_is_tree : FnScope ["many", "tree"] ["many", "tree"] (defScope s__law_is_tree) := ⟨rfl, rfl, rfl, by decide +kernel, rfl, by decide +kernel, by decide +kernel⟩
abbrev s__law_depth : Stmt := top 38
theorem sc__law_depth : FnScope ["tree"] ["tree"] (defScope s__law_depth) := ⟨rfl, rfl, rfl, by decide +kernel, rfl, by decide +kernel, by decide +kernel⟩
abbrev s__law_shown : Stmt := top 39
theorem sc__law_shown : FnScope ["nets", "tree", "i", "here"] ["nets", "tree"] (defScope s__law_shown) := ⟨rfl, rfl, rfl, by decide +kernel, rfl, by decide +kernel, by decide +kernel⟩
abbrev s__law_kind : Stmt := top 40
theorem sc__law_kind : FnScope ["e", "kinds", "words", "kind"] ["e"] (defScope s__law_kind) := ⟨rfl, rfl, rfl, by decide +kernel, rfl, by decide +kernel, by decide +kernel⟩
abbrev s__law_asked : Stmt := top 41
theorem sc__law_asked : FnScope ["way", "nets", "e"] ["way", "nets"] (defScope s__law_asked) := ⟨rfl, rfl, rfl, by decide +kernel, rfl, by decide +kernel, by decide +kernel⟩
abbrev s__law_others : Stmt := top 42
theorem sc__law_others : FnScope ["box", "nets", "wide", "some", "k"] ["box", "nets"] (defScope s__law_others) := ⟨rfl, rfl, rfl, by decide +kernel, rfl, by decide +kernel, by decide +kernel⟩
abbrev s_law : Stmt := top 43
theorem sc_law : FnScope ["script", "turn", "box", "nets", "due", "found", "tree"] ["script"] (defScope s_law) := ⟨rfl, rfl, rfl, by decide +kernel, rfl, by decide +kernel, by decide +kernel⟩
structure TxtL (K : PySem.W.Frag) (mg : Str → Option Value) (CL : Addr) : Prop where
  i_Looks : IDef K mg "Looks" CL "Looks.__init__" s_init
  m_parted : MDef K CL "parted" "Looks.parted" s_parted
  m_best : MDef K CL "best" "Looks.best" s_best
  m_tree : MDef K CL "tree" "Looks.tree" s_tree
structure Txt (K : PySem.W.Frag) (mg : Str → Option Value) : Prop where
  d_stands_of : Def K mg "stands_of" s_stands_of
  d_place_of : Def K mg "place_of" s_place_of
  d_ought : Def K mg "ought" s_ought
  d_need_nets : Def K mg "need_nets" s_need_nets
  d_fewest_looks : Def K mg "fewest_looks" s_fewest_looks
  d_look_tree : Def K mg "look_tree" s_look_tree
  d__law_cell : Def K mg "_law_cell" s__law_cell
  d__law_box : Def K mg "_law_box" s__law_box
  d__law_take : Def K mg "_law_take" s__law_take
  d__law_readings : Def K mg "_law_readings" s__law_readings
  d__law_rule : Def K mg "_law_rule" s__law_rule
  d__law_told : Def K mg "_law_told" s__law_told
  d__law_bits : Def K mg "_law_bits" s__law_bits
  d__law_whole : Def K mg "_law_whole" s__law_whole
  d__law_nets : Def K mg "_law_nets" s__law_nets
  d__law_rows : Def K mg "_law_rows" s__law_rows
  d__law_least : Def K mg "_law_least" s__law_least
  d__law_is_tree : Def K mg "_law_is_tree" s__law_is_tree
  d__law_depth : Def K mg "_law_depth" s__law_depth
  d__law_shown : Def K mg "_law_shown" s__law_shown
  d__law_kind : Def K mg "_law_kind" s__law_kind
  d__law_asked : Def K mg "_law_asked" s__law_asked
  d__law_others : Def K mg "_law_others" s__law_others
  k_MOST_NETS : ∃ t, mg "MOST_NETS" = some (.int 6 t)
  k_MOST_SWITCHES : ∃ t, mg "MOST_SWITCHES" = some (.int 5 t)
  e_TooMany : ErrT K mg "TooMany"
  z_ValueError : mg "ValueError" = none
  z_all : mg "all" = none
  z_bool : mg "bool" = none
  z_int : mg "int" = none
  z_isinstance : mg "isinstance" = none
  z_len : mg "len" = none
  z_list : mg "list" = none
  z_max : mg "max" = none
  z_min : mg "min" = none
  z_range : mg "range" = none
  z_set : mg "set" = none
  z_sorted : mg "sorted" = none
  z_sum : mg "sum" = none
  z_tuple : mg "tuple" = none
  cat__law_asked_1 : CatF K mg ["TooMany"] "NetError"
  zz__law_asked_1 : ∀ c ∈ (["TooMany"] : List Str), ErrZ K mg c
  cat_zkind : CatF K mg ["TooMany"] "NetError"
  zz_zkind : ∀ c ∈ (["TooMany"] : List Str), ErrZ K mg c
  v_zkind : IsV K mg ["TooMany"]
  is_zkind_Hears : IsF K mg ["TooMany"] "Hears" (isErr "Hears")
  is_zkind_NoDen : IsF K mg ["TooMany"] "NoDen" (isErr "NoDen")
  is_zkind_NoFrame : IsF K mg ["TooMany"] "NoFrame" (isErr "NoFrame")
  is_zkind_NoHolds : IsF K mg ["TooMany"] "NoHolds" (isErr "NoHolds")
  is_zkind_NoOrder : IsF K mg ["TooMany"] "NoOrder" (isErr "NoOrder")
  is_zkind_NoRow : IsF K mg ["TooMany"] "NoRow" (isErr "NoRow")
  is_zkind_NoRule : IsF K mg ["TooMany"] "NoRule" (isErr "NoRule")
  is_zkind_NoSeen : IsF K mg ["TooMany"] "NoSeen" (isErr "NoSeen")
  is_zkind_NoStand : IsF K mg ["TooMany"] "NoStand" (isErr "NoStand")
  is_zkind_NoSwitch : IsF K mg ["TooMany"] "NoSwitch" (isErr "NoSwitch")
  is_zkind_NoText : IsF K mg ["TooMany"] "NoText" (isErr "NoText")
  is_zkind_TooMany : IsF K mg ["TooMany"] "TooMany" (isErr "TooMany")
  looks : ∃ CL, TxtL K mg CL
section
variable {P : Program} {w : World} {K : PySem.W.Frag} {mg : Str → Option Value} {base : Heap}
theorem ok_stands_of (T : Txt K mg) : Glo P w K mg base "stands_of" 1 1 [] (pureF C.g_stands_of) :=
  (glo_mk (O := []) (Oc := []) (W := []) (U := []) T.d_stands_of sc_stands_of (fun f cdv A outer s H E P0 hr => (cs_cons (cs_asg (ce_lst (ca_cons (ce_tup ca_nil) ca_nil)) (cg_name 1 sc_stands_of.nd))
    (cs_cons (cs_for (U' := []) (vs := [2]) (passes_of rfl) rfl (ci_range1 T.z_range (ca_cons (ce_var 0) ca_nil)) (cg_name 2 sc_stands_of.nd) (cs_one (cs_asg (ce_bin od_add (ce_comp rfl sc_stands_of.nd (ci_any (ce_var 1)) (blkOk_by (own := [("stand", 3)]) (by kernel_rfl)) (fun P0 s H C cl fp => (cg_name 3 sc_stands_of.nd)) (fun s H C cl fp => cts_nil) (fun P0 s H C cl fp => (ce_bin od_add (ce_tup (ca_cons ce_int ca_nil)) (ce_var 3)))) (ce_comp rfl sc_stands_of.nd (ci_any (ce_var 1)) (blkOk_by (own := [("stand", 3)]) (by kernel_rfl)) (fun P0 s H C cl fp => (cg_name 3 sc_stands_of.nd)) (fun s H C cl fp => cts_nil) (fun P0 s H C cl fp => (ce_bin od_add (ce_tup (ca_cons ce_int ca_nil)) (ce_var 3))))) (cg_name 1 sc_stands_of.nd))))
    (cs_one (cs_ret (ce_var 1)))))) (fun _ _ _ _ _ _ us hl => match us, hl with | [_], _ => rfl)).pure
theorem ok_place_of (T : Txt K mg) : Glo P w K mg base "place_of" 1 1 [] (pureF C.g_place_of) :=
  (glo_mk (O := []) (Oc := []) (W := []) (U := []) T.d_place_of sc_place_of (fun f cdv A outer s H E P0 hr => (cs_cons (cs_asg ce_int (cg_name 1 sc_place_of.nd))
    (cs_cons (cs_for (U' := []) (vs := [2]) (passes_of rfl) rfl (ci_any (ce_var 0)) (cg_name 2 sc_place_of.nd) (cs_one (cs_asg (ce_bin od_add (ce_bin od_mul ce_int (ce_var 1)) (ce_var 2)) (cg_name 1 sc_place_of.nd))))
    (cs_one (cs_ret (ce_var 1)))))) (fun _ _ _ _ _ _ us hl => match us, hl with | [_], _ => rfl)).pure
theorem ok_ought (T : Txt K mg) : Glo P w K mg base "ought" 2 3 [] (pureF C.g_ought) :=
  (glo_mk (O := []) (Oc := []) (W := []) (U := []) T.d_ought sc_ought (fun f cdv A outer s H E P0 hr => (cs_cons (cs_asg (ce_ix (ce_var 0) (ce_var 2)) (cg_tup [3, 4] rfl (cgs_cons 3 sc_ought.nd (cgs_cons 4 sc_ought.nd cgs_nil))))
    (cs_one (cs_ret (ce_ix (ce_var 4) (ce_call (ok_place_of T) out2_body (hr.mono (by decide)) (ca_cons (ce_comp rfl sc_ought.nd (ci_any (ce_var 3)) (blkOk_by (own := [("ear", 5)]) (by kernel_rfl)) (fun P0 s H C cl fp => (cg_name 5 sc_ought.nd)) (fun s H C cl fp => cts_nil) (fun P0 s H C cl fp => (ce_ix (ce_var 1) (ce_var 5)))) ca_nil) (alen_cons alen_nil))))))) (fun _ _ _ _ _ _ us hl => match us, hl with | [_, _, _], _ => rfl)).pure
theorem ok_need_nets (T : Txt K mg) : Glo P w K mg base "need_nets" 1 1 [] (pureF C.g_need_nets) :=
  (glo_mk (O := []) (Oc := []) (W := []) (U := []) T.d_need_nets sc_need_nets (fun f cdv A outer s H E P0 hr => (cs_one (cs_if (ct_w (cw_or (ct_not (ct_chain od_le od_le ce_int (ce_callB cd_len T.z_len bo_len (ca_cons (ce_var 0) ca_nil)) (ce_globI T.k_MOST_NETS))) (cw_or (ct_cmp od_gt (ce_lenSet rfl T.z_len T.z_set (ce_comp rfl sc_need_nets.nd (ci_any (ce_var 0)) (blkOk_by (own := [("net", 1)]) (by kernel_rfl)) (fun P0 s H C cl fp => (cg_name 1 sc_need_nets.nd)) (fun s H C cl fp => cts_nil) (fun P0 s H C cl fp => (ce_callB cd_len T.z_len bo_len (ca_cons (ce_var 1) ca_nil))))) ce_int) (cw_or1 (ct_cmp od_gt (ce_callB cd_len T.z_len bo_len (ca_cons (ce_ix (ce_var 0) ce_int) ca_nil)) (ce_globI T.k_MOST_SWITCHES)))))) (cs_one (cs_raise T.e_TooMany rfl (L2N.takes_of rfl rfl rfl rfl))) cs_nil))) (fun _ _ _ _ _ _ us hl => match us, hl with | [_], _ => rfl)).pure
section
variable {CL : Addr}
theorem ok_init (T : Txt K mg) (Z : TxtL K mg CL) : LooksC P w K mg base "Looks" CL 3 C.g_looks_rows :=
  looks_mk ["nets", "%r", "stand", "switch", "row", "net", "self"] 6 Z.i_Looks sc_init (fun cdv A outer s H E P0 f hr c a dx q =>
    have st : Stb (InG 6 CL a dx q) 1 [1, 6] := InG.stb
    have sf : isS (cxOf (L2N.CX P w) P w K mg base ["nets", "%r", "stand", "switch", "row", "net", "self"] "Looks.__init__" (defScope s_init) f cdv A outer s H E) 6 := ⟨rfl, .inl rfl⟩
    (gs_for st (vs := [2, 3, 4]) (passes_of rfl) rfl (gi_of (ci_any (ce_call (ok_stands_of T) out2_body (hr.mono (by decide)) (ca_cons (ce_callB cd_len T.z_len bo_len (ca_cons (ce_ix (ce_var 0) ce_int) ca_nil)) ca_nil) (alen_cons alen_nil)))) (cg_name 2 nd_init)
      (gs_one (gs_for st (vs := [3, 4]) (passes_of rfl) rfl (gi_of (ci_range1 T.z_range (ca_cons (ce_callB cd_len T.z_len bo_len (ca_cons (ce_ix (ce_var 0) ce_int) ca_nil)) ca_nil))) (cg_name 3 nd_init)
        (gs_cons st (gs_asg (ge_of (ce_callT cd_tuple T.z_tuple bo_tuple (ca_cons (ce_comp rfl nd_init (ci_any (ce_var 0)) (blkOk_by (own := [("net", 5)]) (by kernel_rfl)) (fun P0 s H C cl fp => (cg_name 5 nd_init)) (fun s H C cl fp => cts_nil) (fun P0 s H C cl fp => (ce_call (ok_ought T) Out2.blk (hr.mono (by decide)) (ca_cons (ce_var 5) (ca_cons (ce_var 2) (ca_cons (ce_var 3) ca_nil))) (alen_cons (alen_cons (alen_cons alen_nil)))))) ca_nil))) (cg_name 4 nd_init))
          (gs_one (gs_expr (ge_setdI (Nat.lt_of_le_of_lt (Nat.add_le_add_left (by decide) _) hr.units65) c sf (ce_var 4) (ce_tup (ca_cons (ce_var 2) (ca_cons (ce_var 3) ca_nil))))))))))) (fun _ _ _ _ _ _ us hl => match us, hl with | [_, _], _ => rfl) rfl
theorem ok_parted (T : Txt K mg) (Z : TxtL K mg CL) : GloP P w K mg base CL "parted" 1 2 C.g_parted :=
  glop_mk ["some", "row", "low", "high", "net", "self"] 5 Z.m_parted sc_parted (fun cdv A outer s H E P0 f hr => (cs_cons (cs_asg (ce_callT cd_tuple T.z_tuple bo_tuple (ca_cons (ce_comp rfl nd_parted (ci_any (ce_var 0)) (blkOk_by (own := [("net", 4)]) (by kernel_rfl)) (fun P0 s H C cl fp => (cg_name 4 nd_parted)) (fun s H C cl fp => (cts_one fun P0 => (ct_cmp (od_eq hr.units) (ce_ix (ce_var 1) (ce_var 4)) ce_int))) (fun P0 s H C cl fp => (ce_var 4))) ca_nil)) (cg_name 2 nd_parted))
    (cs_cons (cs_asg (ce_callT cd_tuple T.z_tuple bo_tuple (ca_cons (ce_comp rfl nd_parted (ci_any (ce_var 0)) (blkOk_by (own := [("net", 4)]) (by kernel_rfl)) (fun P0 s H C cl fp => (cg_name 4 nd_parted)) (fun s H C cl fp => (cts_one fun P0 => (ct_cmp (od_eq hr.units) (ce_ix (ce_var 1) (ce_var 4)) ce_int))) (fun P0 s H C cl fp => (ce_var 4))) ca_nil)) (cg_name 3 nd_parted))
    (cs_one (cs_ret (ce_tup (ca_cons (ce_var 2) (ca_cons (ce_var 3) ca_nil)))))))) (fun _ _ _ _ _ _ us hl => match us, hl with | [_, _, _], _ => rfl)
theorem okr_best (T : Txt K mg) (Z : TxtL K mg CL) : ∀ n : Nat, GloM P w K mg base CL "best" (2 + n) (C.r_best n)
  | 0 => glom_mk (k := 1) (n := 8) (U := [1, 2, 8]) ["some", "%r", "%k", "found", "row", "low", "high", "sides", "self"] 8 Z.m_best sc_best (fun cdv A outer s H E P0 f hr a dx r kn fs od kvs c => PSs.imp cs_stk fun D σ H q => q.2) (fun _ _ _ _ _ _ us hl => match us, hl with | [_, _], _ => rfl)
  | n + 1 => have IH := okr_best T Z n; glom_mk (k := 2 + n) (n := 8) (U := [1, 2, 8]) ["some", "%r", "%k", "found", "row", "low", "high", "sides", "self"] 8 Z.m_best sc_best (fun cdv A outer s H E P0 f hr a dx r kn fs od kvs c =>
    have st : Stb (LkG 8 1 2 CL a dx r kn fs od kvs) 2 [1, 2, 8] := c.stb
    have sf : isS (cxOf (L2N.CX P w) P w K mg base ["some", "%r", "%k", "found", "row", "low", "high", "sides", "self"] "Looks.best" (defScope s_best) f cdv A outer s H E) 8 := ⟨rfl, .inl rfl⟩
    (gs_cons st (gs_if st (gt_of (ct_cmp (od_eq hr.units) (ce_callB cd_len T.z_len bo_len (ca_cons (ce_var 0) ca_nil)) ce_int)) (gs_one (gs_ret (ge_of (ce_tup (ca_cons ce_int (ca_cons ce_non ca_nil)))))))
    (gs_cons st (gs_if st (gt_dnin st (Nat.lt_of_le_of_lt (Nat.add_le_add_left (by decide) _) hr.units65) (ge_of (ce_var 0)) (ge_known c sf)) (gs_cons st (gs_asg (ge_of ce_non) (cg_name 3 nd_best))
    (gs_cons st (gs_for st (vs := [4, 5, 6, 7]) (passes_of rfl) rfl (gi_rows (by decide) c sf) (cg_name 4 nd_best) (gs_cons st (gs_asg (ge_callP c sf (ok_parted T Z) c.lp out2_body (hr.mono (by omega)) (ca_cons (ce_var 0) (ca_cons (ce_var 4) ca_nil)) (alen_cons (alen_cons alen_nil))) (cg_tup [5, 6] rfl (cgs_cons 5 nd_best (cgs_cons 6 nd_best cgs_nil))))
    (gs_one (gs_if st (gt_of (ct_w (cw_and (ct_cmp (od_ne hr.units) (ce_var 5) (ce_tup ca_nil)) (cw_and1 (ct_cmp (od_ne hr.units) (ce_var 6) (ce_tup ca_nil)))))) (gs_cons st (gs_asg (ge_lst (ga_cons st (ge_callM c sf st (by decide) IH c.lb out2_body hr (ge_of (ce_var 5))) (ga_cons st (ge_callM c sf st (by decide) IH c.lb out2_body hr (ge_of (ce_var 6))) ga_nil))) (cg_name 7 nd_best))
    (gs_one (gs_if st (gt_of (ct_w (cw_and (ct_cmp (od_nin hr.units65) ce_non (ce_var 7)) (cw_and1 (ct_w (cw_or (ct_cmp od_is (ce_var 3) ce_non) (cw_or1 (ct_cmp od_lt (ce_bin od_add ce_int (ce_callB (cd_max rfl) T.z_max bo_max (ca_cons (ce_ix (ce_ix (ce_var 7) ce_int) ce_int) (ca_cons (ce_ix (ce_ix (ce_var 7) ce_int) ce_int) ca_nil)))) (ce_ix (ce_var 3) ce_int))))))))) (gs_one (gs_asg (ge_of (ce_tup (ca_cons (ce_bin od_add ce_int (ce_callB (cd_max rfl) T.z_max bo_max (ca_cons (ce_ix (ce_ix (ce_var 7) ce_int) ce_int) (ca_cons (ce_ix (ce_ix (ce_var 7) ce_int) ce_int) ca_nil)))) (ca_cons (ce_var 4) ca_nil)))) (cg_name 3 nd_best))))))))))
    (gs_one (gs_dput st c sf (Nat.lt_of_le_of_lt (Nat.add_le_add_left (by decide) _) hr.units65) (ge_of (ce_var 3)) (ge_of (ce_var 0)))))))
    (gs_one (gs_ret (ge_dget st (Nat.lt_of_le_of_lt (Nat.add_le_add_left (by decide) _) hr.units65) (ge_known c sf) (ge_of (ce_var 0)))))))) (fun _ _ _ _ _ _ us hl => match us, hl with | [_, _], _ => rfl)
theorem ok_best (T : Txt K mg) (Z : TxtL K mg CL) : GloM P w K mg base CL "best" 42 C.g_best := okr_best T Z 40
theorem okr_tree (T : Txt K mg) (Z : TxtL K mg CL) : ∀ n : Nat, GloM P w K mg base CL "tree" (43 + n) (C.r_tree n)
  | 0 => glom_mk (k := 42) (n := 8) (U := [1, 2, 8]) ["some", "%r", "%k", "row", "low", "high", "stand", "switch", "self"] 8 Z.m_tree sc_tree (fun cdv A outer s H E P0 f hr a dx r kn fs od kvs c => PSs.imp cs_stk fun D σ H q => q.2) (fun _ _ _ _ _ _ us hl => match us, hl with | [_, _], _ => rfl)
  | n + 1 => have IH := okr_tree T Z n; glom_mk (k := 43 + n) (n := 8) (U := [1, 2, 8]) ["some", "%r", "%k", "row", "low", "high", "stand", "switch", "self"] 8 Z.m_tree sc_tree (fun cdv A outer s H E P0 f hr a dx r kn fs od kvs c =>
    have st : Stb (LkG 8 1 2 CL a dx r kn fs od kvs) 2 [1, 2, 8] := c.stb
    have sf : isS (cxOf (L2N.CX P w) P w K mg base ["some", "%r", "%k", "row", "low", "high", "stand", "switch", "self"] "Looks.tree" (defScope s_tree) f cdv A outer s H E) 8 := ⟨rfl, .inl rfl⟩
    (gs_cons st (gs_if st (gt_of (ct_cmp (od_eq hr.units) (ce_callB cd_len T.z_len bo_len (ca_cons (ce_var 0) ca_nil)) ce_int)) (gs_one (gs_ret (ge_of (ce_tup (ca_cons ce_str (ca_cons (ce_ix (ce_var 0) ce_int) ca_nil)))))))
    (gs_cons st (gs_asg (ge_ix st (ge_callM c sf st (by decide) (ok_best T Z) c.lb out2_body (hr.mono (by omega)) (ge_of (ce_var 0))) (ge_of ce_int)) (cg_name 3 nd_tree))
    (gs_cons st (gs_asg (ge_callP c sf (ok_parted T Z) c.lp out2_body (hr.mono (by omega)) (ca_cons (ce_var 0) (ca_cons (ce_var 3) ca_nil)) (alen_cons (alen_cons alen_nil))) (cg_tup [4, 5] rfl (cgs_cons 4 nd_tree (cgs_cons 5 nd_tree cgs_nil))))
    (gs_cons st (gs_asg (ge_dget st (Nat.lt_of_le_of_lt (Nat.add_le_add_left (by decide) _) hr.units65) (ge_rows (by decide) c sf) (ge_of (ce_var 3))) (cg_tup [6, 7] rfl (cgs_cons 6 nd_tree (cgs_cons 7 nd_tree cgs_nil))))
    (gs_one (gs_ret (ge_tup (ga_cons st (ge_of ce_str) (ga_cons st (ge_of (ce_var 6)) (ga_cons st (ge_of (ce_var 7)) (ga_cons st (ge_callM c sf st (by decide) IH c.lt out2_body hr (ge_of (ce_var 4))) (ga_cons st (ge_callM c sf st (by decide) IH c.lt out2_body hr (ge_of (ce_var 5))) ga_nil))))))))))))) (fun _ _ _ _ _ _ us hl => match us, hl with | [_, _], _ => rfl)
theorem ok_tree (T : Txt K mg) (Z : TxtL K mg CL) : GloM P w K mg base CL "tree" 83 C.g_tree := okr_tree T Z 40
end

theorem ok_fewest_looks (T : Txt K mg) : Glo P w K mg base "fewest_looks" 43 1 [] (pureF C.g_fewest_looks) := let ⟨CL, Z⟩ := T.looks
  (glo_mk (O := []) (Oc := []) (W := []) (U := []) T.d_fewest_looks sc_fewest_looks (fun f cdv A outer s H E P0 hr => (cs_cons (cs_expr (ce_call (ok_need_nets T) out2_body (hr.mono (by decide)) (ca_cons (ce_var 0) ca_nil) (alen_cons alen_nil)))
    (cs_cons (cs_asg (ce_looks (ok_init T Z) (ok_best T Z) out2_body (hr.mono (by decide)) (hr.mono (by decide)) (ce_var 0) (ce_trg1 rfl T.z_tuple T.z_range (ce_callB cd_len T.z_len bo_len (ca_cons (ce_var 0) ca_nil)))) (cg_name 1 sc_fewest_looks.nd))
    (cs_cons (cs_if (ct_cmp od_is (ce_var 1) ce_non) (cs_one (cs_ret ce_non)) cs_nil)
    (cs_one (cs_ret (ce_ix (ce_var 1) ce_int))))))) (fun _ _ _ _ _ _ us hl => match us, hl with | [_], _ => rfl)).pure
theorem ok_look_tree (T : Txt K mg) : Glo P w K mg base "look_tree" 84 1 [] (pureF C.g_look_tree) := let ⟨CL, Z⟩ := T.looks
  (glo_mk (O := []) (Oc := []) (W := []) (U := []) T.d_look_tree sc_look_tree (fun f cdv A outer s H E P0 hr => (cs_cons (cs_if (ct_cmp od_is (ce_call (ok_fewest_looks T) out2_body (hr.mono (by decide)) (ca_cons (ce_var 0) ca_nil) (alen_cons alen_nil)) ce_non) (cs_one (cs_ret ce_non)) cs_nil)
    (cs_one (cs_ret (ce_looks (ok_init T Z) (ok_tree T Z) out2_body (hr.mono (by decide)) (hr.mono (by decide)) (ce_var 0) (ce_trg1 rfl T.z_tuple T.z_range (ce_callB cd_len T.z_len bo_len (ca_cons (ce_var 0) ca_nil)))))))) (fun _ _ _ _ _ _ us hl => match us, hl with | [_], _ => rfl)).pure
theorem ok__law_cell (T : Txt K mg) : Glo P w K mg base "_law_cell" 1 2 [] (pureF C.g__law_cell) :=
  (glo_mk (O := []) (Oc := []) (W := []) (U := []) T.d__law_cell sc__law_cell (fun f cdv A outer s H E P0 hr => (cs_cons (cs_if (ct_cmp od_lt (ce_var 1) (ce_callB cd_len T.z_len bo_len (ca_cons (ce_var 0) ca_nil))) (cs_one (cs_ret (ce_ix (ce_var 0) (ce_var 1)))) cs_nil)
    (cs_one (cs_ret (ce_bin od_add (ce_bin od_mul ce_int (ce_var 1)) ce_int))))) (fun _ _ _ _ _ _ us hl => match us, hl with | [_, _], _ => rfl)).pure
theorem ok__law_box (T : Txt K mg) : Glo P w K mg base "_law_box" 2 2 [] (pureF C.g__law_box_2) :=
  (glo_mk (O := []) (Oc := []) (W := []) (U := []) T.d__law_box sc__law_box (fun f cdv A outer s H E P0 hr => (cs_cons (cs_asg (ce_call (ok__law_cell T) out2_body (hr.mono (by decide)) (ca_cons (ce_var 0) (ca_cons (ce_var 1) ca_nil)) (alen_cons (alen_cons alen_nil))) (cg_name 2 sc__law_box.nd))
    (cs_cons (cs_if (ct_cmp (od_eq hr.units) (ce_bin od_mod (ce_var 2) ce_int) ce_int) (cs_one (cs_ret (ce_lst (ca_cons (ce_bin od_fdiv (ce_var 2) ce_int) ca_nil)))) cs_nil)
    (cs_cons (cs_asg ce_int (cg_name 3 sc__law_box.nd))
    (cs_cons (cs_asg (ce_bin od_mod (ce_var 2) ce_int) (cg_name 4 sc__law_box.nd))
    (cs_cons (cs_for (U' := []) (vs := [5]) (passes_of rfl) rfl (ci_range1 T.z_range (ca_cons ce_int ca_nil)) (cg_name 5 sc__law_box.nd) (cs_cons (cs_asg (ce_bin od_mod (ce_bin od_add (ce_bin od_add (ce_bin od_add (ce_bin od_mul (ce_var 4) ce_int) (ce_bin od_mul (ce_bin od_mul ce_int (ce_var 5)) (ce_var 5))) (ce_bin od_mul ce_int (ce_var 1))) ce_int) ce_int) (cg_name 4 sc__law_box.nd))
    (cs_one (cs_asg (ce_bin od_add (ce_bin od_mul (ce_var 3) ce_int) (ce_var 4)) (cg_name 3 sc__law_box.nd)))))
    (cs_one (cs_ret (ce_lst (ca_cons (ce_var 3) ca_nil)))))))))) (fun _ _ _ _ _ _ us hl => match us, hl with | [_, _], _ => rfl)).pure
theorem ok__law_take (T : Txt K mg) : Glo P w K mg base "_law_take" 1 2 [0] C.g__law_take_2 :=
  (glo_mk (O := [0]) (Oc := [0]) (W := []) (U := [0]) T.d__law_take sc__law_take (fun f cdv A outer s H E P0 hr => (cs_cons (cs_asg (ce_bin od_mod (ce_ix (ce_own 0) ce_int) (ce_var 1)) (cg_name 2 sc__law_take.nd))
    (cs_cons (cs_setix (i := 0) (ce_bin od_fdiv (ce_ix (ce_own 0) ce_int) (ce_var 1)) ce_int)
    (cs_one (cs_ret (ce_var 2)))))) (fun _ _ _ _ _ _ us hl => match us, hl with | [_, _], _ => rfl))
theorem ok__law_readings (T : Txt K mg) : Glo P w K mg base "_law_readings" 1 1 [] (pureF C.g__law_readings) :=
  (glo_mk (O := []) (Oc := []) (W := []) (U := []) T.d__law_readings sc__law_readings (fun f cdv A outer s H E P0 hr => (cs_cons (cs_asg (ce_lst (ca_cons (ce_tup ca_nil) ca_nil)) (cg_name 1 sc__law_readings.nd))
    (cs_cons (cs_for (U' := []) (vs := [2]) (passes_of rfl) rfl (ci_range1 T.z_range (ca_cons (ce_var 0) ca_nil)) (cg_name 2 sc__law_readings.nd) (cs_one (cs_asg (ce_bin od_add (ce_comp rfl sc__law_readings.nd (ci_any (ce_var 1)) (blkOk_by (own := [("row", 3)]) (by kernel_rfl)) (fun P0 s H C cl fp => (cg_name 3 sc__law_readings.nd)) (fun s H C cl fp => cts_nil) (fun P0 s H C cl fp => (ce_bin od_add (ce_var 3) (ce_tup (ca_cons ce_int ca_nil))))) (ce_comp rfl sc__law_readings.nd (ci_any (ce_var 1)) (blkOk_by (own := [("row", 3)]) (by kernel_rfl)) (fun P0 s H C cl fp => (cg_name 3 sc__law_readings.nd)) (fun s H C cl fp => cts_nil) (fun P0 s H C cl fp => (ce_bin od_add (ce_var 3) (ce_tup (ca_cons ce_int ca_nil)))))) (cg_name 1 sc__law_readings.nd))))
    (cs_one (cs_ret (ce_callB cd_sort T.z_sorted bo_sorted (ca_cons (ce_var 1) ca_nil))))))) (fun _ _ _ _ _ _ us hl => match us, hl with | [_], _ => rfl)).pure
theorem ok__law_rule (T : Txt K mg) : Glo P w K mg base "_law_rule" 2 2 [0] C.g__law_rule_2 :=
  (glo_mk (O := [0]) (Oc := [0, 2, 3]) (W := [0, 2]) (U := [0]) T.d__law_rule sc__law_rule (fun f cdv A outer s H E P0 hr => (cs_cons (cs_own (i := 2) sc__law_rule.nd (ce_lrg1 rfl T.z_list T.z_range (ce_var 1)))
    (cs_cons (cs_own (i := 3) sc__law_rule.nd (ce_lst ca_nil))
    (cs_cons (cs_for (U' := [0]) (vs := []) (passes_of rfl) rfl (ci_range1 T.z_range (ca_cons (ce_callB (cd_min rfl) T.z_min bo_min (ca_cons (ce_callIO (ok__law_take T) [(0, 0)] out2_body (hr.mono (by decide)) (ca_cons (ce_own 0) (ca_cons ce_int ca_nil)) (alen_cons (alen_cons alen_nil))) (ca_cons (ce_var 1) ca_nil))) ca_nil)) (cg_name 4 sc__law_rule.nd) (cs_one (cs_append (i := 3) (ce_popAt (i := 2) (ce_callIO (ok__law_take T) [(0, 0)] out2_body (hr.mono (by decide)) (ca_cons (ce_own 0) (ca_cons (ce_callB cd_len T.z_len bo_len (ca_cons (ce_own 2) ca_nil)) ca_nil)) (alen_cons (alen_cons alen_nil)))))))
    (cs_cons (cs_asg (ce_call (ok__law_readings T) out2_body (hr.mono (by decide)) (ca_cons (ce_callB cd_len T.z_len bo_len (ca_cons (ce_own 3) ca_nil)) ca_nil) (alen_cons alen_nil)) (cg_name 5 sc__law_rule.nd))
    (cs_cons (cs_asg (ce_callIO (ok__law_take T) [(0, 0)] out2_body (hr.mono (by decide)) (ca_cons (ce_own 0) (ca_cons ce_int ca_nil)) (alen_cons (alen_cons alen_nil))) (cg_name 6 sc__law_rule.nd))
    (cs_cons (cs_if (ct_cmp (od_eq hr.units) (ce_var 6) ce_int) (cs_one (cs_ret (ce_tup (ca_cons (ce_callT cd_tuple T.z_tuple bo_tuple (ca_cons (ce_callB cd_sort T.z_sorted bo_sorted (ca_cons (ce_own 3) ca_nil)) ca_nil)) (ca_cons (ce_callT cd_tuple T.z_tuple bo_tuple (ca_cons (ce_comp rfl sc__law_rule.nd (ci_any (ce_var 5)) (blkOk_by (own := [("row", 11)]) (by kernel_rfl)) (fun P0 s H C cl fp => (cg_name 11 sc__law_rule.nd)) (fun s H C cl fp => cts_nil) (fun P0 s H C cl fp => (ce_callIO (ok__law_take T) [(0, 0)] Out2.blk (hr.mono (by decide)) (ca_cons (ce_own 0) (ca_cons ce_int ca_nil)) (alen_cons (alen_cons alen_nil))))) ca_nil)) ca_nil))))) cs_nil)
    (cs_cons (cs_asg (ce_comp rfl sc__law_rule.nd (ci_any (ce_own 3)) (blkOk_by (own := [("ear", 10)]) (by kernel_rfl)) (fun P0 s H C cl fp => (cg_name 10 sc__law_rule.nd)) (fun s H C cl fp => cts_nil) (fun P0 s H C cl fp => ce_int)) (cg_name 7 sc__law_rule.nd))
    (cs_cons (cs_if (ct_cmp (od_eq hr.units) (ce_var 6) ce_int) (cs_one (cs_asg (ce_comp rfl sc__law_rule.nd (ci_any (ce_own 3)) (blkOk_by (own := [("ear", 10)]) (by kernel_rfl)) (fun P0 s H C cl fp => (cg_name 10 sc__law_rule.nd)) (fun s H C cl fp => cts_nil) (fun P0 s H C cl fp => (ce_callIO (ok__law_take T) [(0, 0)] Out2.blk (hr.mono (by decide)) (ca_cons (ce_own 0) (ca_cons ce_int ca_nil)) (alen_cons (alen_cons alen_nil))))) (cg_name 7 sc__law_rule.nd))) cs_nil)
    (cs_cons (cs_asg (ce_callIO (ok__law_take T) [(0, 0)] out2_body (hr.mono (by decide)) (ca_cons (ce_own 0) (ca_cons (ce_bin od_add (ce_callB cd_len T.z_len bo_len (ca_cons (ce_own 3) ca_nil)) ce_int) ca_nil)) (alen_cons (alen_cons alen_nil))) (cg_name 8 sc__law_rule.nd))
    (cs_cons (cs_asgLc (i := 9) rfl sc__law_rule.nd rfl rfl (sw_true rfl rfl rfl (by decide +kernel)) (ci_any (ce_var 5)) (blkOk_by (own := [("row", 11)]) (by kernel_rfl)) (fun P0 s H C cl fp => (cg_name 11 sc__law_rule.nd)) (fun s H C cl fp => cts_nil) (fun P0 s H C cl fp => (ce_callT cd_int T.z_int bo_int (ca_cons (ce_cmp od_ge (ce_callB cd_len T.z_len bo_len (ca_cons (ce_comp rfl sc__law_rule.nd (ci_range1 T.z_range (ca_cons (ce_callB cd_len T.z_len bo_len (ca_cons (ce_own 3) ca_nil)) ca_nil)) (blkOk_by (own := [("k", 4)]) (by kernel_rfl)) (fun P0 s H C cl fp => (cg_name 4 sc__law_rule.nd)) (fun s H C cl fp => (cts_one fun P0 => (ct_cmp (od_eq hr.units) (ce_ix (ce_var 11) (ce_var 4)) (ce_ix (ce_var 7) (ce_var 4))))) (fun P0 s H C cl fp => (ce_var 4))) ca_nil)) (ce_var 8)) ca_nil))))
    (cs_one (cs_ret (ce_tup (ca_cons (ce_callT cd_tuple T.z_tuple bo_tuple (ca_cons (ce_callB cd_sort T.z_sorted bo_sorted (ca_cons (ce_own 3) ca_nil)) ca_nil)) (ca_cons (ce_callT cd_tuple T.z_tuple bo_tuple (ca_cons (ce_var 9) ca_nil)) ca_nil)))))))))))))))) (fun _ _ _ _ _ _ us hl => match us, hl with | [_, _], _ => rfl))
theorem ok__law_told (T : Txt K mg) : Glo P w K mg base "_law_told" 1 3 [] (pureF C.g__law_told) :=
  (glo_mk (O := []) (Oc := []) (W := []) (U := []) T.d__law_told sc__law_told (fun f cdv A outer s H E P0 hr => (cs_cons (cs_asg (ce_ix (ce_var 0) (ce_var 2)) (cg_tup [3, 4] rfl (cgs_cons 3 sc__law_told.nd (cgs_cons 4 sc__law_told.nd cgs_nil))))
    (cs_cons (cs_asg ce_int (cg_name 5 sc__law_told.nd))
    (cs_cons (cs_for (U' := []) (vs := [6]) (passes_of rfl) rfl (ci_any (ce_var 3)) (cg_name 6 sc__law_told.nd) (cs_one (cs_asg (ce_bin od_add (ce_bin od_mul ce_int (ce_var 5)) (ce_ix (ce_var 1) (ce_var 6))) (cg_name 5 sc__law_told.nd))))
    (cs_one (cs_ret (ce_ix (ce_var 4) (ce_var 5)))))))) (fun _ _ _ _ _ _ us hl => match us, hl with | [_, _, _], _ => rfl)).pure
theorem ok__law_bits (T : Txt K mg) : Glo P w K mg base "_law_bits" 1 2 [] (pureF C.g__law_bits_2) :=
  (glo_mk (O := []) (Oc := []) (W := []) (U := []) T.d__law_bits sc__law_bits (fun f cdv A outer s H E P0 hr => (cs_cons (cs_if (ct_w (cw_or (ct_not (ct_val (ce_isi isk_tuple T.z_isinstance T.z_tuple (ce_var 0) bo_isinstance bo_tuple))) (cw_or1 (ct_cmp (od_ne hr.units) (ce_callB cd_len T.z_len bo_len (ca_cons (ce_var 0) ca_nil)) (ce_var 1))))) (cs_one (cs_ret ce_bl)) cs_nil)
    (cs_one (cs_ret (ce_callB (cd_all rfl) T.z_all bo_all (ca_cons (ce_comp rfl sc__law_bits.nd (ci_any (ce_var 0)) (blkOk_by (own := [("one", 2)]) (by kernel_rfl)) (fun P0 s H C cl fp => (cg_name 2 sc__law_bits.nd)) (fun s H C cl fp => cts_nil) (fun P0 s H C cl fp => (ce_and (ce_isi isk_int T.z_isinstance T.z_int (ce_var 2) bo_isinstance bo_int) (ce_and (ce_not (ce_isi isk_bool T.z_isinstance T.z_bool (ce_var 2) bo_isinstance bo_bool)) (ce_one (ce_cmp (od_in hr.units65) (ce_var 2) (ce_tup (ca_cons ce_int (ca_cons ce_int ca_nil))))))))) ca_nil)))))) (fun _ _ _ _ _ _ us hl => match us, hl with | [_, _], _ => rfl)).pure
theorem ok__law_whole (T : Txt K mg) : Glo P w K mg base "_law_whole" 1 1 [] (pureF C.g__law_whole_2) :=
  (glo_mk (O := []) (Oc := []) (W := []) (U := []) T.d__law_whole sc__law_whole (fun f cdv A outer s H E P0 hr => (cs_one (cs_ret (ce_and (ce_isi isk_int T.z_isinstance T.z_int (ce_var 0) bo_isinstance bo_int) (ce_one (ce_not (ce_isi isk_bool T.z_isinstance T.z_bool (ce_var 0) bo_isinstance bo_bool))))))) (fun _ _ _ _ _ _ us hl => match us, hl with | [_], _ => rfl)).pure
theorem ok__law_nets (T : Txt K mg) : Glo P w K mg base "_law_nets" 3 1 [0] C.g__law_nets :=
  (glo_mk (O := [0]) (Oc := [0, 2]) (W := [0]) (U := [0]) T.d__law_nets sc__law_nets (fun f cdv A outer s H E P0 hr => (cs_cons (cs_asg (ce_bin od_add ce_int (ce_callIO (ok__law_take T) [(0, 0)] out2_body (hr.mono (by decide)) (ca_cons (ce_own 0) (ca_cons ce_int ca_nil)) (alen_cons (alen_cons alen_nil)))) (cg_name 1 sc__law_nets.nd))
    (cs_cons (cs_own (i := 2) sc__law_nets.nd (ce_lst ca_nil))
    (cs_cons (cs_for (U' := [0]) (vs := [3, 4, 5]) (passes_of rfl) rfl (ci_range1 T.z_range (ca_cons (ce_bin od_add ce_int (ce_callIO (ok__law_take T) [(0, 0)] out2_body (hr.mono (by decide)) (ca_cons (ce_own 0) (ca_cons ce_int ca_nil)) (alen_cons (alen_cons alen_nil)))) ca_nil)) (cg_name 3 sc__law_nets.nd) (cs_cons (cs_asg (ce_callT cd_tuple T.z_tuple bo_tuple (ca_cons (ce_comp rfl sc__law_nets.nd (ci_range1 T.z_range (ca_cons (ce_var 1) ca_nil)) (blkOk_by (own := [("k", 5)]) (by kernel_rfl)) (fun P0 s H C cl fp => (cg_name 5 sc__law_nets.nd)) (fun s H C cl fp => cts_nil) (fun P0 s H C cl fp => (ce_callIO (ok__law_rule T) [(0, 0)] Out2.blk (hr.mono (by decide)) (ca_cons (ce_own 0) (ca_cons (ce_var 1) ca_nil)) (alen_cons (alen_cons alen_nil))))) ca_nil)) (cg_name 4 sc__law_nets.nd))
    (cs_cons (cs_if (ct_w (cw_and (ct_cmp (od_ne hr.units) (ce_own 2) (ce_lst ca_nil)) (cw_and1 (ct_cmp od_gt (ce_callIO (ok__law_take T) [(0, 0)] out2_body (hr.mono (by decide)) (ca_cons (ce_own 0) (ca_cons ce_int ca_nil)) (alen_cons (alen_cons alen_nil))) ce_int)))) (cs_cons (cs_asg (ce_callIO (ok__law_take T) [(0, 0)] out2_body (hr.mono (by decide)) (ca_cons (ce_own 0) (ca_cons (ce_var 1) ca_nil)) (alen_cons (alen_cons alen_nil))) (cg_name 5 sc__law_nets.nd))
    (cs_one (cs_asg (ce_bin od_add (ce_bin od_add (ce_slice (ce_ix (ce_own 2) (ce_neg ce_int)) co_none (co_some (ce_var 5))) (ce_tup (ca_cons (ce_ix (ce_var 4) (ce_var 5)) ca_nil))) (ce_slice (ce_ix (ce_own 2) (ce_neg ce_int)) (co_some (ce_bin od_add (ce_var 5) ce_int)) co_none)) (cg_name 4 sc__law_nets.nd)))) cs_nil)
    (cs_one (cs_append (i := 2) (ce_var 4))))))
    (cs_one (cs_ret (ce_own 2))))))) (fun _ _ _ _ _ _ us hl => match us, hl with | [_], _ => rfl))
theorem ok__law_rows (T : Txt K mg) : Glo P w K mg base "_law_rows" 2 1 [] (pureF C.g__law_rows) :=
  (glo_mk (O := []) (Oc := [1]) (W := []) (U := []) T.d__law_rows sc__law_rows (fun f cdv A outer s H E P0 hr => (cs_cons (cs_own (i := 1) sc__law_rows.nd (ce_lst ca_nil))
    (cs_cons (cs_for (U' := []) (vs := [2, 3, 4]) (passes_of rfl) rfl (ci_any (ce_call (ok__law_readings T) out2_body (hr.mono (by decide)) (ca_cons (ce_callB cd_len T.z_len bo_len (ca_cons (ce_ix (ce_var 0) ce_int) ca_nil)) ca_nil) (alen_cons alen_nil))) (cg_name 2 sc__law_rows.nd) (cs_one (cs_for (U' := []) (vs := [3, 4]) (passes_of rfl) rfl (ci_range1 T.z_range (ca_cons (ce_callB cd_len T.z_len bo_len (ca_cons (ce_ix (ce_var 0) ce_int) ca_nil)) ca_nil)) (cg_name 3 sc__law_rows.nd) (cs_cons (cs_asgLc (i := 4) rfl sc__law_rows.nd rfl rfl (sw_true rfl rfl rfl (by decide +kernel)) (ci_any (ce_var 0)) (blkOk_by (own := [("net", 5)]) (by kernel_rfl)) (fun P0 s H C cl fp => (cg_name 5 sc__law_rows.nd)) (fun s H C cl fp => cts_nil) (fun P0 s H C cl fp => (ce_call (ok__law_told T) Out2.blk (hr.mono (by decide)) (ca_cons (ce_var 5) (ca_cons (ce_var 2) (ca_cons (ce_var 3) ca_nil))) (alen_cons (alen_cons (alen_cons alen_nil))))))
    (cs_one (cs_if (ct_cmp (od_nin hr.units65) (ce_var 4) (ce_own 1)) (cs_one (cs_append (i := 1) (ce_var 4))) cs_nil))))))
    (cs_one (cs_ret (ce_own 1)))))) (fun _ _ _ _ _ _ us hl => match us, hl with | [_], _ => rfl)).pure
theorem okr__law_least (T : Txt K mg) : ∀ n : Nat, Glo P w K mg base "_law_least" (1 + n) 3 [2] (C.r__law_least_3 n)
  | 0 => (glo_mk (k := 0) (O := [2]) (Oc := [2]) (W := [2]) (U := [2]) T.d__law_least sc__law_least (fun f cdv A outer s H E P0 hr => cs_stk) (fun _ _ _ _ _ _ us hl => match us, hl with | [_, _, _], _ => rfl))
  | n + 1 => have IH := okr__law_least T n; (glo_mk (k := 1 + n) (O := [2]) (Oc := [2]) (W := [2]) (U := [2]) T.d__law_least sc__law_least (fun f cdv A outer s H E P0 hr => (cs_cons (cs_asg (ce_callT cd_tuple T.z_tuple bo_tuple (ca_cons (ce_var 1) ca_nil)) (cg_name 3 sc__law_least.nd))
    (cs_cons (cs_if (ct_cmp od_lt (ce_callB cd_len T.z_len bo_len (ca_cons (ce_var 1) ca_nil)) ce_int) (cs_one (cs_ret ce_int)) cs_nil)
    (cs_cons (cs_if (ct_dnin (Nat.lt_of_le_of_lt (Nat.add_le_add_left (by decide) _) hr.units65) (ce_var 3) (ce_own 2)) (cs_cons (cs_dput (i := 2) (Nat.lt_of_le_of_lt (Nat.add_le_add_left (by decide) _) hr.units65) ce_int (ce_var 3))
    (cs_one (cs_for (U' := [2]) (vs := [4, 5, 6, 7]) (passes_of rfl) rfl (ci_any (ce_var 0)) (cg_name 4 sc__law_least.nd) (cs_cons (cs_asgLc (i := 5) rfl sc__law_least.nd rfl rfl (sw_true rfl rfl rfl (by decide +kernel)) (ci_any (ce_var 1)) (blkOk_by (own := [("i", 8)]) (by kernel_rfl)) (fun P0 s H C cl fp => (cg_name 8 sc__law_least.nd)) (fun s H C cl fp => (cts_one fun P0 => (ct_cmp (od_eq hr.units) (ce_ix (ce_var 4) (ce_var 8)) ce_int))) (fun P0 s H C cl fp => (ce_var 8)))
    (cs_cons (cs_asgLc (i := 6) rfl sc__law_least.nd rfl rfl (sw_true rfl rfl rfl (by decide +kernel)) (ci_any (ce_var 1)) (blkOk_by (own := [("i", 8)]) (by kernel_rfl)) (fun P0 s H C cl fp => (cg_name 8 sc__law_least.nd)) (fun s H C cl fp => (cts_one fun P0 => (ct_cmp (od_eq hr.units) (ce_ix (ce_var 4) (ce_var 8)) ce_int))) (fun P0 s H C cl fp => (ce_var 8)))
    (cs_one (cs_if (ct_w (cw_and (ct_cmp (od_ne hr.units) (ce_var 5) (ce_lst ca_nil)) (cw_and1 (ct_cmp (od_ne hr.units) (ce_var 6) (ce_lst ca_nil))))) (cs_cons (cs_asg (ce_callB (cd_max rfl) T.z_max bo_max (ca_cons (ce_callIO IH [(2, 2)] out2_body hr (ca_cons (ce_var 0) (ca_cons (ce_var 5) (ca_cons (ce_own 2) ca_nil))) (alen_cons (alen_cons (alen_cons alen_nil)))) (ca_cons (ce_callIO IH [(2, 2)] out2_body hr (ca_cons (ce_var 0) (ca_cons (ce_var 6) (ca_cons (ce_own 2) ca_nil))) (alen_cons (alen_cons (alen_cons alen_nil)))) ca_nil))) (cg_name 7 sc__law_least.nd))
    (cs_one (cs_dput (i := 2) (Nat.lt_of_le_of_lt (Nat.add_le_add_left (by decide) _) hr.units65) (ce_callB (cd_min rfl) T.z_min bo_min (ca_cons (ce_dget (Nat.lt_of_le_of_lt (Nat.add_le_add_left (by decide) _) hr.units65) (ce_own 2) (ce_var 3)) (ca_cons (ce_bin od_add ce_int (ce_var 7)) ca_nil))) (ce_var 3)))) cs_nil))))))) cs_nil)
    (cs_one (cs_ret (ce_dget (Nat.lt_of_le_of_lt (Nat.add_le_add_left (by decide) _) hr.units65) (ce_own 2) (ce_var 3)))))))) (fun _ _ _ _ _ _ us hl => match us, hl with | [_, _, _], _ => rfl))
theorem ok__law_least (T : Txt K mg) : Glo P w K mg base "_law_least" (41) 3 [2] (C.g__law_least_3) := okr__law_least T 40
theorem okr__law_is_tree (T : Txt K mg) : ∀ n : Nat, Glo P w K mg base "_law_is_tree" (2 + n) 2 [] ((pureF (C.r__law_is_tree n)))
  | 0 => (glo_mk (k := 1) (O := []) (Oc := []) (W := []) (U := []) T.d__law_is_tree sc__law_is_tree (fun f cdv A outer s H E P0 hr => cs_stk) (fun _ _ _ _ _ _ us hl => match us, hl with | [_, _], _ => rfl)).pure
  | n + 1 => have IH := okr__law_is_tree T n; (glo_mk (k := 2 + n) (O := []) (Oc := []) (W := []) (U := []) T.d__law_is_tree sc__law_is_tree (fun f cdv A outer s H E P0 hr => (cs_cons (cs_if (ct_w (cw_or (ct_not (ct_val (ce_isi isk_tuple T.z_isinstance T.z_tuple (ce_var 1) bo_isinstance bo_tuple))) (cw_or1 (ct_cmp (od_eq hr.units) (ce_var 1) (ce_tup ca_nil))))) (cs_one (cs_ret ce_bl)) cs_nil)
    (cs_cons (cs_if (ct_cmp (od_eq hr.units) (ce_ix (ce_var 1) ce_int) ce_str) (cs_one (cs_ret (ce_and (ce_cmp (od_eq hr.units) (ce_callB cd_len T.z_len bo_len (ca_cons (ce_var 1) ca_nil)) ce_int) (ce_one (ce_call (ok__law_whole T) out2_body (hr.mono (by omega)) (ca_cons (ce_ix (ce_var 1) ce_int) ca_nil) (alen_cons alen_nil)))))) cs_nil)
    (cs_cons (cs_if (ct_w (cw_or (ct_cmp (od_ne hr.units) (ce_ix (ce_var 1) ce_int) ce_str) (cw_or (ct_cmp (od_ne hr.units) (ce_callB cd_len T.z_len bo_len (ca_cons (ce_var 1) ca_nil)) ce_int) (cw_or (ct_not (ct_val (ce_call (ok__law_bits T) out2_body (hr.mono (by omega)) (ca_cons (ce_ix (ce_var 1) ce_int) (ca_cons (ce_var 0) ca_nil)) (alen_cons (alen_cons alen_nil))))) (cw_or1 (ct_not (ct_val (ce_call (ok__law_whole T) out2_body (hr.mono (by omega)) (ca_cons (ce_ix (ce_var 1) ce_int) ca_nil) (alen_cons alen_nil))))))))) (cs_one (cs_ret ce_bl)) cs_nil)
    (cs_one (cs_ret (ce_and (ce_chain od_le od_lt ce_int (ce_ix (ce_var 1) ce_int) (ce_var 0)) (ce_and (ce_call IH out2_body hr (ca_cons (ce_var 0) (ca_cons (ce_ix (ce_var 1) ce_int) ca_nil)) (alen_cons (alen_cons alen_nil))) (ce_one (ce_call IH out2_body hr (ca_cons (ce_var 0) (ca_cons (ce_ix (ce_var 1) ce_int) ca_nil)) (alen_cons (alen_cons alen_nil)))))))))))) (fun _ _ _ _ _ _ us hl => match us, hl with | [_, _], _ => rfl)).pure
theorem ok__law_is_tree (T : Txt K mg) : Glo P w K mg base "_law_is_tree" (42) 2 [] ((pureF C.g__law_is_tree)) := okr__law_is_tree T 40
theorem okr__law_depth (T : Txt K mg) : ∀ n : Nat, Glo P w K mg base "_law_depth" (1 + n) 1 [] ((pureF (C.r__law_depth n)))
  | 0 => (glo_mk (k := 0) (O := []) (Oc := []) (W := []) (U := []) T.d__law_depth sc__law_depth (fun f cdv A outer s H E P0 hr => cs_stk) (fun _ _ _ _ _ _ us hl => match us, hl with | [_], _ => rfl)).pure
  | n + 1 => have IH := okr__law_depth T n; (glo_mk (k := 1 + n) (O := []) (Oc := []) (W := []) (U := []) T.d__law_depth sc__law_depth (fun f cdv A outer s H E P0 hr => (cs_cons (cs_if (ct_cmp (od_eq hr.units) (ce_ix (ce_var 0) ce_int) ce_str) (cs_one (cs_ret ce_int)) cs_nil)
    (cs_one (cs_ret (ce_bin od_add ce_int (ce_callB (cd_max rfl) T.z_max bo_max (ca_cons (ce_call IH out2_body hr (ca_cons (ce_ix (ce_var 0) ce_int) ca_nil) (alen_cons alen_nil)) (ca_cons (ce_call IH out2_body hr (ca_cons (ce_ix (ce_var 0) ce_int) ca_nil) (alen_cons alen_nil)) ca_nil)))))))) (fun _ _ _ _ _ _ us hl => match us, hl with | [_], _ => rfl)).pure
theorem ok__law_depth (T : Txt K mg) : Glo P w K mg base "_law_depth" (41) 1 [] ((pureF C.g__law_depth)) := okr__law_depth T 40
theorem ok__law_shown (T : Txt K mg) : Glo P w K mg base "_law_shown" 42 2 [] (pureF C.g__law_shown) :=
  (glo_mk (O := []) (Oc := []) (W := []) (U := []) T.d__law_shown sc__law_shown (fun f cdv A outer s H E P0 hr => (cs_cons (cs_for (U' := []) (vs := [2, 3]) (passes_of rfl) rfl (ci_range1 T.z_range (ca_cons (ce_callB cd_len T.z_len bo_len (ca_cons (ce_var 0) ca_nil)) ca_nil)) (cg_name 2 sc__law_shown.nd) (cs_cons (cs_asg (ce_var 1) (cg_name 3 sc__law_shown.nd))
    (cs_cons (cs_while (vs := []) (passes_of rfl) (ct_cmp (od_eq hr.units) (ce_ix (ce_var 3) ce_int) ce_str) (cs_one (cs_asg (ce_ix (ce_var 3) (ce_bin od_add ce_int (ce_call (ok__law_told T) out2_body (hr.mono (by decide)) (ca_cons (ce_ix (ce_var 0) (ce_var 2)) (ca_cons (ce_ix (ce_var 3) ce_int) (ca_cons (ce_ix (ce_var 3) ce_int) ca_nil))) (alen_cons (alen_cons (alen_cons alen_nil)))))) (cg_name 3 sc__law_shown.nd))))
    (cs_one (cs_if (ct_cmp (od_ne hr.units) (ce_ix (ce_var 3) ce_int) (ce_var 2)) (cs_one (cs_ret ce_non)) cs_nil)))))
    (cs_one (cs_ret (ce_call (ok__law_depth T) out2_body (hr.mono (by decide)) (ca_cons (ce_var 1) ca_nil) (alen_cons alen_nil)))))) (fun _ _ _ _ _ _ us hl => match us, hl with | [_, _], _ => rfl)).pure
theorem okz__law_kind (T : Txt K mg) : GloZ P w K mg base "_law_kind" 1 "e" ["TooMany"] kindW :=
  gloZ_mk (m := kindM) T.d__law_kind sc__law_kind (fun cn C f cdv A outer s H E p hc hC hz hf hot hr => (cz_cons (cz_asg (zz_lst (zs_cons (cz_isi (T.zz_zkind cn hc) T.is_zkind_NoRule hc hC hz hf List.mem_cons_self T.z_isinstance) (zs_cons (cz_isi (T.zz_zkind cn hc) T.is_zkind_TooMany hc hC hz hf List.mem_cons_self T.z_isinstance) (zs_cons (cz_isi (T.zz_zkind cn hc) T.is_zkind_NoOrder hc hC hz hf List.mem_cons_self T.z_isinstance) (zs_cons (cz_isi (T.zz_zkind cn hc) T.is_zkind_NoStand hc hC hz hf List.mem_cons_self T.z_isinstance) zs_nil))))) (cg_name 1 sc__law_kind.nd))
    (cz_cons (cz_asg (zz_bin od_add (ce_var 1) (zz_lst (zs_cons (cz_isi (T.zz_zkind cn hc) T.is_zkind_NoSeen hc hC hz hf List.mem_cons_self T.z_isinstance) (zs_cons (cz_isi (T.zz_zkind cn hc) T.is_zkind_NoSwitch hc hC hz hf List.mem_cons_self T.z_isinstance) (zs_cons (cz_isi (T.zz_zkind cn hc) T.is_zkind_NoText hc hC hz hf List.mem_cons_self T.z_isinstance) (zs_cons (cz_isi (T.zz_zkind cn hc) T.is_zkind_NoRow hc hC hz hf List.mem_cons_self T.z_isinstance) zs_nil)))))) (cg_name 1 sc__law_kind.nd))
    (cz_cons (cz_asg (zz_bin od_add (ce_var 1) (zz_lst (zs_cons (cz_isi (T.zz_zkind cn hc) T.is_zkind_NoFrame hc hC hz hf List.mem_cons_self T.z_isinstance) (zs_cons (cz_isi (T.zz_zkind cn hc) T.is_zkind_NoDen hc hC hz hf List.mem_cons_self T.z_isinstance) (zs_cons (cz_isi (T.zz_zkind cn hc) T.is_zkind_NoHolds hc hC hz hf List.mem_cons_self T.z_isinstance) (zs_cons (cz_isi (T.zz_zkind cn hc) T.is_zkind_Hears hc hC hz hf List.mem_cons_self T.z_isinstance) zs_nil)))))) (cg_name 1 sc__law_kind.nd))
    (cz_cons (zs_if (zt_or (zt_not (zt_isi (cz_isv (T.zz_zkind cn hc) T.v_zkind hc hC hz hf List.mem_cons_self T.z_isinstance))) (ct_cmp (od_ne hr.units) (ce_callB (cd_sumH hot) T.z_sum bo_sum (ca_cons (ce_intsH hot sc__law_kind.nd (blkOk_by (own := [("kind", 3)]) (by kernel_rfl)) (fun s H C cl fp => pg_name sc__law_kind.nd rfl (Or.inl rfl)) (fun s H C cl fp => pe_callTy call_int1 rfl T.z_int bo_int (pa_cons (pe_var rfl (Or.inl rfl)) pa_nil))) ca_nil)) ce_int)) (cs_one (cs_ret ce_str)))
    (cz_cons (cz_of (cs_asgU (ce_lst (ca_cons ce_str (ca_cons ce_str (ca_cons ce_str (ca_cons ce_str (ca_cons ce_str (ca_cons ce_str (ca_cons ce_str (ca_cons ce_str (ca_cons ce_str (ca_cons ce_str (ca_cons ce_str (ca_cons ce_str ca_nil))))))))))))) (cg_name 2 sc__law_kind.nd)))
    (cz_one (cz_of (cs_ret (ce_ix (ce_var 2) (ce_index hr.units65 (ce_var 1) ce_bl))))))))))) (fun cn hc => kind_all cn (mem_sub hc)) (fun _ _ _ _ _ _ us hl => match us, hl with | [_], _ => rfl)
theorem ok__law_asked (T : Txt K mg) : Glo P w K mg base "_law_asked" 85 2 [] (pureF C.g__law_asked_13) :=
  (glo_mk (O := []) (Oc := []) (W := []) (U := []) T.d__law_asked sc__law_asked (fun f cdv A outer s H E P0 hr => (cs_one (cs_try (i := 2) (cl := ["TooMany"]) (tm := C.w__law_asked_13_1) (h := C.h__law_asked_13_1) sc__law_asked.nd T.cat__law_asked_1 rfl (fun Ws pn xe tk => (cb_cons (cb_if (ct_cmp (od_eq hr.units) (ce_var 0) ce_int) (cb_one (cb_ret (cx_call (ok_fewest_looks T) tk (hr.mono (by decide)) (ca_cons (ce_var 1) ca_nil) (alen_cons alen_nil)))) cb_nil) (cb_one (cb_ret (cx_call (ok_look_tree T) tk (hr.mono (by decide)) (ca_cons (ce_var 1) ca_nil) (alen_cons alen_nil)))))) (fun a oe C cn pn hC hc hz hf => (cz_one (cz_ret (cz_tell (okz__law_kind T) (roomH_suite hr) (mem_sub hc) hC hz hf rfl List.mem_cons_self))))))) (fun _ _ _ _ _ _ us hl => match us, hl with | [_, _], _ => rfl)).pure
theorem ok__law_others (T : Txt K mg) : Glo P w K mg base "_law_others" 3 2 [0] C.g__law_others_6 :=
  (glo_mk (O := [0]) (Oc := [0]) (W := [0]) (U := [0]) T.d__law_others sc__law_others (fun f cdv A outer s H E P0 hr => (cs_cons (cs_asg (ce_callT cd_tuple T.z_tuple bo_tuple (ca_cons (ce_comp rfl sc__law_others.nd (ci_range1 T.z_range (ca_cons ce_int ca_nil)) (blkOk_by (own := [("k", 4)]) (by kernel_rfl)) (fun P0 s H C cl fp => (cg_name 4 sc__law_others.nd)) (fun s H C cl fp => cts_nil) (fun P0 s H C cl fp => (ce_callIO (ok__law_rule T) [(0, 0)] Out2.blk (hr.mono (by decide)) (ca_cons (ce_own 0) (ca_cons ce_int ca_nil)) (alen_cons (alen_cons alen_nil))))) ca_nil)) (cg_name 2 sc__law_others.nd))
    (cs_cons (cs_asg (ce_lst (ca_cons (ce_slice (ce_var 1) co_none (co_some ce_int)) (ca_cons (ce_slice (ce_bin od_mul (ce_var 1) ce_int) co_none (co_some ce_int)) (ca_cons (ce_bin od_add (ce_slice (ce_var 1) co_none (co_some ce_int)) (ce_lst (ca_cons (ce_bin od_add (ce_ix (ce_var 1) ce_int) (ce_tup (ca_cons (ce_tup (ca_cons (ce_tup ca_nil) (ca_cons (ce_tup (ca_cons ce_int ca_nil)) ca_nil))) ca_nil))) ca_nil))) (ca_cons (ce_lst (ca_cons (ce_var 2) (ca_cons (ce_bin od_add (ce_slice (ce_var 2) co_none (co_some ce_int)) (ce_slice (ce_var 2) co_none (co_some ce_int))) ca_nil))) (ca_cons (ce_lst ca_nil) ca_nil)))))) (cg_name 3 sc__law_others.nd))
    (cs_one (cs_ret (ce_ix (ce_var 3) (ce_callIO (ok__law_take T) [(0, 0)] out2_body (hr.mono (by decide)) (ca_cons (ce_own 0) (ca_cons ce_int ca_nil)) (alen_cons (alen_cons alen_nil))))))))) (fun _ _ _ _ _ _ us hl => match us, hl with | [_, _], _ => rfl))
theorem ok_law (T : Txt K mg) {f : Addr} {fd : FuncData} (F : Fun K "law" "law" s_law f fd) : FnOk P w K mg base (L2N.CX P w) 86 f fd ["script"] (spD K mg 1 [] (pureF C.g_law_k87)) :=
  law_fn (Oc := [2]) (W := [2]) F sc_law (fun f cdv A outer s H E P0 hr => (cs_cons (cs_for (U' := []) (vs := [1, 2, 3, 4, 5, 6]) (passes_of rfl) rfl (ci_range1 T.z_range (ca_cons (ce_callB (cd_max rfl) T.z_max bo_max (ca_cons ce_int (ca_cons (ce_callB (cd_min rfl) T.z_min bo_min (ca_cons (ce_callB cd_len T.z_len bo_len (ca_cons (ce_var 0) ca_nil)) (ca_cons ce_int ca_nil))) ca_nil))) ca_nil)) (cg_name 1 sc_law.nd) (cs_cons (cs_own (i := 2) sc_law.nd (ce_call (ok__law_box T) out2_body (hr.mono (by decide)) (ca_cons (ce_var 0) (ca_cons (ce_var 1) ca_nil)) (alen_cons (alen_cons alen_nil))))
    (cs_cons (cs_asg (ce_callIO (ok__law_nets T) [(0, 2)] out2_body (hr.mono (by decide)) (ca_cons (ce_own 2) ca_nil) (alen_cons alen_nil)) (cg_name 3 sc_law.nd))
    (cs_one (cs_if (ct_cmp (od_eq hr.units) (ce_callIO (ok__law_take T) [(0, 2)] out2_body (hr.mono (by decide)) (ca_cons (ce_own 2) (ca_cons ce_int ca_nil)) (alen_cons (alen_cons alen_nil))) ce_int) (cs_cons (cs_asg (ce_callIO (ok__law_others T) [(0, 2)] out2_body (hr.mono (by decide)) (ca_cons (ce_own 2) (ca_cons (ce_var 3) ca_nil)) (alen_cons (alen_cons alen_nil))) (cg_name 3 sc_law.nd))
    (cs_one (cs_if (ct_w (cw_or (ct_cmp (od_ne hr.units) (ce_call (ok__law_asked T) out2_body (hr.mono (by decide)) (ca_cons ce_int (ca_cons (ce_var 3) ca_nil)) (alen_cons (alen_cons alen_nil))) ce_str) (cw_or1 (ct_cmp (od_ne hr.units) (ce_call (ok__law_asked T) out2_body (hr.mono (by decide)) (ca_cons ce_int (ca_cons (ce_var 3) ca_nil)) (alen_cons (alen_cons alen_nil))) ce_str)))) (cs_one (cs_ret ce_bl)) cs_nil))) (cs_cons (cs_asg (ce_upW (ce_callD (ok__law_least T) out2_body (hr.mono (by decide)) (ce_call (ok__law_rows T) out2_body (hr.mono (by decide)) (ca_cons (ce_var 3) ca_nil) (alen_cons alen_nil)) (ce_lrg1 rfl T.z_list T.z_range (ce_callB cd_len T.z_len bo_len (ca_cons (ce_var 3) ca_nil))))) (cg_name 4 sc_law.nd))
    (cs_cons (cs_asg (ce_call (ok__law_asked T) out2_body (hr.mono (by decide)) (ca_cons ce_int (ca_cons (ce_var 3) ca_nil)) (alen_cons (alen_cons alen_nil))) (cg_name 5 sc_law.nd))
    (cs_cons (cs_asg (ce_call (ok__law_asked T) out2_body (hr.mono (by decide)) (ca_cons ce_int (ca_cons (ce_var 3) ca_nil)) (alen_cons (alen_cons alen_nil))) (cg_name 6 sc_law.nd))
    (cs_one (cs_if (ct_cmp od_gt (ce_var 4) ce_int) (cs_one (cs_if (ct_w (cw_or (ct_cmp od_isnot (ce_var 5) ce_non) (cw_or1 (ct_cmp od_isnot (ce_var 6) ce_non)))) (cs_one (cs_ret ce_bl)) cs_nil)) (cs_one (cs_if (ct_w (cw_or (ct_not (ct_val (ce_call (ok__law_whole T) out2_body (hr.mono (by decide)) (ca_cons (ce_var 5) ca_nil) (alen_cons alen_nil)))) (cw_or1 (ct_cmp (od_ne hr.units) (ce_var 5) (ce_var 4))))) (cs_one (cs_ret ce_bl)) (cs_one (cs_if (ct_w (cw_or (ct_not (ct_val (ce_call (ok__law_is_tree T) out2_body (hr.mono (by decide)) (ca_cons (ce_callB cd_len T.z_len bo_len (ca_cons (ce_ix (ce_var 3) ce_int) ca_nil)) (ca_cons (ce_var 6) ca_nil)) (alen_cons (alen_cons alen_nil))))) (cw_or1 (ct_cmp (od_ne hr.units) (ce_call (ok__law_shown T) out2_body (hr.mono (by decide)) (ca_cons (ce_var 3) (ca_cons (ce_var 6) ca_nil)) (alen_cons (alen_cons alen_nil))) (ce_var 4))))) (cs_one (cs_ret ce_bl)) cs_nil))))))))))))))
    (cs_one (cs_ret ce_bl))))
end
end K87

namespace K87
theorem good_law : Y.Good C.g_law_k87 63 := H.good_k87
end K87

namespace K87
open PySem PySem.Spec PyProof.Rows L2 Y
theorem all {l : PySem.W.OpenLaw} {w : World} {K : PySem.W.Frag} {h : Heap} {mg : Str → Option Value} {fa : Addr} (X : K.In h) (G : h.Ns mainGlobals mg) (hfa : mg "law" = some (.ref fa)) (hg : Good C.g_law_k87 63)
{f0 : Addr} {od0 an0 : Option Addr} {sl0 : Array (Option Value)} {oc0 kV0 dc0 pm0 cd0 ct0 : Value}
    (a0 : PySem.W.nsIn K mainGlobals "stands_of" = some (some (.ref f0))) (l0 : K.lookup f0 = some ⟨oc0, od0, .func (PySem.W.fnOf "stands_of" "stands_of" (defArgs s_stands_of) (defBody s_stands_of) (defScope s_stands_of) .none kV0 dc0 pm0 an0 cd0 ct0), sl0⟩) (c0 : PySem.W.codeIn K cd0 "stands_of" = true) (k0 : PySem.W.keepIn K (.ref f0) = true)
{f1 : Addr} {od1 an1 : Option Addr} {sl1 : Array (Option Value)} {oc1 kV1 dc1 pm1 cd1 ct1 : Value}
    (a1 : PySem.W.nsIn K mainGlobals "place_of" = some (some (.ref f1))) (l1 : K.lookup f1 = some ⟨oc1, od1, .func (PySem.W.fnOf "place_of" "place_of" (defArgs s_place_of) (defBody s_place_of) (defScope s_place_of) .none kV1 dc1 pm1 an1 cd1 ct1), sl1⟩) (c1 : PySem.W.codeIn K cd1 "place_of" = true) (k1 : PySem.W.keepIn K (.ref f1) = true)
{f2 : Addr} {od2 an2 : Option Addr} {sl2 : Array (Option Value)} {oc2 kV2 dc2 pm2 cd2 ct2 : Value}
    (a2 : PySem.W.nsIn K mainGlobals "ought" = some (some (.ref f2))) (l2 : K.lookup f2 = some ⟨oc2, od2, .func (PySem.W.fnOf "ought" "ought" (defArgs s_ought) (defBody s_ought) (defScope s_ought) .none kV2 dc2 pm2 an2 cd2 ct2), sl2⟩) (c2 : PySem.W.codeIn K cd2 "ought" = true) (k2 : PySem.W.keepIn K (.ref f2) = true)
{f3 : Addr} {od3 an3 : Option Addr} {sl3 : Array (Option Value)} {oc3 kV3 dc3 pm3 cd3 ct3 : Value}
    (a3 : PySem.W.nsIn K mainGlobals "need_nets" = some (some (.ref f3))) (l3 : K.lookup f3 = some ⟨oc3, od3, .func (PySem.W.fnOf "need_nets" "need_nets" (defArgs s_need_nets) (defBody s_need_nets) (defScope s_need_nets) .none kV3 dc3 pm3 an3 cd3 ct3), sl3⟩) (c3 : PySem.W.codeIn K cd3 "need_nets" = true) (k3 : PySem.W.keepIn K (.ref f3) = true)
{f4 : Addr} {od4 an4 : Option Addr} {sl4 : Array (Option Value)} {oc4 kV4 dc4 pm4 cd4 ct4 : Value}
    (a4 : PySem.W.nsIn K mainGlobals "fewest_looks" = some (some (.ref f4))) (l4 : K.lookup f4 = some ⟨oc4, od4, .func (PySem.W.fnOf "fewest_looks" "fewest_looks" (defArgs s_fewest_looks) (defBody s_fewest_looks) (defScope s_fewest_looks) .none kV4 dc4 pm4 an4 cd4 ct4), sl4⟩) (c4 : PySem.W.codeIn K cd4 "fewest_looks" = true) (k4 : PySem.W.keepIn K (.ref f4) = true)
{f5 : Addr} {od5 an5 : Option Addr} {sl5 : Array (Option Value)} {oc5 kV5 dc5 pm5 cd5 ct5 : Value}
    (a5 : PySem.W.nsIn K mainGlobals "look_tree" = some (some (.ref f5))) (l5 : K.lookup f5 = some ⟨oc5, od5, .func (PySem.W.fnOf "look_tree" "look_tree" (defArgs s_look_tree) (defBody s_look_tree) (defScope s_look_tree) .none kV5 dc5 pm5 an5 cd5 ct5), sl5⟩) (c5 : PySem.W.codeIn K cd5 "look_tree" = true) (k5 : PySem.W.keepIn K (.ref f5) = true)
{f6 : Addr} {od6 an6 : Option Addr} {sl6 : Array (Option Value)} {oc6 kV6 dc6 pm6 cd6 ct6 : Value}
    (a6 : PySem.W.nsIn K mainGlobals "_law_cell" = some (some (.ref f6))) (l6 : K.lookup f6 = some ⟨oc6, od6, .func (PySem.W.fnOf "_law_cell" "_law_cell" (defArgs s__law_cell) (defBody s__law_cell) (defScope s__law_cell) .none kV6 dc6 pm6 an6 cd6 ct6), sl6⟩) (c6 : PySem.W.codeIn K cd6 "_law_cell" = true) (k6 : PySem.W.keepIn K (.ref f6) = true)
{f7 : Addr} {od7 an7 : Option Addr} {sl7 : Array (Option Value)} {oc7 kV7 dc7 pm7 cd7 ct7 : Value}
    (a7 : PySem.W.nsIn K mainGlobals "_law_box" = some (some (.ref f7))) (l7 : K.lookup f7 = some ⟨oc7, od7, .func (PySem.W.fnOf "_law_box" "_law_box" (defArgs s__law_box) (defBody s__law_box) (defScope s__law_box) .none kV7 dc7 pm7 an7 cd7 ct7), sl7⟩) (c7 : PySem.W.codeIn K cd7 "_law_box" = true) (k7 : PySem.W.keepIn K (.ref f7) = true)
{f8 : Addr} {od8 an8 : Option Addr} {sl8 : Array (Option Value)} {oc8 kV8 dc8 pm8 cd8 ct8 : Value}
    (a8 : PySem.W.nsIn K mainGlobals "_law_take" = some (some (.ref f8))) (l8 : K.lookup f8 = some ⟨oc8, od8, .func (PySem.W.fnOf "_law_take" "_law_take" (defArgs s__law_take) (defBody s__law_take) (defScope s__law_take) .none kV8 dc8 pm8 an8 cd8 ct8), sl8⟩) (c8 : PySem.W.codeIn K cd8 "_law_take" = true) (k8 : PySem.W.keepIn K (.ref f8) = true)
{f9 : Addr} {od9 an9 : Option Addr} {sl9 : Array (Option Value)} {oc9 kV9 dc9 pm9 cd9 ct9 : Value}
    (a9 : PySem.W.nsIn K mainGlobals "_law_readings" = some (some (.ref f9))) (l9 : K.lookup f9 = some ⟨oc9, od9, .func (PySem.W.fnOf "_law_readings" "_law_readings" (defArgs s__law_readings) (defBody s__law_readings) (defScope s__law_readings) .none kV9 dc9 pm9 an9 cd9 ct9), sl9⟩) (c9 : PySem.W.codeIn K cd9 "_law_readings" = true) (k9 : PySem.W.keepIn K (.ref f9) = true)
{f10 : Addr} {od10 an10 : Option Addr} {sl10 : Array (Option Value)} {oc10 kV10 dc10 pm10 cd10 ct10 : Value}
    (a10 : PySem.W.nsIn K mainGlobals "_law_rule" = some (some (.ref f10))) (l10 : K.lookup f10 = some ⟨oc10, od10, .func (PySem.W.fnOf "_law_rule" "_law_rule" (defArgs s__law_rule) (defBody s__law_rule) (defScope s__law_rule) .none kV10 dc10 pm10 an10 cd10 ct10), sl10⟩) (c10 : PySem.W.codeIn K cd10 "_law_rule" = true) (k10 : PySem.W.keepIn K (.ref f10) = true)
{f11 : Addr} {od11 an11 : Option Addr} {sl11 : Array (Option Value)} {oc11 kV11 dc11 pm11 cd11 ct11 : Value}
    (a11 : PySem.W.nsIn K mainGlobals "_law_told" = some (some (.ref f11))) (l11 : K.lookup f11 = some ⟨oc11, od11, .func (PySem.W.fnOf "_law_told" "_law_told" (defArgs s__law_told) (defBody s__law_told) (defScope s__law_told) .none kV11 dc11 pm11 an11 cd11 ct11), sl11⟩) (c11 : PySem.W.codeIn K cd11 "_law_told" = true) (k11 : PySem.W.keepIn K (.ref f11) = true)
{f12 : Addr} {od12 an12 : Option Addr} {sl12 : Array (Option Value)} {oc12 kV12 dc12 pm12 cd12 ct12 : Value}
    (a12 : PySem.W.nsIn K mainGlobals "_law_bits" = some (some (.ref f12))) (l12 : K.lookup f12 = some ⟨oc12, od12, .func (PySem.W.fnOf "_law_bits" "_law_bits" (defArgs s__law_bits) (defBody s__law_bits) (defScope s__law_bits) .none kV12 dc12 pm12 an12 cd12 ct12), sl12⟩) (c12 : PySem.W.codeIn K cd12 "_law_bits" = true) (k12 : PySem.W.keepIn K (.ref f12) = true)
{f13 : Addr} {od13 an13 : Option Addr} {sl13 : Array (Option Value)} {oc13 kV13 dc13 pm13 cd13 ct13 : Value}
    (a13 : PySem.W.nsIn K mainGlobals "_law_whole" = some (some (.ref f13))) (l13 : K.lookup f13 = some ⟨oc13, od13, .func (PySem.W.fnOf "_law_whole" "_law_whole" (defArgs s__law_whole) (defBody s__law_whole) (defScope s__law_whole) .none kV13 dc13 pm13 an13 cd13 ct13), sl13⟩) (c13 : PySem.W.codeIn K cd13 "_law_whole" = true) (k13 : PySem.W.keepIn K (.ref f13) = true)
{f14 : Addr} {od14 an14 : Option Addr} {sl14 : Array (Option Value)} {oc14 kV14 dc14 pm14 cd14 ct14 : Value}
    (a14 : PySem.W.nsIn K mainGlobals "_law_nets" = some (some (.ref f14))) (l14 : K.lookup f14 = some ⟨oc14, od14, .func (PySem.W.fnOf "_law_nets" "_law_nets" (defArgs s__law_nets) (defBody s__law_nets) (defScope s__law_nets) .none kV14 dc14 pm14 an14 cd14 ct14), sl14⟩) (c14 : PySem.W.codeIn K cd14 "_law_nets" = true) (k14 : PySem.W.keepIn K (.ref f14) = true)
{f15 : Addr} {od15 an15 : Option Addr} {sl15 : Array (Option Value)} {oc15 kV15 dc15 pm15 cd15 ct15 : Value}
    (a15 : PySem.W.nsIn K mainGlobals "_law_rows" = some (some (.ref f15))) (l15 : K.lookup f15 = some ⟨oc15, od15, .func (PySem.W.fnOf "_law_rows" "_law_rows" (defArgs s__law_rows) (defBody s__law_rows) (defScope s__law_rows) .none kV15 dc15 pm15 an15 cd15 ct15), sl15⟩) (c15 : PySem.W.codeIn K cd15 "_law_rows" = true) (k15 : PySem.W.keepIn K (.ref f15) = true)
{f16 : Addr} {od16 an16 : Option Addr} {sl16 : Array (Option Value)} {oc16 kV16 dc16 pm16 cd16 ct16 : Value}
    (a16 : PySem.W.nsIn K mainGlobals "_law_least" = some (some (.ref f16))) (l16 : K.lookup f16 = some ⟨oc16, od16, .func (PySem.W.fnOf "_law_least" "_law_least" (defArgs s__law_least) (defBody s__law_least) (defScope s__law_least) .none kV16 dc16 pm16 an16 cd16 ct16), sl16⟩) (c16 : PySem.W.codeIn K cd16 "_law_least" = true) (k16 : PySem.W.keepIn K (.ref f16) = true)
{f17 : Addr} {od17 an17 : Option Addr} {sl17 : Array (Option Value)} {oc17 kV17 dc17 pm17 cd17 ct17 : Value}
    (a17 : PySem.W.nsIn K mainGlobals "_law_is_tree" = some (some (.ref f17))) (l17 : K.lookup f17 = some ⟨oc17, od17, .func (PySem.W.fnOf "_law_is_tree" "_law_is_tree" (defArgs s__law_is_tree) (defBody s__law_is_tree) (defScope s__law_is_tree) .none kV17 dc17 pm17 an17 cd17 ct17), sl17⟩) (c17 : PySem.W.codeIn K cd17 "_law_is_tree" = true) (k17 : PySem.W.keepIn K (.ref f17) = true)
{f18 : Addr} {od18 an18 : Option Addr} {sl18 : Array (Option Value)} {oc18 kV18 dc18 pm18 cd18 ct18 : Value}
    (a18 : PySem.W.nsIn K mainGlobals "_law_depth" = some (some (.ref f18))) (l18 : K.lookup f18 = some ⟨oc18, od18, .func (PySem.W.fnOf "_law_depth" "_law_depth" (defArgs s__law_depth) (defBody s__law_depth) (defScope s__law_depth) .none kV18 dc18 pm18 an18 cd18 ct18), sl18⟩) (c18 : PySem.W.codeIn K cd18 "_law_depth" = true) (k18 : PySem.W.keepIn K (.ref f18) = true)
{f19 : Addr} {od19 an19 : Option Addr} {sl19 : Array (Option Value)} {oc19 kV19 dc19 pm19 cd19 ct19 : Value}
    (a19 : PySem.W.nsIn K mainGlobals "_law_shown" = some (some (.ref f19))) (l19 : K.lookup f19 = some ⟨oc19, od19, .func (PySem.W.fnOf "_law_shown" "_law_shown" (defArgs s__law_shown) (defBody s__law_shown) (defScope s__law_shown) .none kV19 dc19 pm19 an19 cd19 ct19), sl19⟩) (c19 : PySem.W.codeIn K cd19 "_law_shown" = true) (k19 : PySem.W.keepIn K (.ref f19) = true)
{f20 : Addr} {od20 an20 : Option Addr} {sl20 : Array (Option Value)} {oc20 kV20 dc20 pm20 cd20 ct20 : Value}
    (a20 : PySem.W.nsIn K mainGlobals "_law_kind" = some (some (.ref f20))) (l20 : K.lookup f20 = some ⟨oc20, od20, .func (PySem.W.fnOf "_law_kind" "_law_kind" (defArgs s__law_kind) (defBody s__law_kind) (defScope s__law_kind) .none kV20 dc20 pm20 an20 cd20 ct20), sl20⟩) (c20 : PySem.W.codeIn K cd20 "_law_kind" = true) (k20 : PySem.W.keepIn K (.ref f20) = true)
{f21 : Addr} {od21 an21 : Option Addr} {sl21 : Array (Option Value)} {oc21 kV21 dc21 pm21 cd21 ct21 : Value}
    (a21 : PySem.W.nsIn K mainGlobals "_law_asked" = some (some (.ref f21))) (l21 : K.lookup f21 = some ⟨oc21, od21, .func (PySem.W.fnOf "_law_asked" "_law_asked" (defArgs s__law_asked) (defBody s__law_asked) (defScope s__law_asked) .none kV21 dc21 pm21 an21 cd21 ct21), sl21⟩) (c21 : PySem.W.codeIn K cd21 "_law_asked" = true) (k21 : PySem.W.keepIn K (.ref f21) = true)
{f22 : Addr} {od22 an22 : Option Addr} {sl22 : Array (Option Value)} {oc22 kV22 dc22 pm22 cd22 ct22 : Value}
    (a22 : PySem.W.nsIn K mainGlobals "_law_others" = some (some (.ref f22))) (l22 : K.lookup f22 = some ⟨oc22, od22, .func (PySem.W.fnOf "_law_others" "_law_others" (defArgs s__law_others) (defBody s__law_others) (defScope s__law_others) .none kV22 dc22 pm22 an22 cd22 ct22), sl22⟩) (c22 : PySem.W.codeIn K cd22 "_law_others" = true) (k22 : PySem.W.keepIn K (.ref f22) = true)
{f23 : Addr} {od23 an23 : Option Addr} {sl23 : Array (Option Value)} {oc23 kV23 dc23 pm23 cd23 ct23 : Value}
    (a23 : PySem.W.nsIn K mainGlobals "law" = some (some (.ref f23))) (l23 : K.lookup f23 = some ⟨oc23, od23, .func (PySem.W.fnOf "law" "law" (defArgs s_law) (defBody s_law) (defScope s_law) .none kV23 dc23 pm23 an23 cd23 ct23), sl23⟩) (c23 : PySem.W.codeIn K cd23 "law" = true) (k23 : PySem.W.keepIn K (.ref f23) = true)
    {tk0 : Tok} (u0 : PySem.W.nsIn K mainGlobals "MOST_NETS" = some (some (.int 6 tk0)))
    {tk1 : Tok} (u1 : PySem.W.nsIn K mainGlobals "MOST_SWITCHES" = some (some (.int 5 tk1)))
    {C0 : Addr} (x0 : PySem.W.nsIn K mainGlobals "TooMany" = some (some (.ref C0))) (xe0 : PySem.W.excIn K C0 Y.veB "ValueError.__new__" = true) (xk0 : PySem.W.keepIn K (.ref C0) = true) (xb0 : PySem.W.subIn K (.ref C0) (.type "BaseException") = some true) (xt0 : PySem.W.typeIn K (.ref C0) = some (.type "type"))
    {N0 : Addr} (n0 : PySem.W.nsIn K mainGlobals "Hears" = some (some (.ref N0)))
    {N1 : Addr} (n1 : PySem.W.nsIn K mainGlobals "NetError" = some (some (.ref N1)))
    {N2 : Addr} (n2 : PySem.W.nsIn K mainGlobals "NoDen" = some (some (.ref N2)))
    {N3 : Addr} (n3 : PySem.W.nsIn K mainGlobals "NoFrame" = some (some (.ref N3)))
    {N4 : Addr} (n4 : PySem.W.nsIn K mainGlobals "NoHolds" = some (some (.ref N4)))
    {N5 : Addr} (n5 : PySem.W.nsIn K mainGlobals "NoOrder" = some (some (.ref N5)))
    {N6 : Addr} (n6 : PySem.W.nsIn K mainGlobals "NoRow" = some (some (.ref N6)))
    {N7 : Addr} (n7 : PySem.W.nsIn K mainGlobals "NoRule" = some (some (.ref N7)))
    {N8 : Addr} (n8 : PySem.W.nsIn K mainGlobals "NoSeen" = some (some (.ref N8)))
    {N9 : Addr} (n9 : PySem.W.nsIn K mainGlobals "NoStand" = some (some (.ref N9)))
    {N10 : Addr} (n10 : PySem.W.nsIn K mainGlobals "NoSwitch" = some (some (.ref N10)))
    {N11 : Addr} (n11 : PySem.W.nsIn K mainGlobals "NoText" = some (some (.ref N11)))
    (hg0 : PySem.W.findIn K (.ref C0) "__getattribute__" = some (some (.builtin "BaseException.__getattribute__"))) (hk0 : PySem.W.findIn K (.ref C0) "__getattr__" = some none) (hs0 : PySem.W.subIn K (.ref C0) (.type "BaseException") = some true) (hd0 : PySem.W.hasDictIn K C0 = true) (ha0 : PySem.W.findIn K (.ref C0) "__class__" = some (some (.builtin "object.__class__"))) (hn0 : PySem.W.specialIn K (.builtin "object.__class__") "__get__" = some (some (.builtin "getset_descriptor.__get__"))) (ht0 : PySem.W.takesIn K (.builtin "object.__class__") = some true) (hm0 : PySem.W.mroIn K C0 (.type "object") = some true)
    (td0 : PySem.W.hasDictIn K N0 = true) (tt0 : PySem.W.typeIn K (.ref N0) = some (.type "type")) (tb0 : PySem.W.subIn K (.ref N0) (.type "BaseException") = some true)
    (td1 : PySem.W.hasDictIn K N1 = true) (tt1 : PySem.W.typeIn K (.ref N1) = some (.type "type")) (tb1 : PySem.W.subIn K (.ref N1) (.type "BaseException") = some true)
    (td2 : PySem.W.hasDictIn K N2 = true) (tt2 : PySem.W.typeIn K (.ref N2) = some (.type "type")) (tb2 : PySem.W.subIn K (.ref N2) (.type "BaseException") = some true)
    (td3 : PySem.W.hasDictIn K N3 = true) (tt3 : PySem.W.typeIn K (.ref N3) = some (.type "type")) (tb3 : PySem.W.subIn K (.ref N3) (.type "BaseException") = some true)
    (td4 : PySem.W.hasDictIn K N4 = true) (tt4 : PySem.W.typeIn K (.ref N4) = some (.type "type")) (tb4 : PySem.W.subIn K (.ref N4) (.type "BaseException") = some true)
    (td5 : PySem.W.hasDictIn K N5 = true) (tt5 : PySem.W.typeIn K (.ref N5) = some (.type "type")) (tb5 : PySem.W.subIn K (.ref N5) (.type "BaseException") = some true)
    (td6 : PySem.W.hasDictIn K N6 = true) (tt6 : PySem.W.typeIn K (.ref N6) = some (.type "type")) (tb6 : PySem.W.subIn K (.ref N6) (.type "BaseException") = some true)
    (td7 : PySem.W.hasDictIn K N7 = true) (tt7 : PySem.W.typeIn K (.ref N7) = some (.type "type")) (tb7 : PySem.W.subIn K (.ref N7) (.type "BaseException") = some true)
    (td8 : PySem.W.hasDictIn K N8 = true) (tt8 : PySem.W.typeIn K (.ref N8) = some (.type "type")) (tb8 : PySem.W.subIn K (.ref N8) (.type "BaseException") = some true)
    (td9 : PySem.W.hasDictIn K N9 = true) (tt9 : PySem.W.typeIn K (.ref N9) = some (.type "type")) (tb9 : PySem.W.subIn K (.ref N9) (.type "BaseException") = some true)
    (td10 : PySem.W.hasDictIn K N10 = true) (tt10 : PySem.W.typeIn K (.ref N10) = some (.type "type")) (tb10 : PySem.W.subIn K (.ref N10) (.type "BaseException") = some true)
    (td11 : PySem.W.hasDictIn K N11 = true) (tt11 : PySem.W.typeIn K (.ref N11) = some (.type "type")) (tb11 : PySem.W.subIn K (.ref N11) (.type "BaseException") = some true)
    (td12 : PySem.W.hasDictIn K C0 = true) (tt12 : PySem.W.typeIn K (.ref C0) = some (.type "type")) (tb12 : PySem.W.subIn K (.ref C0) (.type "BaseException") = some true)
    (self0 : PySem.W.subIn K (.ref C0) (.ref C0) = some true)
    (kx0 : PySem.W.subIn K (.ref C0) (.ref N1) = some true)
    (ki0 : PySem.W.subIn K (.ref C0) (.ref N0) = some false)
    (ki1 : PySem.W.subIn K (.ref C0) (.ref N2) = some false)
    (ki2 : PySem.W.subIn K (.ref C0) (.ref N3) = some false)
    (ki3 : PySem.W.subIn K (.ref C0) (.ref N4) = some false)
    (ki4 : PySem.W.subIn K (.ref C0) (.ref N5) = some false)
    (ki5 : PySem.W.subIn K (.ref C0) (.ref N6) = some false)
    (ki6 : PySem.W.subIn K (.ref C0) (.ref N7) = some false)
    (ki7 : PySem.W.subIn K (.ref C0) (.ref N8) = some false)
    (ki8 : PySem.W.subIn K (.ref C0) (.ref N9) = some false)
    (ki9 : PySem.W.subIn K (.ref C0) (.ref N10) = some false)
    (ki10 : PySem.W.subIn K (.ref C0) (.ref N11) = some false)
    (ki11 : PySem.W.subIn K (.ref C0) (.ref C0) = some true)
    (kv0 : PySem.W.subIn K (.ref C0) (.type "ValueError") = some true)
    {CL : Addr} (yl0 : PySem.W.nsIn K mainGlobals "Looks" = some (some (.ref CL))) (yl1 : PySem.W.makesIn K CL = true) (yl4 : PySem.W.keepIn K (.ref CL) = true) (yl5 : PySem.W.plainGet K CL Str.empty = true) (yl6 : PySem.W.hasDictIn K CL = true) (yl7 : PySem.W.plainOver K CL = true) (yl8 : PySem.W.findIn K (.ref CL) "__setattr__" = some (some (.builtin "object.__setattr__"))) (yl9 : PySem.W.findIn K (.ref CL) "rows" = some none) (yl10 : PySem.W.findIn K (.ref CL) "known" = some none)
    {fY0 : Addr} {odY0 anY0 : Option Addr} {slY0 : Array (Option Value)} {ocY0 kVY0 dcY0 pmY0 cdY0 ctY0 : Value}
    (ya0 : PySem.W.findIn K (.ref CL) "__init__" = some (some (.ref fY0))) (yf0 : PySem.W.isFn K (.ref fY0) = true) (ye0 : K.lookup fY0 = some ⟨ocY0, odY0, .func (PySem.W.fnOf "__init__" "Looks.__init__" (defArgs s_init) (defBody s_init) (defScope s_init) .none kVY0 dcY0 pmY0 anY0 cdY0 ctY0), slY0⟩) (yc0 : PySem.W.codeIn K cdY0 "Looks.__init__" = true) (yk0 : PySem.W.keepIn K (.ref fY0) = true)
    {fY1 : Addr} {odY1 anY1 : Option Addr} {slY1 : Array (Option Value)} {ocY1 kVY1 dcY1 pmY1 cdY1 ctY1 : Value}
    (ya1 : PySem.W.findIn K (.ref CL) "parted" = some (some (.ref fY1))) (yf1 : PySem.W.isFn K (.ref fY1) = true) (ye1 : K.lookup fY1 = some ⟨ocY1, odY1, .func (PySem.W.fnOf "parted" "Looks.parted" (defArgs s_parted) (defBody s_parted) (defScope s_parted) .none kVY1 dcY1 pmY1 anY1 cdY1 ctY1), slY1⟩) (yc1 : PySem.W.codeIn K cdY1 "Looks.parted" = true) (yk1 : PySem.W.keepIn K (.ref fY1) = true)
    {fY2 : Addr} {odY2 anY2 : Option Addr} {slY2 : Array (Option Value)} {ocY2 kVY2 dcY2 pmY2 cdY2 ctY2 : Value}
    (ya2 : PySem.W.findIn K (.ref CL) "best" = some (some (.ref fY2))) (yf2 : PySem.W.isFn K (.ref fY2) = true) (ye2 : K.lookup fY2 = some ⟨ocY2, odY2, .func (PySem.W.fnOf "best" "Looks.best" (defArgs s_best) (defBody s_best) (defScope s_best) .none kVY2 dcY2 pmY2 anY2 cdY2 ctY2), slY2⟩) (yc2 : PySem.W.codeIn K cdY2 "Looks.best" = true) (yk2 : PySem.W.keepIn K (.ref fY2) = true)
    {fY3 : Addr} {odY3 anY3 : Option Addr} {slY3 : Array (Option Value)} {ocY3 kVY3 dcY3 pmY3 cdY3 ctY3 : Value}
    (ya3 : PySem.W.findIn K (.ref CL) "tree" = some (some (.ref fY3))) (yf3 : PySem.W.isFn K (.ref fY3) = true) (ye3 : K.lookup fY3 = some ⟨ocY3, odY3, .func (PySem.W.fnOf "tree" "Looks.tree" (defArgs s_tree) (defBody s_tree) (defScope s_tree) .none kVY3 dcY3 pmY3 anY3 cdY3 ctY3), slY3⟩) (yc3 : PySem.W.codeIn K cdY3 "Looks.tree" = true) (yk3 : PySem.W.keepIn K (.ref fY3) = true)
    (z0 : PySem.W.nsIn K mainGlobals "ValueError" = some none)
    (z1 : PySem.W.nsIn K mainGlobals "all" = some none)
    (z2 : PySem.W.nsIn K mainGlobals "bool" = some none)
    (z3 : PySem.W.nsIn K mainGlobals "int" = some none)
    (z4 : PySem.W.nsIn K mainGlobals "isinstance" = some none)
    (z5 : PySem.W.nsIn K mainGlobals "len" = some none)
    (z6 : PySem.W.nsIn K mainGlobals "list" = some none)
    (z7 : PySem.W.nsIn K mainGlobals "max" = some none)
    (z8 : PySem.W.nsIn K mainGlobals "min" = some none)
    (z9 : PySem.W.nsIn K mainGlobals "range" = some none)
    (z10 : PySem.W.nsIn K mainGlobals "set" = some none)
    (z11 : PySem.W.nsIn K mainGlobals "sorted" = some none)
    (z12 : PySem.W.nsIn K mainGlobals "sum" = some none)
    (z13 : PySem.W.nsIn K mainGlobals "tuple" = some none)
    : ∃ fd : FuncData, (∀ (s : Shared) (u : Value), BindsTo s fd ⟨[u], []⟩ [("script", u)]) ∧ ∀ base : Heap, K.In base → base.Ns mainGlobals mg → FnOk l.prog w K mg base (L2N.CX l.prog w) 86 fa fd ["script"] (spL K 63) :=
  have T : Txt K mg := ⟨def_mk X G a0 l0 c0 k0, def_mk X G a1 l1 c1 k1, def_mk X G a2 l2 c2 k2, def_mk X G a3 l3 c3 k3, def_mk X G a4 l4 c4 k4, def_mk X G a5 l5 c5 k5, def_mk X G a6 l6 c6 k6, def_mk X G a7 l7 c7 k7, def_mk X G a8 l8 c8 k8, def_mk X G a9 l9 c9 k9, def_mk X G a10 l10 c10 k10, def_mk X G a11 l11 c11 k11, def_mk X G a12 l12 c12 k12, def_mk X G a13 l13 c13 k13, def_mk X G a14 l14 c14 k14, def_mk X G a15 l15 c15 k15, def_mk X G a16 l16 c16 k16, def_mk X G a17 l17 c17 k17, def_mk X G a18 l18 c18 k18, def_mk X G a19 l19 c19 k19, def_mk X G a20 l20 c20 k20, def_mk X G a21 l21 c21 k21, def_mk X G a22 l22 c22 k22, ⟨_, PySem.W.mg_of X G u0⟩, ⟨_, PySem.W.mg_of X G u1⟩, ⟨⟨_, PySem.W.mg_of X G x0, xe0, xk0, xb0, xt0⟩⟩, PySem.W.mg_none_of X G z0, PySem.W.mg_none_of X G z1, PySem.W.mg_none_of X G z2, PySem.W.mg_none_of X G z3, PySem.W.mg_none_of X G z4, PySem.W.mg_none_of X G z5, PySem.W.mg_none_of X G z6, PySem.W.mg_none_of X G z7, PySem.W.mg_none_of X G z8, PySem.W.mg_none_of X G z9, PySem.W.mg_none_of X G z10, PySem.W.mg_none_of X G z11, PySem.W.mg_none_of X G z12, PySem.W.mg_none_of X G z13, ⟨⟨_, PySem.W.mg_of X G n1, (all_cons ⟨C0, PySem.W.mg_of X G x0, PySem.W.exm_ref tb1 td1 tt1 kx0⟩ all_nil)⟩⟩, (all_cons ⟨⟨C0, PySem.W.mg_of X G x0, ⟨hg0, hk0, hs0, hd0, ha0, hn0, ht0, hm0⟩⟩⟩ all_nil), ⟨⟨_, PySem.W.mg_of X G n1, (all_cons ⟨C0, PySem.W.mg_of X G x0, PySem.W.exm_ref tb1 td1 tt1 kx0⟩ all_nil)⟩⟩, (all_cons ⟨⟨C0, PySem.W.mg_of X G x0, ⟨hg0, hk0, hs0, hd0, ha0, hn0, ht0, hm0⟩⟩⟩ all_nil), ⟨PySem.W.mg_none_of X G z0, (all_cons ⟨C0, PySem.W.mg_of X G x0, kit_ve kv0⟩ all_nil)⟩, ⟨⟨_, PySem.W.mg_of X G n0, (all_cons ⟨C0, PySem.W.mg_of X G x0, isi_of (kit_own self0 td0 tt0 ki0)⟩ all_nil)⟩⟩, ⟨⟨_, PySem.W.mg_of X G n2, (all_cons ⟨C0, PySem.W.mg_of X G x0, isi_of (kit_own self0 td2 tt2 ki1)⟩ all_nil)⟩⟩, ⟨⟨_, PySem.W.mg_of X G n3, (all_cons ⟨C0, PySem.W.mg_of X G x0, isi_of (kit_own self0 td3 tt3 ki2)⟩ all_nil)⟩⟩, ⟨⟨_, PySem.W.mg_of X G n4, (all_cons ⟨C0, PySem.W.mg_of X G x0, isi_of (kit_own self0 td4 tt4 ki3)⟩ all_nil)⟩⟩, ⟨⟨_, PySem.W.mg_of X G n5, (all_cons ⟨C0, PySem.W.mg_of X G x0, isi_of (kit_own self0 td5 tt5 ki4)⟩ all_nil)⟩⟩, ⟨⟨_, PySem.W.mg_of X G n6, (all_cons ⟨C0, PySem.W.mg_of X G x0, isi_of (kit_own self0 td6 tt6 ki5)⟩ all_nil)⟩⟩, ⟨⟨_, PySem.W.mg_of X G n7, (all_cons ⟨C0, PySem.W.mg_of X G x0, isi_of (kit_own self0 td7 tt7 ki6)⟩ all_nil)⟩⟩, ⟨⟨_, PySem.W.mg_of X G n8, (all_cons ⟨C0, PySem.W.mg_of X G x0, isi_of (kit_own self0 td8 tt8 ki7)⟩ all_nil)⟩⟩, ⟨⟨_, PySem.W.mg_of X G n9, (all_cons ⟨C0, PySem.W.mg_of X G x0, isi_of (kit_own self0 td9 tt9 ki8)⟩ all_nil)⟩⟩, ⟨⟨_, PySem.W.mg_of X G n10, (all_cons ⟨C0, PySem.W.mg_of X G x0, isi_of (kit_own self0 td10 tt10 ki9)⟩ all_nil)⟩⟩, ⟨⟨_, PySem.W.mg_of X G n11, (all_cons ⟨C0, PySem.W.mg_of X G x0, isi_of (kit_own self0 td11 tt11 ki10)⟩ all_nil)⟩⟩, ⟨⟨_, PySem.W.mg_of X G x0, (all_cons ⟨C0, PySem.W.mg_of X G x0, isi_of (kit_own self0 td12 tt12 ki11)⟩ all_nil)⟩⟩, ⟨CL, ⟨⟨⟨fY0, _, PySem.W.mg_of X G yl0, ⟨yl1, ya0, yf0, yl4⟩, fun_mk ye0 yc0 yk0, ⟨⟨yl5, yl6, yl7, yl8⟩, yl9, yl10⟩⟩⟩, ⟨⟨fY1, _, ⟨ya1, yf1, yk1⟩, fun_mk ye1 yc1 yk1⟩⟩, ⟨⟨fY2, _, ⟨ya2, yf2, yk2⟩, fun_mk ye2 yc2 yk2⟩⟩, ⟨⟨fY3, _, ⟨ya3, yf3, yk3⟩, fun_mk ye3 yc3 yk3⟩⟩⟩⟩⟩
  law_all X G hfa hg (fun base {f} {fd} F => ok_law T F) (fun _ _ _ _ _ _ s u => .of_eq rfl) a23 l23 c23 k23
end K87
open PySem PySem.W PyProof.Rows
set_option maxHeartbeats 0 in
theorem PySem.Challenge.cw_switchnets_k87_fewest_looks_holds : PySem.Challenge.rw_switchnets_k87_fewest_looks.Holds := by
  w_on; o_law; k_head; (case hw => w_witness2)
  k_fill
  refine L2.walk_ofB (l := PySem.Challenge.rw_switchnets_k87_fewest_looks) (n := 63) (k := 86) (x := "script") (CX := fun w => L2N.CX PySem.Challenge.rw_switchnets_k87_fewest_looks.prog w) (sp := fun w => Y.spL _ 63) rfl (by decide) rfl ⟨rfl, by decide, by decide⟩ (fun w h Z => PySem.W.kIn_of Z) ?F (fun _ _ a ns hl hb _ hS => ⟨a, ns, rfl, hS, hl, hb, fun _ => rfl⟩) (fun _ _ _ _ _ h => Y.cx_none h)
  case F =>
    intro w mg fa h KX G hmg
    refine' K87.all KX G hmg K87.good_law ?a0 ?l0 ?c0 ?k0 ?a1 ?l1 ?c1 ?k1 ?a2 ?l2 ?c2 ?k2 ?a3 ?l3 ?c3 ?k3 ?a4 ?l4 ?c4 ?k4 ?a5 ?l5 ?c5 ?k5 ?a6 ?l6 ?c6 ?k6 ?a7 ?l7 ?c7 ?k7 ?a8 ?l8 ?c8 ?k8 ?a9 ?l9 ?c9 ?k9 ?a10 ?l10 ?c10 ?k10 ?a11 ?l11 ?c11 ?k11 ?a12 ?l12 ?c12 ?k12 ?a13 ?l13 ?c13 ?k13 ?a14 ?l14 ?c14 ?k14 ?a15 ?l15 ?c15 ?k15 ?a16 ?l16 ?c16 ?k16 ?a17 ?l17 ?c17 ?k17 ?a18 ?l18 ?c18 ?k18 ?a19 ?l19 ?c19 ?k19 ?a20 ?l20 ?c20 ?k20 ?a21 ?l21 ?c21 ?k21 ?a22 ?l22 ?c22 ?k22 ?a23 ?l23 ?c23 ?k23 ?u0 ?u1 ?x0 ?xe0 ?xk0 ?xb0 ?xt0 ?n0 ?n1 ?n2 ?n3 ?n4 ?n5 ?n6 ?n7 ?n8 ?n9 ?n10 ?n11 ?hg0 ?hk0 ?hs0 ?hd0 ?ha0 ?hn0 ?ht0 ?hm0 ?td0 ?tt0 ?tb0 ?td1 ?tt1 ?tb1 ?td2 ?tt2 ?tb2 ?td3 ?tt3 ?tb3 ?td4 ?tt4 ?tb4 ?td5 ?tt5 ?tb5 ?td6 ?tt6 ?tb6 ?td7 ?tt7 ?tb7 ?td8 ?tt8 ?tb8 ?td9 ?tt9 ?tb9 ?td10 ?tt10 ?tb10 ?td11 ?tt11 ?tb11 ?td12 ?tt12 ?tb12 ?self0 ?kx0 ?ki0 ?ki1 ?ki2 ?ki3 ?ki4 ?ki5 ?ki6 ?ki7 ?ki8 ?ki9 ?ki10 ?ki11 ?kv0 ?yl0 ?yl1 ?yl4 ?yl5 ?yl6 ?yl7 ?yl8 ?yl9 ?yl10 ?ya0 ?yf0 ?ye0 ?yc0 ?yk0 ?ya1 ?yf1 ?ye1 ?yc1 ?yk1 ?ya2 ?yf2 ?ye2 ?yc2 ?yk2 ?ya3 ?yf3 ?ye3 ?yc3 ?yk3 ?z0 ?z1 ?z2 ?z3 ?z4 ?z5 ?z6 ?z7 ?z8 ?z9 ?z10 ?z11 ?z12 ?z13
    (case a0 => k_is); (case l0 => k_is); (case c0 => k_is); (case k0 => k_is); (case a1 => k_is); (case l1 => k_is); (case c1 => k_is); (case k1 => k_is); (case a2 => k_is); (case l2 => k_is); (case c2 => k_is); (case k2 => k_is); (case a3 => k_is); (case l3 => k_is); (case c3 => k_is); (case k3 => k_is); (case a4 => k_is); (case l4 => k_is); (case c4 => k_is); (case k4 => k_is); (case a5 => k_is); (case l5 => k_is); (case c5 => k_is); (case k5 => k_is); (case a6 => k_is); (case l6 => k_is); (case c6 => k_is); (case k6 => k_is); (case a7 => k_is); (case l7 => k_is); (case c7 => k_is); (case k7 => k_is); (case a8 => k_is); (case l8 => k_is); (case c8 => k_is); (case k8 => k_is); (case a9 => k_is); (case l9 => k_is); (case c9 => k_is); (case k9 => k_is); (case a10 => k_is); (case l10 => k_is); (case c10 => k_is); (case k10 => k_is); (case a11 => k_is); (case l11 => k_is); (case c11 => k_is); (case k11 => k_is); (case a12 => k_is); (case l12 => k_is); (case c12 => k_is); (case k12 => k_is); (case a13 => k_is); (case l13 => k_is); (case c13 => k_is); (case k13 => k_is); (case a14 => k_is); (case l14 => k_is); (case c14 => k_is); (case k14 => k_is); (case a15 => k_is); (case l15 => k_is); (case c15 => k_is); (case k15 => k_is); (case a16 => k_is); (case l16 => k_is); (case c16 => k_is); (case k16 => k_is); (case a17 => k_is); (case l17 => k_is); (case c17 => k_is); (case k17 => k_is); (case a18 => k_is); (case l18 => k_is); (case c18 => k_is); (case k18 => k_is); (case a19 => k_is); (case l19 => k_is); (case c19 => k_is); (case k19 => k_is); (case a20 => k_is); (case l20 => k_is); (case c20 => k_is); (case k20 => k_is); (case a21 => k_is); (case l21 => k_is); (case c21 => k_is); (case k21 => k_is); (case a22 => k_is); (case l22 => k_is); (case c22 => k_is); (case k22 => k_is); (case a23 => k_is); (case l23 => k_is); (case c23 => k_is); (case k23 => k_is); (case u0 => k_is); (case u1 => k_is); (case x0 => k_is); (case xe0 => k_exc); (case xk0 => k_is); (case xb0 => k_is); (case xt0 => k_is); (case n0 => k_is); (case n1 => k_is); (case n2 => k_is); (case n3 => k_is); (case n4 => k_is); (case n5 => k_is); (case n6 => k_is); (case n7 => k_is); (case n8 => k_is); (case n9 => k_is); (case n10 => k_is); (case n11 => k_is); (case hg0 => k_is); (case hk0 => k_is); (case hs0 => k_is); (case hd0 => k_is); (case ha0 => k_is); (case hn0 => k_is); (case ht0 => k_is); (case hm0 => k_is); (case td0 => k_is); (case tt0 => k_is); (case tb0 => k_is); (case td1 => k_is); (case tt1 => k_is); (case tb1 => k_is); (case td2 => k_is); (case tt2 => k_is); (case tb2 => k_is); (case td3 => k_is); (case tt3 => k_is); (case tb3 => k_is); (case td4 => k_is); (case tt4 => k_is); (case tb4 => k_is); (case td5 => k_is); (case tt5 => k_is); (case tb5 => k_is); (case td6 => k_is); (case tt6 => k_is); (case tb6 => k_is); (case td7 => k_is); (case tt7 => k_is); (case tb7 => k_is); (case td8 => k_is); (case tt8 => k_is); (case tb8 => k_is); (case td9 => k_is); (case tt9 => k_is); (case tb9 => k_is); (case td10 => k_is); (case tt10 => k_is); (case tb10 => k_is); (case td11 => k_is); (case tt11 => k_is); (case tb11 => k_is); (case td12 => k_is); (case tt12 => k_is); (case tb12 => k_is); (case self0 => k_is); (case kx0 => k_is); (case ki0 => k_is); (case ki1 => k_is); (case ki2 => k_is); (case ki3 => k_is); (case ki4 => k_is); (case ki5 => k_is); (case ki6 => k_is); (case ki7 => k_is); (case ki8 => k_is); (case ki9 => k_is); (case ki10 => k_is); (case ki11 => k_is); (case kv0 => k_is); (case yl0 => (first | k_is | kernel_rfl | decide +kernel)); (case yl1 => (first | k_is | kernel_rfl | decide +kernel)); (case yl4 => (first | k_is | kernel_rfl | decide +kernel)); (case yl5 => (first | k_is | kernel_rfl | decide +kernel)); (case yl6 => (first | k_is | kernel_rfl | decide +kernel)); (case yl7 => (first | k_is | kernel_rfl | decide +kernel)); (case yl8 => (first | k_is | kernel_rfl | decide +kernel)); (case yl9 => (first | k_is | kernel_rfl | decide +kernel)); (case yl10 => (first | k_is | kernel_rfl | decide +kernel)); (case ya0 => (first | k_is | kernel_rfl | decide +kernel)); (case yf0 => (first | k_is | kernel_rfl | decide +kernel)); (case ye0 => (first | k_is | kernel_rfl | decide +kernel)); (case yc0 => (first | k_is | kernel_rfl | decide +kernel)); (case yk0 => (first | k_is | kernel_rfl | decide +kernel)); (case ya1 => (first | k_is | kernel_rfl | decide +kernel)); (case yf1 => (first | k_is | kernel_rfl | decide +kernel)); (case ye1 => (first | k_is | kernel_rfl | decide +kernel)); (case yc1 => (first | k_is | kernel_rfl | decide +kernel)); (case yk1 => (first | k_is | kernel_rfl | decide +kernel)); (case ya2 => (first | k_is | kernel_rfl | decide +kernel)); (case yf2 => (first | k_is | kernel_rfl | decide +kernel)); (case ye2 => (first | k_is | kernel_rfl | decide +kernel)); (case yc2 => (first | k_is | kernel_rfl | decide +kernel)); (case yk2 => (first | k_is | kernel_rfl | decide +kernel)); (case ya3 => (first | k_is | kernel_rfl | decide +kernel)); (case yf3 => (first | k_is | kernel_rfl | decide +kernel)); (case ye3 => (first | k_is | kernel_rfl | decide +kernel)); (case yc3 => (first | k_is | kernel_rfl | decide +kernel)); (case yk3 => (first | k_is | kernel_rfl | decide +kernel)); (case z0 => k_is); (case z1 => k_is); (case z2 => k_is); (case z3 => k_is); (case z4 => k_is); (case z5 => k_is); (case z6 => k_is); (case z7 => k_is); (case z8 => k_is); (case z9 => k_is); (case z10 => k_is); (case z11 => k_is); (case z12 => k_is); (case z13 => k_is)

