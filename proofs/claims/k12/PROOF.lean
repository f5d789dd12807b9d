import PyProof.Rows.All
import Wide.All
import OpenK.AllK
import Wide.FinOn
import HandS.ForMost
import HandS.TupAny
import HandS.Wide
import HandS.IsInst
import HandS.Deep
import HandS.Flow
import HandS.Lambda
import HandS.TupMul
import HandS.TupLe
import HandS.TupLen
import HandS.SortOrd
import HandS.SortInts
import HandS.Walk
import HandS.Zip
import HandS.ForExc
import HandS.EndBits
import HandS.ExcCtx
import HandS.HotCalls
import HandS.Conv
import HandS.SortRule
import KE.KSortTup
import PyProof.Rows.SortShell
import PyProof.Rows.SortShellAny
import HandS.Text
import PyProof.AutoSeq1
import KE.GoesZip
import KE.GoesMore
import KE.GoesEnum
import HandS.ExcIs
import HandS.SetFor
import HandS.Strs
import HandS.Replace
import KE.KRevSl
import HandS.Dict
import HandS.Iter
import KE.KDictWalk
import KE.KEqDict
import KE.KDictSum
import KE.KDictCopyH
import HandS.More
import KE.SortData
import KE.KDictDisplayH
import HandS.SetKeys
import PyProof.WalksMore
import PyProof.SumAny
import KE.KDictZip
import KE.KDictItemsList
import HandS.ListItems
import KE.DataMinMax
import KE.KDictKeyed
import KE.KDictList
import KE.KTupSum
import HandS.Rev
import HandS.TupSets
import KE.KDictPairs
import KE.KIndexOf
import HandS.Codes
import KE.KSortRegSt
import KE.KxWritten
import HandS.EndTab
import KE.SortKeyHeap
import PyProof.Rows.Tup
import PyProof.FactsAll.set_2
import HandS.TryOnly
import HandS.StrMore
import PyProof.Rows.StrRev
import HandS.Comp
import PySem.Challenge.RW_switchnets_k12_formulas_and_others
set_option Elab.async false
set_option linter.all false
set_option maxRecDepth 100000
namespace Y
open PySem PySem.Spec PyProof.Rows L2
abbrev St := L2.St

/-- data at any depth; lists, dicts by what they hold; arg: the script; ftu: a tuple whose object is known to have no dict of its own; tab: a code object's table, its lambdas' name -/
inductive D where
  | non | bl (b : Bool) | int (i : Int) | str (x : Str) | tup (xs : List D) | lst (xs : List D)
  | arg (ns : List Int) | dik (ks : List Key) (ds : List D) | dit (ks : List (List Key)) (ds : List D) | ftu (xs : List D) | tab (p : Addr) (q : Str)
instance : Inhabited D := ⟨.non⟩
/-- a way of a run: an end, an exception of the program's own, anything else -/
inductive R (α : Type) where
  | ok (a : α) | er (c : Str) (ds : List D) | stk
@[simp] def R.bind {α β : Type} : R α → (α → R β) → R β
  | .ok a, f => f a
  | .er c ds, _ => .er c ds
  | .stk, _ => .stk
instance : Monad R where
  pure := .ok
  bind := R.bind
@[simp] theorem R.bind_ok {α β : Type} (a : α) (f : α → R β) : (R.ok a >>= f) = f a := id rfl
@[simp] theorem R.bind_stk {α β : Type} (f : α → R β) : ((R.stk : R α) >>= f) = .stk := id rfl
@[simp] theorem R.bind_er {α β : Type} (c : Str) (ds : List D) (f : α → R β) : ((R.er c ds : R α) >>= f) = .er c ds := id rfl
@[simp] theorem R.pure_eq {α : Type} (a : α) : (pure a : R α) = .ok a := id rfl
/-- the names' data by slot -/
abbrev Env := List (Option D)
/-- what an expression hands on: new data, data, or the object of an own slot -/
inductive Hd where
  | fr (d : D) | vl (d : D) | ow (i : Nat)
abbrev EM := Env → R (Hd × Env)
def look (i : Nat) (ρ : Env) : R D := match ρ[i]? with
  | some (some d) => .ok d
  | _ => .stk
def Hd.d : Hd → Env → R D
  | .fr d, _ => .ok d
  | .vl d, _ => .ok d
  | .ow i, ρ => look i ρ
def Hd.v : Hd → R D
  | .fr d => .ok d
  | .vl d => .ok d
  | .ow _ => .stk
def D.isMu : D → Bool
  | .lst _ => true
  | .dik _ _ => true
  | .dit _ _ => true
  | .arg _ => true
  | .tab _ _ => true
  | _ => false

abbrev Pr := Addr → Prop
/-- the table at p -/
def TabP (H : Hp) (p : Addr) (q : Str) (a : Addr) : Prop := a = p ∧ LamX.TabS H a q
mutual
/-- v is d, over objects none of which is forbidden (tuples never change: they may be any) -/
def Rep (K : PySem.W.Frag) (H : Hp) : D → Pr → V → Prop
  | .non, _, v => v = .non
  | .bl b, _, v => v = .bl b
  | .int i, _, v => v = .int i
  | .str x, _, v => v = .str x
  | .tup ds, P, v => ∃ a vs, v = .ref a ∧ H a = some (.tup vs) ∧ Reps K H ds P vs
  | .ftu ds, P, v => ∃ a vs o, v = .ref a ∧ H a = some (.frz o (.tup vs)) ∧ o.dict = none ∧ Reps K H ds P vs
  | .tab p q, P, v => ∃ a, v = .ref a ∧ ¬ P a ∧ TabP H p q a
  | .lst ds, P, v => ∃ a vs, v = .ref a ∧ ¬ P a ∧ H a = some (.lst vs) ∧ Reps K H ds (fun b => P b ∨ b = a) vs
  | .arg ns, P, v => ∃ a, v = .ref a ∧ ((¬ P a ∧ Rd H a (.lst (ns.map V.int))) ∨ SqL K (fun _ => none) a (ns.map V.int))
  | .dik ks ds, P, v => ∃ a vs, v = .ref a ∧ ¬ P a ∧ ks.length = vs.length ∧ Rd H a (.dK (ks.zip vs)) ∧ Reps K H ds (fun b => P b ∨ b = a) vs
  | .dit ks ds, P, v => ∃ a vs, v = .ref a ∧ ¬ P a ∧ ks.length = vs.length ∧ Rd H a (.dT (ks.zip vs)) ∧ Reps K H ds (fun b => P b ∨ b = a) vs
def Reps (K : PySem.W.Frag) (H : Hp) : List D → Pr → List V → Prop
  | [], _, vs => vs = []
  | d :: ds, P, vs => ∃ v ws, vs = v :: ws ∧ Rep K H d P v ∧ Reps K H ds P ws
end
/-- the object itself may be forbidden, what it holds not -/
def RepW (K : PySem.W.Frag) (H : Hp) : D → Pr → V → Prop
  | .lst ds, P, v => ∃ a vs, v = .ref a ∧ H a = some (.lst vs) ∧ Reps K H ds P vs
  | .arg ns, P, v => ∃ a, v = .ref a ∧ SqL K H a (ns.map V.int)
  | .dik ks ds, P, v => ∃ a vs, v = .ref a ∧ ks.length = vs.length ∧ Rd H a (.dK (ks.zip vs)) ∧ Reps K H ds P vs
  | .dit ks ds, P, v => ∃ a vs, v = .ref a ∧ ks.length = vs.length ∧ Rd H a (.dT (ks.zip vs)) ∧ Reps K H ds P vs
  | .tab p q, P, v => ∃ a, v = .ref a ∧ TabP H p q a
  | d, P, v => Rep K H d P v
/-- an own slot's object: it may be written -/
def RepO (K : PySem.W.Frag) (H : Hp) : D → Pr → V → Prop
  | .lst ds, P, v => ∃ a vs, v = .ref a ∧ H a = some (.lst vs) ∧ Reps K H ds P vs
  | .dik ks ds, P, v => ∃ a vs, v = .ref a ∧ ks.length = vs.length ∧ H a = some (.dK (ks.zip vs)) ∧ Reps K H ds P vs
  | .dit ks ds, P, v => ∃ a vs, v = .ref a ∧ ks.length = vs.length ∧ H a = some (.dT (ks.zip vs)) ∧ Reps K H ds P vs
  | .non, _, v => v = .non
  | .bl b, _, v => v = .bl b
  | .int i, _, v => v = .int i
  | .str x, _, v => v = .str x
  | .tab p q, _, v => ∃ a, v = .ref a ∧ TabP H p q a
  | _, _, _ => False

/-- an object that may change (or a list, a dict that is locked) -/
def isMut : Option HO → Prop
  | some (.lst _) => True
  | some (.dK _) => True
  | some (.dT _) => True
  | some (.ins _ _ _) => True
  | some (.set _ _) => True
  | some (.frz _ (.lst _)) => True
  | some (.frz _ (.dK _)) => True
  | some (.frz _ (.dT _)) => True
  | some (.tbl _) => True
  | _ => False
theorem isMut.nt {H : Hp} {b : Addr} (h : isMut (H b)) {xs : List V} : ¬ Rd H b (.tup xs) := by
  rintro (e | ⟨o, e⟩) <;> (rw [e] at h; exact h)
theorem isMut.some {o : Option HO} (h : isMut o) : o ≠ none := by rintro rfl; exact h
theorem Rd.keep {H H' : Hp} {a : Addr} {u : HO} (r : Rd H a u) (k : ∀ o, H a = some o → H' a = some o) : Rd H' a u := by
  rcases r with e | ⟨o, e⟩
  · exact .inl (k _ e)
  · exact .inr ⟨o, k _ e⟩
theorem Rd.some {H : Hp} {a : Addr} {u : HO} (r : Rd H a u) : H a ≠ none := by
  rcases r with e | ⟨o, e⟩ <;> (rw [e]; intro z; cases z)

theorem TabP.ext {H H' : Hp} {p a : Addr} {q : Str} (t : TabP H p q a) (e : ∀ b o, H b = some o → H' b = some o) : TabP H' p q a := ⟨t.1, t.2.ext e⟩
theorem TabS.mono {H H' : Hp} {P : Pr} {p a : Addr} {q : Str} (hm : ∀ b, P b → isMut (H b)) (k : ∀ b o, H b = some o → ¬ P b → H' b = some o) (ka : ∀ o, H a = some o → H' a = some o) (t : TabP H p q a) : TabP H' p q a := by
  obtain ⟨e, ps, h1, h2, h3⟩ := t
  refine ⟨e, ps, ka _ h1, h2, fun pos cv hc => ?_⟩
  obtain ⟨c, e1, e2⟩ := h3 pos cv hc
  exact ⟨c, e1, k _ _ e2 fun z => by have := hm c z; rw [e2] at this; exact this⟩
section
variable {K : PySem.W.Frag} {H H' : Hp}
mutual
theorem Rep.mono : ∀ (d : D) {P P' : Pr} {v : V}, (∀ b, P b → isMut (H b)) → (∀ b o, H b = some o → ¬ P b → H' b = some o) → (∀ b, P' b → P b ∨ H b = none) → Rep K H d P v → Rep K H' d P' v
  | .non, _, _, _, _, _, _, h => by unfold Rep at h ⊢; exact h
  | .bl _, _, _, _, _, _, _, h => by unfold Rep at h ⊢; exact h
  | .int _, _, _, _, _, _, _, h => by unfold Rep at h ⊢; exact h
  | .str _, _, _, _, _, _, _, h => by unfold Rep at h ⊢; exact h
  | .tup ds, P, P', v, hm, k, hp, h => by
    unfold Rep at h ⊢
    obtain ⟨a, vs, rfl, ht, hr⟩ := h
    exact ⟨a, vs, rfl, k a _ ht fun z => (hm a z).nt (.inl ht), Reps.mono ds hm k hp hr⟩
  | .ftu ds, P, P', v, hm, k, hp, h => by
    unfold Rep at h ⊢
    obtain ⟨a, vs, o, rfl, ht, hd, hr⟩ := h
    exact ⟨a, vs, o, rfl, k a _ ht fun z => (hm a z).nt (.inr ⟨o, ht⟩), hd, Reps.mono ds hm k hp hr⟩
  | .tab p q, P, P', v, hm, k, hp, h => by
    unfold Rep at h ⊢
    obtain ⟨a, rfl, ha, ht⟩ := h
    refine ⟨a, rfl, fun z => ?_, TabS.mono hm k (fun o e => k a o e ha) ht⟩
    rcases hp a z with z | z
    · exact ha z
    · obtain ⟨_, ps, h1, _⟩ := ht
      rw [h1] at z; cases z
  | .lst ds, P, P', v, hm, k, hp, h => by
    unfold Rep at h ⊢
    obtain ⟨a, vs, rfl, ha, ht, hr⟩ := h
    refine ⟨a, vs, rfl, fun z => ?_, k a _ ht ha, Reps.mono ds (P := fun b => P b ∨ b = a) (fun b z => ?_) (fun b o e n => k b o e fun z => n (.inl z)) (fun b z => ?_) hr⟩
    · rcases hp a z with z | z
      · exact ha z
      · rw [ht] at z; cases z
    · rcases z with z | rfl
      · exact hm b z
      · rw [ht]; trivial
    · rcases z with z | z
      · rcases hp b z with z | z
        · exact .inl (.inl z)
        · exact .inr z
      · exact .inl (.inr z)
  | .arg ns, P, P', v, hm, k, hp, h => by
    unfold Rep at h ⊢
    obtain ⟨a, rfl, h⟩ := h
    refine ⟨a, rfl, ?_⟩
    rcases h with ⟨ha, ht⟩ | h
    · refine .inl ⟨fun z => ?_, Rd.keep ht fun o e => k a o e ha⟩
      rcases hp a z with z | z
      · exact ha z
      · exact Rd.some ht z
    · exact .inr h
  | .dik ks ds, P, P', v, hm, k, hp, h => by
    unfold Rep at h ⊢
    obtain ⟨a, vs, rfl, ha, hl, ht, hr⟩ := h
    refine ⟨a, vs, rfl, fun z => ?_, hl, Rd.keep ht fun o e => k a o e ha, Reps.mono ds (P := fun b => P b ∨ b = a) (fun b z => ?_) (fun b o e n => k b o e fun z => n (.inl z)) (fun b z => ?_) hr⟩
    · rcases hp a z with z | z
      · exact ha z
      · exact Rd.some ht z
    · rcases z with z | rfl
      · exact hm b z
      · rcases ht with e | ⟨o, e⟩ <;> (rw [e]; trivial)
    · rcases z with z | z
      · rcases hp b z with z | z
        · exact .inl (.inl z)
        · exact .inr z
      · exact .inl (.inr z)
  | .dit ks ds, P, P', v, hm, k, hp, h => by
    unfold Rep at h ⊢
    obtain ⟨a, vs, rfl, ha, hl, ht, hr⟩ := h
    refine ⟨a, vs, rfl, fun z => ?_, hl, Rd.keep ht fun o e => k a o e ha, Reps.mono ds (P := fun b => P b ∨ b = a) (fun b z => ?_) (fun b o e n => k b o e fun z => n (.inl z)) (fun b z => ?_) hr⟩
    · rcases hp a z with z | z
      · exact ha z
      · exact Rd.some ht z
    · rcases z with z | rfl
      · exact hm b z
      · rcases ht with e | ⟨o, e⟩ <;> (rw [e]; trivial)
    · rcases z with z | z
      · rcases hp b z with z | z
        · exact .inl (.inl z)
        · exact .inr z
      · exact .inl (.inr z)
theorem Reps.mono : ∀ (ds : List D) {P P' : Pr} {vs : List V}, (∀ b, P b → isMut (H b)) → (∀ b o, H b = some o → ¬ P b → H' b = some o) → (∀ b, P' b → P b ∨ H b = none) → Reps K H ds P vs → Reps K H' ds P' vs
  | [], _, _, _, _, _, _, h => by unfold Reps at h ⊢; exact h
  | d :: ds, P, P', vs, hm, k, hp, h => by
    unfold Reps at h ⊢
    obtain ⟨v, ws, rfl, h1, h2⟩ := h
    exact ⟨v, ws, rfl, Rep.mono d hm k hp h1, Reps.mono ds hm k hp h2⟩
end
theorem Reps.length : ∀ {ds : List D} {P : Pr} {vs : List V}, Reps K H ds P vs → vs.length = ds.length
  | [], _, _, h => by unfold Reps at h; subst h; rfl
  | d :: ds, P, vs, h => by
    unfold Reps at h
    obtain ⟨v, ws, rfl, _, h2⟩ := h
    rw [List.length_cons, List.length_cons, Reps.length h2]
theorem Reps.nil {P : Pr} : Reps K H [] P [] := by unfold Reps; rfl
theorem Reps.cons {d : D} {ds : List D} {P : Pr} {v : V} {vs : List V} (h : Rep K H d P v) (h2 : Reps K H ds P vs) : Reps K H (d :: ds) P (v :: vs) := by
  unfold Reps; exact ⟨v, vs, rfl, h, h2⟩
theorem Reps.nil_iff {P : Pr} {vs : List V} (h : Reps K H [] P vs) : vs = [] := by unfold Reps at h; exact h
theorem Reps.cons_iff {d : D} {ds : List D} {P : Pr} {vs : List V} (h : Reps K H (d :: ds) P vs) : ∃ v ws, vs = v :: ws ∧ Rep K H d P v ∧ Reps K H ds P ws := by unfold Reps at h; exact h
theorem Reps.get : ∀ {ds : List D} {P : Pr} {vs : List V} {i : Nat} {d : D}, Reps K H ds P vs → ds[i]? = some d → ∃ v, vs[i]? = some v ∧ Rep K H d P v
  | [], _, _, _, _, _, e => by simp at e
  | d :: ds, P, vs, 0, d', h, e => by
    obtain ⟨v, ws, rfl, h1, _⟩ := h.cons_iff
    simp at e; subst e
    exact ⟨v, rfl, h1⟩
  | d :: ds, P, vs, i + 1, d', h, e => by
    obtain ⟨v, ws, rfl, _, h2⟩ := h.cons_iff
    simpa using Reps.get h2 (by simpa using e)
theorem Reps.append : ∀ {ds es : List D} {P : Pr} {vs ws : List V}, Reps K H ds P vs → Reps K H es P ws → Reps K H (ds ++ es) P (vs ++ ws)
  | [], _, _, _, _, h, h2 => by rw [h.nil_iff]; exact h2
  | d :: ds, es, P, vs, ws, h, h2 => by
    obtain ⟨v, us, rfl, h1, h3⟩ := h.cons_iff
    exact Reps.cons h1 (Reps.append h3 h2)
/-- forbidding less -/
theorem Rep.less {d : D} {P P' : Pr} {v : V} (hm : ∀ b, P b → isMut (H b)) (h : Rep K H d P v) (hp : ∀ b, P' b → P b) : Rep K H d P' v := h.mono d hm (fun _ _ e _ => e) fun b z => .inl (hp b z)
theorem Reps.less {ds : List D} {P P' : Pr} {vs : List V} (hm : ∀ b, P b → isMut (H b)) (h : Reps K H ds P vs) (hp : ∀ b, P' b → P b) : Reps K H ds P' vs := h.mono ds hm (fun _ _ e _ => e) fun b z => .inl (hp b z)
/-- nothing that stood is changed -/
theorem Rep.same {d : D} {P : Pr} {v : V} (hm : ∀ b, P b → isMut (H b)) (h : Rep K H d P v) (k : Same H H') : Rep K H' d P v := h.mono d hm (fun b o e _ => k b o e) fun _ z => .inl z
theorem Reps.same {ds : List D} {P : Pr} {vs : List V} (hm : ∀ b, P b → isMut (H b)) (h : Reps K H ds P vs) (k : Same H H') : Reps K H' ds P vs := h.mono ds hm (fun b o e _ => k b o e) fun _ z => .inl z
theorem mutL {a : Addr} {P : Pr} {vs : List V} (hm : ∀ b, P b → isMut (H b)) (h : H a = some (.lst vs)) : ∀ b, P b ∨ b = a → isMut (H b) := fun b z => by
  rcases z with z | rfl
  · exact hm b z
  · rw [h]; trivial
theorem mutK {a : Addr} {P : Pr} {vs : List (Key × V)} (hm : ∀ b, P b → isMut (H b)) (h : Rd H a (.dK vs)) : ∀ b, P b ∨ b = a → isMut (H b) := fun b z => by
  rcases z with z | rfl
  · exact hm b z
  · rcases h with e | ⟨o, e⟩ <;> (rw [e]; trivial)
theorem mutT {a : Addr} {P : Pr} {vs : List (List Key × V)} (hm : ∀ b, P b → isMut (H b)) (h : Rd H a (.dT vs)) : ∀ b, P b ∨ b = a → isMut (H b) := fun b z => by
  rcases z with z | rfl
  · exact hm b z
  · rcases h with e | ⟨o, e⟩ <;> (rw [e]; trivial)
theorem Rep.weak {d : D} {P : Pr} {v : V} (hm : ∀ b, P b → isMut (H b)) (h : Rep K H d P v) : RepW K H d P v := by
  cases d with
  | lst ds =>
    unfold Rep at h; unfold RepW
    obtain ⟨a, vs, rfl, _, ht, hr⟩ := h
    exact ⟨a, vs, rfl, ht, hr.less (mutL hm ht) fun b z => .inl z⟩
  | arg ns =>
    unfold Rep at h; unfold RepW
    obtain ⟨a, rfl, h⟩ := h
    rcases h with ⟨_, h⟩ | h
    · exact ⟨a, rfl, .inl h⟩
    · refine ⟨a, rfl, .inr ?_⟩
      rcases h with h | h
      · rcases h with e | ⟨o, e⟩ <;> cases e
      · exact h
  | dik ks ds =>
    unfold Rep at h; unfold RepW
    obtain ⟨a, vs, rfl, _, hl, ht, hr⟩ := h
    exact ⟨a, vs, rfl, hl, ht, hr.less (mutK hm ht) fun b z => .inl z⟩
  | dit ks ds =>
    unfold Rep at h; unfold RepW
    obtain ⟨a, vs, rfl, _, hl, ht, hr⟩ := h
    exact ⟨a, vs, rfl, hl, ht, hr.less (mutT hm ht) fun b z => .inl z⟩
  | non => exact h
  | bl _ => exact h
  | int _ => exact h
  | str _ => exact h
  | tup _ => exact h
  | ftu _ => exact h
  | tab p q => unfold Rep at h; unfold RepW; obtain ⟨a, rfl, _, ht⟩ := h; exact ⟨a, rfl, ht⟩
theorem RepO.weak {d : D} {P : Pr} {v : V} (h : RepO K H d P v) : RepW K H d P v := by
  cases d with
  | lst ds => obtain ⟨a, vs, rfl, ht, hr⟩ := h; exact ⟨a, vs, rfl, ht, hr⟩
  | dik ks ds => obtain ⟨a, vs, rfl, hl, ht, hr⟩ := h; exact ⟨a, vs, rfl, hl, .inl ht, hr⟩
  | dit ks ds => obtain ⟨a, vs, rfl, hl, ht, hr⟩ := h; exact ⟨a, vs, rfl, hl, .inl ht, hr⟩
  | non => unfold RepW Rep; exact h
  | bl _ => unfold RepW Rep; exact h
  | int _ => unfold RepW Rep; exact h
  | str _ => unfold RepW Rep; exact h
  | tup _ => exact False.elim h
  | arg _ => exact False.elim h
  | ftu _ => exact False.elim h
  | tab p q => exact h
theorem Rep.of_same {d : D} {P : Pr} {v : V} (hm : ∀ b, P b → isMut (H b)) (h : Rep K H d P v) (k : ∀ b o, H b = some o → ¬ P b → H' b = some o) : Rep K H' d P v := h.mono d hm k fun _ z => .inl z
/-- a new list, tuple -/
theorem Rep.newL {ds : List D} {P : Pr} {vs : List V} {p : Addr} (hm : ∀ b, P b → isMut (H b)) (h : Reps K H ds P vs) (hp : H p = none) : Rep K (upd H p (.lst vs)) (.lst ds) P (.ref p) := by
  unfold Rep
  refine ⟨p, vs, rfl, fun z => (hm p z).some hp, upd_same, h.mono ds hm (fun b o e _ => ?_) fun b z => ?_⟩
  · rw [upd_ne (ne_of_none e hp)]; exact e
  · rcases z with z | rfl
    · exact .inl z
    · exact .inr hp
theorem Rep.newT {ds : List D} {P : Pr} {vs : List V} {p : Addr} (hm : ∀ b, P b → isMut (H b)) (h : Reps K H ds P vs) (hp : H p = none) : Rep K (upd H p (.tup vs)) (.tup ds) P (.ref p) := by
  unfold Rep
  refine ⟨p, vs, rfl, upd_same, h.mono ds hm (fun b o e _ => ?_) fun b z => .inl z⟩
  rw [upd_ne (ne_of_none e hp)]; exact e
theorem Same.new {p : Addr} {o : HO} (hp : H p = none) : Same H (upd H p o) := fun b u e => by rw [upd_ne (ne_of_none e hp)]; exact e
end

/-- the own slots' objects -/
def OA (O : List Nat) (σ : St) (b : Addr) : Prop := ∃ i, i ∈ O ∧ σ[i]? = some (some (.ref b))
def FA (P0 : Pr) (O : List Nat) (σ : St) : Pr := fun b => P0 b ∨ OA O σ b
/-- the names' data ρ lie in the slots σ over H. P0: forbidden here; O: the own slots, whose lists and dicts this def may change: nothing else leads to them -/
structure Sim (K : PySem.W.Frag) (P0 : Pr) (O W : List Nat) (ρ : Env) (σ : St) (H : Hp) : Prop where
  sub : ∀ i ∈ W, i ∈ O
  len : ρ.length ≤ σ.length
  dom : ∀ b, FA P0 O σ b → isMut (H b)
  val : ∀ i d, ρ[i]? = some (some d) → i ∉ O → ∃ v, σ[i]? = some (some v) ∧ Rep K H d (FA P0 O σ) v
  own : ∀ i d, ρ[i]? = some (some d) → i ∈ O → ∃ v, σ[i]? = some (some v) ∧ RepO K H d (FA P0 O σ) v
  sep : ∀ i j a, i ∈ O → j ∈ O → σ[i]? = some (some (.ref a)) → σ[j]? = some (some (.ref a)) → i = j
  sep0 : ∀ a, OA O σ a → ¬ P0 a
/-- what an expression may do to the heap -/
structure Keep (O : List Nat) (σ : St) (H H' : Hp) : Prop where
  keep : ∀ b o, H b = some o → ¬ OA O σ b → H' b = some o
  some : ∀ b, H b ≠ none → H' b ≠ none
theorem Keep.refl {W : List Nat} {σ : St} {H : Hp} : Keep W σ H H := ⟨fun _ _ e _ => e, fun _ e => e⟩
theorem Keep.trans {W : List Nat} {σ : St} {H H1 H2 : Hp} (a : Keep W σ H H1) (b : Keep W σ H1 H2) : Keep W σ H H2 :=
  ⟨fun c o e n => b.keep c o (a.keep c o e n) n, fun c e => b.some c (a.some c e)⟩
theorem Keep.same {W : List Nat} {σ : St} {H H' : Hp} (k : Same H H') : Keep W σ H H' := ⟨fun b o e _ => k b o e, fun b e => by
  cases q : H b with
  | none => exact absurd q e
  | some o => rw [k b o q]; intro z; cases z⟩
section
variable {K : PySem.W.Frag} {P0 : Pr} {O W : List Nat} {ρ ρ' : Env} {σ : St} {H H' : Hp}
theorem Sim.oaw (S : Sim K P0 O W ρ σ H) {b : Addr} (z : OA W σ b) : OA O σ b := let ⟨i, hi, e⟩ := z; ⟨i, S.sub i hi, e⟩
theorem Sim.rep (S : Sim K P0 O W ρ σ H) (k : Keep W σ H H') {d : D} {v : V} (h : Rep K H d (FA P0 O σ) v) : Rep K H' d (FA P0 O σ) v :=
  h.of_same S.dom fun b o e n => k.keep b o e fun z => n (.inr (S.oaw z))
/-- all that stood stands -/
theorem Sim.same (S : Sim K P0 O W ρ σ H) (k : Same H H') : Sim K P0 O W ρ σ H' where
  sub := S.sub
  len := S.len
  dom := fun b z => by
    have q := S.dom b z
    cases e : H b with
    | none => rw [e] at q; exact q.elim
    | some o => rw [k b o e, ← e]; exact q
  val := fun i d e n => let ⟨v, h1, h2⟩ := S.val i d e n; ⟨v, h1, h2.same S.dom k⟩
  own := fun i d e n => by
    obtain ⟨v, h1, h2⟩ := S.own i d e n
    refine ⟨v, h1, ?_⟩
    cases d with
    | lst ds => obtain ⟨a, vs, rfl, ht, hr⟩ := h2; exact ⟨a, vs, rfl, k _ _ ht, hr.same S.dom k⟩
    | dik ks ds => obtain ⟨a, vs, rfl, hl, ht, hr⟩ := h2; exact ⟨a, vs, rfl, hl, k _ _ ht, hr.same S.dom k⟩
    | dit ks ds => obtain ⟨a, vs, rfl, hl, ht, hr⟩ := h2; exact ⟨a, vs, rfl, hl, k _ _ ht, hr.same S.dom k⟩
    | non => exact h2
    | bl _ => exact h2
    | int _ => exact h2
    | str _ => exact h2
    | tup _ => exact h2
    | arg _ => exact h2
    | ftu _ => exact h2
    | tab p q => obtain ⟨a, rfl, ht⟩ := h2; exact ⟨a, rfl, ht.ext k⟩
  sep := S.sep
  sep0 := S.sep0
/-- what lies in a slot, for reading -/
theorem Sim.look (S : Sim K P0 O W ρ σ H) {i : Nat} {d : D} (h : look i ρ = .ok d) : ∃ v, σ[i]? = some (some v) ∧ RepW K H d (FA P0 O σ) v := by
  unfold Y.look at h
  split at h
  · rename_i d' e
    cases h
    by_cases hi : i ∈ O
    · obtain ⟨v, h1, h2⟩ := S.own i d e hi
      exact ⟨v, h1, h2.weak⟩
    · obtain ⟨v, h1, h2⟩ := S.val i d e hi
      exact ⟨v, h1, h2.weak S.dom⟩
  · cases h
end
/-- what a handle says of a value; Hs: the heap ahead -/
def HdR (K : PySem.W.Frag) (P0 : Pr) (O : List Nat) (Hs : Hp) (σ : St) (H : Hp) : Hd → V → Prop
  | .fr d, v => Rep K H d (FA P0 O σ) v ∧ (d.isMu = true → ∀ a, v = .ref a → Hs a = none)
  | .vl d, v => Rep K H d (FA P0 O σ) v
  | .ow i, v => i ∈ O ∧ σ[i]? = some (some v)
section
variable {K : PySem.W.Frag} {P0 : Pr} {O W : List Nat} {ρ ρ' : Env} {σ : St} {Hs Hs' H H' : Hp}
theorem HdR.keep (S : Sim K P0 O W ρ σ H) (k : Keep W σ H H') {h : Hd} {v : V} (r : HdR K P0 O Hs σ H h v) : HdR K P0 O Hs σ H' h v := by
  cases h with
  | fr d => exact ⟨S.rep k r.1, r.2⟩
  | vl d => exact S.rep k r
  | ow i => exact r
/-- ahead of that -/
theorem HdR.back (k : ∀ b, Hs' b ≠ none → Hs b ≠ none) {h : Hd} {v : V} (r : HdR K P0 O Hs σ H h v) : HdR K P0 O Hs' σ H h v := by
  cases h with
  | fr d => exact ⟨r.1, fun m a e => Classical.byContradiction fun z => k a z (r.2 m a e)⟩
  | vl d => exact r
  | ow i => exact r
theorem HdR.d (S : Sim K P0 O W ρ σ H) {h : Hd} {v : V} {d : D} (r : HdR K P0 O Hs σ H h v) (e : h.d ρ = .ok d) : RepW K H d (FA P0 O σ) v := by
  cases h with
  | fr d' => cases e; exact r.1.weak S.dom
  | vl d' => cases e; exact Rep.weak S.dom r
  | ow i =>
    obtain ⟨w, h1, h2⟩ := S.look e
    have q : σ[i]? = some (some v) := r.2
    rw [q] at h1; cases h1
    exact h2
theorem HdR.v {h : Hd} {v : V} {d : D} (r : HdR K P0 O Hs σ H h v) (e : h.v = .ok d) : Rep K H d (FA P0 O σ) v := by
  cases h with
  | fr d' => cases e; exact r.1
  | vl d' => cases e; exact r
  | ow i => cases e
end
end Y

set_option Elab.async false
set_option linter.all false
set_option maxRecDepth 100000
namespace Y
open PySem PySem.Spec PyProof.Rows L2

/-- no exception is told on -/
def R.nox {α : Type} : R α → R α
  | .er _ _ => .stk
  | x => x
@[simp] theorem R.nox_ok {α : Type} (a : α) : (R.ok a).nox = .ok a := id rfl
@[simp] theorem R.nox_stk {α : Type} : (R.stk : R α).nox = .stk := id rfl
abbrev EK := Str → List D → Hp → Prop
def Res (E : EK) (W : List Nat) (σ : St) (H : Hp) {α : Type} (r : R α) (k : α → Prop) : Prop := match r with
  | .ok a => k a
  | .er c ds => ∀ H', Keep W σ H H' → E c ds H'
  | .stk => False
section
variable {E : EK} {O W : List Nat} {σ : St} {H H1 : Hp} {α β : Type}
theorem Res.of_bind {r : R α} {f : α → R β} {k : β → Prop} (h : Res E W σ H (r >>= f) k) : Res E W σ H r fun a => Res E W σ H (f a) k := by cases r <;> exact h
theorem Res.mono {r : R α} {k k' : α → Prop} (h : Res E W σ H r k) (i : ∀ a, k a → k' a) : Res E W σ H r k' := by
  cases r with
  | ok a => exact i a h
  | er c ds => exact h
  | stk => exact h
theorem Res.keep {r : R α} {k : α → Prop} (h : Res E W σ H r k) (kp : Keep W σ H H1) : Res E W σ H1 r k := by
  cases r with
  | ok a => exact h
  | er c ds => exact fun H' k2 => h H' (kp.trans k2)
  | stk => exact h
theorem Res.of_nox {r : R α} {f : α → R β} {k : β → Prop} (h : Res E W σ H (r.nox >>= f) k) : ∃ a, r = .ok a ∧ Res E W σ H (f a) k := by
  cases r with
  | ok a => exact ⟨a, rfl, h⟩
  | er c ds => exact h.elim
  | stk => exact h.elim
end

def tM (K : PySem.W.Frag) (P0 : Pr) (O W : List Nat) (E : EK) (m : EM) : TE := fun σ H Q => ∃ ρ, Sim K P0 O W ρ σ H ∧
  Res E W σ H (m ρ) fun a => ∀ v H', Sim K P0 O W a.2 σ H' → Keep W σ H H' → HdR K P0 O H σ H' a.1 v → Q v H'
/-- several, from the left -/
def HdRs (K : PySem.W.Frag) (P0 : Pr) (O : List Nat) (Hs : Hp) (σ : St) (H : Hp) : List Hd → List V → Prop
  | [], vs => vs = []
  | h :: hs, vs => ∃ v ws, vs = v :: ws ∧ HdR K P0 O Hs σ H h v ∧ HdRs K P0 O Hs σ H hs ws
abbrev AM := Env → R (List Hd × Env)
def tMs (K : PySem.W.Frag) (P0 : Pr) (O W : List Nat) (E : EK) (m : AM) : TA := fun σ H Q => ∃ ρ, Sim K P0 O W ρ σ H ∧
  Res E W σ H (m ρ) fun a => ∀ vs H', Sim K P0 O W a.2 σ H' → Keep W σ H H' → HdRs K P0 O H σ H' a.1 vs → Q vs H'
abbrev BM := Env → R (Bool × Env)
def tMt (K : PySem.W.Frag) (P0 : Pr) (O W : List Nat) (E : EK) (m : BM) : TT := fun σ H Q => ∃ ρ, Sim K P0 O W ρ σ H ∧
  Res E W σ H (m ρ) fun a => ∀ H', Sim K P0 O W a.2 σ H' → Keep W σ H H' → Q a.1 H'
theorem PE.imp {X : Cx} {e : Expr} {t t' : TE} (h : PE X e t) (i : ∀ σ H Q, t' σ H Q → t σ H Q) : PE X e t' := ⟨fun pins s σ H Q I q => h.run pins s σ H Q I (i σ H Q q)⟩
theorem PT.imp {X : Cx} {e : Expr} {t t' : TT} (h : PT X e t) (i : ∀ σ H Q, t' σ H Q → t σ H Q) : PT X e t' := ⟨fun pins s σ H Q I q => h.run pins s σ H Q I (i σ H Q q)⟩
theorem PW.imp {X : Cx} {e : Expr} {t t' : TT} (h : PW X e t) (i : ∀ σ H Q, t' σ H Q → t σ H Q) : PW X e t' := ⟨fun w pins s σ H Q I q => h.run w pins s σ H Q I (i σ H Q q)⟩
theorem PA.imp {X : Cx} {e : List Expr} {t t' : TA} (h : PA X e t) (i : ∀ σ H Q, t' σ H Q → t σ H Q) : PA X e t' := ⟨fun p pins s σ H Q I q => h.run p pins s σ H Q I (i σ H Q q)⟩
theorem PS.imp {X : Cx} {e : Stmt} {t t' : TS} (h : PS X e t) (i : ∀ D σ H, t' D σ H → t D σ H) : PS X e t' := ⟨fun pins s σ H D I q => h.run pins s σ H D I (i D σ H q)⟩
theorem PSs.imp {X : Cx} {e : List Stmt} {t t' : TS} (h : PSs X e t) (i : ∀ D σ H, t' D σ H → t D σ H) : PSs X e t' := ⟨fun pins s σ H D I q => h.run pins s σ H D I (i D σ H q)⟩
theorem PE.or {X : Cx} {e : Expr} {t t' : TE} (h : PE X e t) (h' : PE X e t') : PE X e fun σ H Q => t σ H Q ∨ t' σ H Q :=
  ⟨fun pins s σ H Q I q => q.elim (h.run pins s σ H Q I) (h'.run pins s σ H Q I)⟩
section
variable {K : PySem.W.Frag} {P0 : Pr} {O W : List Nat} {ρ ρ' : Env} {σ : St} {Hs Hs' H H' : Hp}
theorem HdRs.keep (S : Sim K P0 O W ρ σ H) (k : Keep W σ H H') : ∀ {hs : List Hd} {vs : List V}, HdRs K P0 O Hs σ H hs vs → HdRs K P0 O Hs σ H' hs vs
  | [], _, r => r
  | h :: hs, _, ⟨v, ws, e, r1, r2⟩ => ⟨v, ws, e, r1.keep S k, HdRs.keep S k r2⟩
theorem HdRs.back (k : ∀ b, Hs' b ≠ none → Hs b ≠ none) : ∀ {hs : List Hd} {vs : List V}, HdRs K P0 O Hs σ H hs vs → HdRs K P0 O Hs' σ H hs vs
  | [], _, r => r
  | h :: hs, _, ⟨v, ws, e, r1, r2⟩ => ⟨v, ws, e, r1.back k, HdRs.back k r2⟩
end

def cVar (i : Nat) : EM := fun ρ => do
  let d ← (look i ρ).nox
  pure (.vl d, ρ)
def cOwn (i : Nat) : EM := fun ρ => do
  let _ ← (look i ρ).nox
  pure (.ow i, ρ)
def cC (d : D) : EM := fun ρ => .ok (.fr d, ρ)
theorem look_some {i : Nat} {ρ : Env} {d : D} (h : look i ρ = .ok d) : ρ[i]? = some (some d) := by
  unfold look at h
  split at h
  · rename_i e; cases h; exact e
  · cases h
section
variable {X : Cx} {P0 : Pr} {O W : List Nat} {E : EK} {pos : Pos}
abbrev CEx (X : Cx) (P0 : Pr) (O W : List Nat) (E : EK) (e : Expr) (m : EM) : Prop := PE X e (tM X.K P0 O W E m)
theorem ce_var (i : Nat) {x : Str} (ho : i ∉ O := by decide) (hN : X.N[i]? = some x := by rfl) (hv : Vis X.env.scope x := by first | exact Or.inl rfl | exact Or.inr (Or.inl rfl) | exact Or.inr (Or.inr rfl)) (hd : (x == ("__debug__" : Str)) = false := by decide)
    (hcd : (x == ("__classdict__" : Str)) = false := by decide) : CEx X P0 O W E (.Name x pos) (cVar i) := PE.imp (pe_var (i := i) hN hv hd hcd) fun σ H Q ⟨ρ, S, h⟩ => by
  obtain ⟨d, e, h⟩ := h.of_nox
  obtain ⟨v, h1, h2⟩ := S.val i d (look_some e) ho
  exact ⟨v, h1, h v H S .refl h2⟩
theorem ce_own (i : Nat) {x : Str} (ho : i ∈ O := by decide) (hN : X.N[i]? = some x := by rfl) (hv : Vis X.env.scope x := by first | exact Or.inl rfl | exact Or.inr (Or.inl rfl) | exact Or.inr (Or.inr rfl)) (hd : (x == ("__debug__" : Str)) = false := by decide)
    (hcd : (x == ("__classdict__" : Str)) = false := by decide) : CEx X P0 O W E (.Name x pos) (cOwn i) := PE.imp (pe_var (i := i) hN hv hd hcd) fun σ H Q ⟨ρ, S, h⟩ => by
  obtain ⟨d, e, h⟩ := h.of_nox
  obtain ⟨v, h1, h2⟩ := S.own i d (look_some e) ho
  exact ⟨v, h1, h v H S .refl ⟨ho, h1⟩⟩
theorem c_of {v : V} {d : D} (h : ∀ H P, Rep X.K H d P v) (hm : d.isMu = false) : ∀ σ H Q, tM X.K P0 O W E (cC d) σ H Q → tC v σ H Q := fun σ H Q ⟨ρ, S, q⟩ =>
  q v H S .refl ⟨h _ _, fun z => by rw [hm] at z; cases z⟩
theorem ce_int {i j} : CEx X P0 O W E (.Constant (.int i) j pos) (cC (.int i)) := PE.imp pe_int (c_of (fun _ _ => by unfold Rep; rfl) rfl)
theorem ce_bl {i j} : CEx X P0 O W E (.Constant (.bool i) j pos) (cC (.bl i)) := PE.imp pe_bl (c_of (fun _ _ => by unfold Rep; rfl) rfl)
theorem ce_str {i j} : CEx X P0 O W E (.Constant (.str i) j pos) (cC (.str i)) := PE.imp pe_str (c_of (fun _ _ => by unfold Rep; rfl) rfl)
theorem ce_non {j} : CEx X P0 O W E (.Constant .none j pos) (cC .non) := PE.imp pe_non (c_of (fun _ _ => by unfold Rep; rfl) rfl)
/-- a module's constant: a number, a text, True, None -/
theorem ce_glob {x : Str} {v : V} {d : D} {u : Value} (h : ∀ H P, Rep X.K H d P v) (hm : d.isMu = false) (r : RelV v u) (hx : X.mg x = some u) (hg : Gl X x := by rfl) (hd : (x == ("__debug__" : Str)) = false := by decide) : CEx X P0 O W E (.Name x pos) (cC d) :=
  PE.imp (pe_glob hg hx r hd) (c_of h hm)
end

def cOp (f : D → D → R D) (a b : EM) : EM := fun ρ => do
  let (h1, ρ1) ← a ρ
  let (h2, ρ2) ← b ρ1
  let x ← (h1.d ρ2).nox
  let y ← (h2.d ρ2).nox
  let z ← (f x y).nox
  pure (.fr z, ρ2)
/-- what is told on of an operation: new data -/
def Out (K : PySem.W.Frag) (P : Pr) (H : Hp) (d : D) (Q : VK) : Prop := ∀ v H', Same H H' → Rep K H' d P v → (d.isMu = true → ∀ a, v = .ref a → H a = none) → Q v H'
def rD (K : PySem.W.Frag) (f : D → D → R D) : R2 := fun x y H Q => ∃ (P : Pr) (dx dy dz : D), (∀ b, P b → isMut (H b)) ∧ RepW K H dx P x ∧ RepW K H dy P y ∧ f dx dy = .ok dz ∧ Out K P H dz Q
theorem Same.some {H H' : Hp} (k : Same H H') : ∀ b, H b ≠ none → H' b ≠ none := fun b e => by
  cases q : H b with
  | none => exact absurd q e
  | some o => rw [k b o q]; intro z; cases z
section
variable {K : PySem.W.Frag} {P0 : Pr} {O W : List Nat} {E : EK}
/-- an operation's end, told to what follows -/
theorem out_of {ρ : Env} {σ : St} {H H1 : Hp} {Q : VK} {d : D} (S : Sim K P0 O W ρ σ H1) (k : Keep W σ H H1)
    (h : ∀ v H', Sim K P0 O W ρ σ H' → Keep W σ H H' → HdR K P0 O H σ H' (.fr d) v → Q v H') : Out K (FA P0 O σ) H1 d Q := fun v H' sm r fr =>
  h v H' (S.same sm) (k.trans (Keep.same sm)) ⟨r, fun m a e => Classical.byContradiction fun z => k.some a z (fr m a e)⟩
theorem tM_op {f : D → D → R D} {a b : EM} (σ : St) (H : Hp) (Q : VK) (h : tM K P0 O W E (cOp f a b) σ H Q) : tOp (rD K f) (tM K P0 O W E a) (tM K P0 O W E b) σ H Q := by
  obtain ⟨ρ, S, h⟩ := h
  refine ⟨ρ, S, h.of_bind.mono fun ⟨h1, ρ1⟩ q x H1 S1 k1 r1 => ⟨ρ1, S1, (q.keep k1).of_bind.mono fun ⟨h2, ρ2⟩ q2 y H2 S2 k2 r2 => ?_⟩⟩
  obtain ⟨dx, e1, q3⟩ := q2.of_nox
  obtain ⟨dy, e2, q4⟩ := q3.of_nox
  obtain ⟨dz, e3, q5⟩ := q4.of_nox
  exact ⟨FA P0 O σ, dx, dy, dz, S2.dom, (r1.keep S1 k2).d S2 e1, r2.d S2 e2, e3, out_of S2 (k1.trans k2) q5⟩
/-- new data of no object -/
theorem Out.flat {P : Pr} {H : Hp} {d : D} {v : V} {Q : VK} (h : Out K P H d Q) (r : Rep K H d P v) (hm : d.isMu = false) : Q v H := h v H (fun _ _ e => e) r fun z => by rw [hm] at z; cases z
theorem Out.int {P : Pr} {H : Hp} {i : Int} {Q : VK} (h : Out K P H (.int i) Q) : Q (.int i) H := h.flat (by unfold Rep; rfl) rfl
theorem Out.bl {P : Pr} {H : Hp} {i : Bool} {Q : VK} (h : Out K P H (.bl i) Q) : Q (.bl i) H := h.flat (by unfold Rep; rfl) rfl
theorem Out.str {P : Pr} {H : Hp} {i : Str} {Q : VK} (h : Out K P H (.str i) Q) : Q (.str i) H := h.flat (by unfold Rep; rfl) rfl
theorem Out.non {P : Pr} {H : Hp} {Q : VK} (h : Out K P H .non Q) : Q .non H := h.flat (by unfold Rep; rfl) rfl
theorem Out.newL {P : Pr} {H : Hp} {ds : List D} {vs : List V} {Q : VK} (h : Out K P H (.lst ds) Q) (hm : ∀ b, P b → isMut (H b)) (r : Reps K H ds P vs) {p : Addr} (hp : H p = none) : Q (.ref p) (upd H p (.lst vs)) :=
  h _ _ (Same.new hp) (Rep.newL hm r hp) fun _ a e => by cases e; exact hp
theorem Out.newT {P : Pr} {H : Hp} {ds : List D} {vs : List V} {Q : VK} (h : Out K P H (.tup ds) Q) (hm : ∀ b, P b → isMut (H b)) (r : Reps K H ds P vs) {p : Addr} (hp : H p = none) : Q (.ref p) (upd H p (.tup vs)) :=
  h _ _ (Same.new hp) (Rep.newT hm r hp) fun z => by cases z
/-- reading a datum's form -/
theorem RepW.int {H : Hp} {i : Int} {P : Pr} {v : V} (h : RepW K H (.int i) P v) : v = .int i := by unfold RepW Rep at h; exact h
theorem RepW.bl {H : Hp} {i : Bool} {P : Pr} {v : V} (h : RepW K H (.bl i) P v) : v = .bl i := by unfold RepW Rep at h; exact h
theorem RepW.str {H : Hp} {i : Str} {P : Pr} {v : V} (h : RepW K H (.str i) P v) : v = .str i := by unfold RepW Rep at h; exact h
theorem RepW.non {H : Hp} {P : Pr} {v : V} (h : RepW K H .non P v) : v = .non := by unfold RepW Rep at h; exact h
theorem RepW.tup {H : Hp} {ds : List D} {P : Pr} {v : V} (h : RepW K H (.tup ds) P v) : ∃ a vs, v = .ref a ∧ H a = some (.tup vs) ∧ Reps K H ds P vs := by unfold RepW Rep at h; exact h
theorem RepW.ftu {H : Hp} {ds : List D} {P : Pr} {v : V} (h : RepW K H (.ftu ds) P v) : ∃ a vs o, v = .ref a ∧ H a = some (.frz o (.tup vs)) ∧ o.dict = none ∧ Reps K H ds P vs := by unfold RepW Rep at h; exact h
theorem SqT.fz {H : Hp} {a : Addr} {o : Obj} {vs : List V} (h : H a = some (.frz o (.tup vs))) : SqT K H a vs := .inl (.inr ⟨o, h⟩)
theorem RepW.lst {H : Hp} {ds : List D} {P : Pr} {v : V} (h : RepW K H (.lst ds) P v) : ∃ a vs, v = .ref a ∧ H a = some (.lst vs) ∧ Reps K H ds P vs := h
theorem RepW.arg {H : Hp} {ds : List Int} {P : Pr} {v : V} (h : RepW K H (.arg ds) P v) : ∃ a, v = .ref a ∧ SqL K H a (ds.map V.int) := h
theorem Rep.ftu_of {H : Hp} {ds : List D} {P : Pr} {a : Addr} {o : Obj} {vs : List V} (h : H a = some (.frz o (.tup vs))) (hd : o.dict = none) (r : Reps K H ds P vs) : Rep K H (.ftu ds) P (.ref a) := by unfold Rep; exact ⟨a, vs, o, rfl, h, hd, r⟩
theorem Rep.tup_of {H : Hp} {ds : List D} {P : Pr} {a : Addr} {vs : List V} (h : H a = some (.tup vs)) (r : Reps K H ds P vs) : Rep K H (.tup ds) P (.ref a) := by unfold Rep; exact ⟨a, vs, rfl, h, r⟩
/-- a list or a tuple, for reading -/
def seqOf : D → Option (List D)
  | .lst ds => some ds
  | .tup ds => some ds
  | .arg ns => some (ns.map D.int)
  | .ftu ds => some ds
  | _ => none
theorem reps_ints {H : Hp} {P : Pr} : ∀ ns : List Int, Reps K H (ns.map D.int) P (ns.map V.int)
  | [] => Reps.nil
  | n :: ns => Reps.cons (by unfold Rep; rfl) (reps_ints ns)
theorem RepW.seq {H : Hp} {d : D} {ds : List D} {P : Pr} {v : V} (h : RepW K H d P v) (e : seqOf d = some ds) : ∃ a vs, v = .ref a ∧ (SqL K H a vs ∨ SqT K H a vs) ∧ Reps K H ds P vs := by
  cases d <;> simp only [seqOf, Option.some.injEq, reduceCtorEq] at e
  · subst e; obtain ⟨a, vs, rfl, h1, h2⟩ := h.tup; exact ⟨a, vs, rfl, .inr (SqT.of h1), h2⟩
  · subst e; obtain ⟨a, vs, rfl, h1, h2⟩ := h.lst; exact ⟨a, vs, rfl, .inl (SqL.of h1), h2⟩
  · subst e; obtain ⟨a, rfl, h1⟩ := h.arg; exact ⟨a, _, rfl, .inl h1, reps_ints _⟩
  · subst e; obtain ⟨a, vs, o, rfl, h1, _, h2⟩ := h.ftu; exact ⟨a, vs, rfl, .inr (SqT.fz h1), h2⟩
end

/-- sizes that the machine bears -/
def szOk (n : Nat) : Bool := decide (n ≤ sizeLine)
def addD : D → D → R D
  | .int i, .int j => .ok (.int (i + j))
  | .str x, .str y => if szOk (x.length + y.length) = true then .ok (.str (x ++ y)) else .stk
  | .tup x, .tup y => if szOk (x.length + y.length) = true then .ok (.tup (x ++ y)) else .stk
  | .lst x, .lst y => if szOk (x.length + y.length) = true then .ok (.lst (x ++ y)) else .stk
  | _, _ => .stk
def subD : D → D → R D
  | .int i, .int j => .ok (.int (i - j))
  | _, _ => .stk
/-- either factor is small, or both are of at most 2 ^ 26 bits -/
def mulOk (i j : Int) : Bool := decide (i.natAbs < 2 ^ 64) || decide (j.natAbs < 2 ^ 64) || decide (i.natAbs.log2 < 2 ^ 26 - 8 ∧ j.natAbs.log2 < 2 ^ 26 - 8)
/-- a text as many times as told -/
def repS (k : Int) (x : Str) : Str := if k < 1 then Str.empty else if (k == 1 || x.length == 0) = true then x else ⟨(List.replicate k.toNat x.cps).foldl (· ++ ·) #[]⟩
def mulD : D → D → R D
  | .int i, .int j => if mulOk i j = true then .ok (.int (i * j)) else .stk
  | .lst x, .int k => if k < 2 ^ 20 ∧ -(2 ^ 20) < k ∧ szOk (x.length * k.toNat) = true then .ok (.lst (List.replicate k.toNat x).flatten) else .stk
  | .str x, .int k => if k < 2 ^ 20 ∧ -(2 ^ 20) < k ∧ szOk (x.length * k.toNat) = true then .ok (.str (repS k x)) else .stk
  | .tup x, .int k => if x.isEmpty = false ∧ -(2 ^ 20) < k ∧ k ≤ 1000 ∧ x.length ≤ 1000 then .ok (.tup (List.replicate k.toNat x).flatten) else .stk
  | _, _ => .stk
def smallPos (j : Int) : Bool := decide (0 < j ∧ j < 1073741824)
def fdivD : D → D → R D
  | .int i, .int j => if smallPos j = true then .ok (.int (i / j)) else .stk
  | _, _ => .stk
def modD : D → D → R D
  | .int i, .int j => if 0 < j then .ok (.int (i % j)) else .stk
  | _, _ => .stk
def andD : D → D → R D
  | .int i, .int j => .ok (.int (Builtin.bitAnd i j))
  | _, _ => .stk
def orD : D → D → R D
  | .int i, .int j => .ok (.int (Builtin.bitOr i j))
  | _, _ => .stk
def xorD : D → D → R D
  | .int i, .int j => .ok (.int (Builtin.bitXor i j))
  | _, _ => .stk
theorem mulOk_ok {i j : Int} (h : mulOk i j = true) : IntMulOk i j := by
  unfold mulOk at h
  simp only [Bool.or_eq_true, decide_eq_true_eq] at h
  rcases h with (h | h) | ⟨h1, h2⟩
  · exact IntMulOk.of_left (intBits_le_64 (by omega) (by omega))
  · exact IntMulOk.of_right (intBits_le_64 (by omega) (by omega))
  · have b : ∀ x : Int, Builtin.Int.intBits x ≤ x.natAbs.log2 + 1 := fun x => by
      unfold Builtin.Int.intBits
      split <;> omega
    have h3 := b i
    have h4 := b j
    have e : bitsLine = 134217728 := by decide
    unfold IntMulOk
    intro z
    rw [Bool.and_eq_true] at z
    have z2 := z.2
    unfold Builtin.Int.intTooBig at z2
    have z3 := of_decide_eq_true z2
    rw [e] at z3
    omega
section
variable {X : Cx}
theorem od_int {f : Value → Value → Sem Value} {g : D → D → R D} {C : Int → Int → Prop} {h : Int → Int → Int} (ho : OpR X f (rI C fun i j => .int (h i j))) (hg : ∀ x y z, g x y = .ok z → ∃ i j, x = .int i ∧ y = .int j ∧ z = .int (h i j) ∧ C i j) : OpR X f (rD X.K g) := by
  intro pins s σ H x y v u Q I rx ry ⟨P, dx, dy, dz, hm, r1, r2, e, out⟩
  obtain ⟨i, j, rfl, rfl, rfl, c⟩ := hg dx dy dz e
  obtain rfl := r1.int
  obtain rfl := r2.int
  exact ho pins s σ H _ _ v u Q I rx ry ⟨i, j, rfl, rfl, c, out.int⟩
theorem od_sub : OpR X (binaryOp .Sub) (rD X.K subD) := od_int (C := fun _ _ => True) (h := fun i j => i - j) (fun pins s σ H x y v u Q I rx ry ⟨i, j, e1, e2, _, q⟩ => op_sub pins s σ H x y v u Q I rx ry ⟨i, j, e1, e2, q⟩) fun x y z e => by
  cases x <;> cases y <;> simp only [subD, R.ok.injEq, reduceCtorEq] at e
  exact ⟨_, _, rfl, rfl, e.symm, trivial⟩
theorem od_and : OpR X (binaryOp .BitAnd) (rD X.K andD) := od_int (C := fun _ _ => True) (h := Builtin.bitAnd) (fun pins s σ H x y v u Q I rx ry ⟨i, j, e1, e2, _, q⟩ => op_and pins s σ H x y v u Q I rx ry ⟨i, j, e1, e2, q⟩) fun x y z e => by
  cases x <;> cases y <;> simp only [andD, R.ok.injEq, reduceCtorEq] at e
  exact ⟨_, _, rfl, rfl, e.symm, trivial⟩
theorem od_or : OpR X (binaryOp .BitOr) (rD X.K orD) := od_int (C := fun _ _ => True) (h := Builtin.bitOr) (fun pins s σ H x y v u Q I rx ry ⟨i, j, e1, e2, _, q⟩ => op_or pins s σ H x y v u Q I rx ry ⟨i, j, e1, e2, q⟩) fun x y z e => by
  cases x <;> cases y <;> simp only [orD, R.ok.injEq, reduceCtorEq] at e
  exact ⟨_, _, rfl, rfl, e.symm, trivial⟩
theorem od_xor : OpR X (binaryOp .BitXor) (rD X.K xorD) := od_int (C := fun _ _ => True) (h := Builtin.bitXor) (fun pins s σ H x y v u Q I rx ry ⟨i, j, e1, e2, _, q⟩ => op_xor pins s σ H x y v u Q I rx ry ⟨i, j, e1, e2, q⟩) fun x y z e => by
  cases x <;> cases y <;> simp only [xorD, R.ok.injEq, reduceCtorEq] at e
  exact ⟨_, _, rfl, rfl, e.symm, trivial⟩
theorem od_fdiv : OpR X (binaryOp .FloorDiv) (rD X.K fdivD) := od_int op_fdiv fun x y z e => by
  cases x <;> cases y <;> simp only [fdivD, R.ok.injEq, reduceCtorEq] at e
  split at e
  · rename_i c; cases e; exact ⟨_, _, rfl, rfl, rfl, by unfold smallPos at c; have c := of_decide_eq_true c; exact c⟩
  · cases e
theorem od_mod : OpR X (binaryOp .Mod) (rD X.K modD) := od_int op_mod fun x y z e => by
  cases x <;> cases y <;> simp only [modD, R.ok.injEq, reduceCtorEq] at e
  split at e
  · rename_i c; cases e; exact ⟨_, _, rfl, rfl, rfl, c⟩
  · cases e
theorem od_add : OpR X (binaryOp .Add) (rD X.K addD) := by
  intro pins s σ H x y v u Q I rx ry ⟨P, dx, dy, dz, hm, r1, r2, e, out⟩
  cases dx <;> cases dy <;> simp only [addD, R.ok.injEq, reduceCtorEq] at e
  · subst e
    obtain rfl := r1.int
    obtain rfl := r2.int
    exact op_add pins s σ H _ _ v u Q I rx ry ⟨_, _, rfl, rfl, out.int⟩
  · split at e
    · rename_i c; cases e
      obtain rfl := r1.str
      obtain rfl := r2.str
      exact op_add_str pins s σ H _ _ v u Q I rx ry ⟨_, _, rfl, rfl, of_decide_eq_true c, out.str⟩
    · cases e
  · split at e
    · rename_i c; cases e
      obtain ⟨a, vs, rfl, h1, h2⟩ := r1.tup
      obtain ⟨b, ws, rfl, h3, h4⟩ := r2.tup
      refine op_catA pins s σ H _ _ v u Q I rx ry ⟨a, b, vs, ws, rfl, rfl, SqT.of h1, SqT.of h3, by rw [h2.length, h4.length]; exact of_decide_eq_true c, fun z => ?_, fun _ z => ?_, fun _ _ p hp => out.newT hm (h2.append h4) hp⟩
      · subst z
        have z := h2.length
        have z := List.length_eq_zero_iff.mp (show _ = 0 from z.symm)
        subst z
        rw [List.nil_append] at out
        exact out.flat (Rep.tup_of h3 h4) rfl
      · subst z
        have z := h4.length
        have z := List.length_eq_zero_iff.mp (show _ = 0 from z.symm)
        subst z
        rw [List.append_nil] at out
        exact out.flat (Rep.tup_of h1 h2) rfl
    · cases e
  · split at e
    · rename_i c; cases e
      obtain ⟨a, vs, rfl, h1, h2⟩ := r1.lst
      obtain ⟨b, ws, rfl, h3, h4⟩ := r2.lst
      exact op_cat pins s σ H _ _ v u Q I rx ry ⟨a, b, vs, ws, rfl, rfl, h1, h3, by rw [h2.length, h4.length]; exact of_decide_eq_true c, fun p hp => out.newL hm (h2.append h4) hp⟩
    · cases e
end
end Y

set_option Elab.async false
set_option linter.all false
set_option maxRecDepth 100000
namespace Y
open PySem PySem.Spec PyProof.Rows L2

section
open PySem.AutoSeq1 (wpAny_loadPart')
theorem tuple_mulS (l : Addr) (items : Array Value) (n : Nat) (dd : Option Addr) (sl : Array (Option Value)) (x : Int) (u : Tok) (c0 : (decide (x < -(2 ^ 63)) || decide (x ≥ 2 ^ 63)) = false) (c1 : (items.isEmpty || x == 1) = true) :
    Meets (Builtin.«tuple.__mul__» ⟨[.ref l, .int x u], []⟩) (fun _ R s => s.heap.get? l = some { cls := .type "tuple", dict := dd, data := .seq items n, slots := sl } ∧
      R (.ok (.ret (Value.ref l))) s) :=
  .of_wp fun prog w A R s h => by
    obtain ⟨hp, g, d, tk, os⟩ := s
    obtain ⟨hl, h⟩ := h
    have f1 := AutoSeq1.idx_int
    wp_walk using wpAny_loadPart' hl
    repeat (first
      | (refine wpAny_ite_false (decide_eq_false (by rw [c0]; exact Bool.false_ne_true)) ?_; wp_walk using wpAny_loadPart' hl)
      | (refine wpAny_ite_true (decide_eq_true c1) ?_; wp_walk using wpAny_loadPart' hl))
    exact ⟨_, rfl, h⟩
theorem tuple_mulE (l : Addr) (items : Array Value) (n : Nat) (dd : Option Addr) (sl : Array (Option Value)) (x : Int) (u : Tok) (c0 : (decide (x < -(2 ^ 63)) || decide (x ≥ 2 ^ 63)) = false) (c1 : (items.isEmpty || x == 1) = false) (c2 : (decide (x ≤ 0) || items.isEmpty) = true) :
    Meets (Builtin.«tuple.__mul__» ⟨[.ref l, .int x u], []⟩) (fun _ R s => s.heap.get? l = some { cls := .type "tuple", dict := dd, data := .seq items n, slots := sl } ∧
      R (.ok (.ret (Value.ref s.heap.objs.size))) { s with heap := s.heap.push { cls := Value.type "tuple", data := Data.seq #[] }, toks := s.toks }) :=
  .of_wp fun prog w A R s h => by
    obtain ⟨hp, g, d, tk, os⟩ := s
    obtain ⟨hl, h⟩ := h
    have f1 := AutoSeq1.idx_int
    wp_walk using wpAny_loadPart' hl
    repeat (first
      | (refine wpAny_ite_false (decide_eq_false (by rw [c0]; exact Bool.false_ne_true)) ?_; wp_walk using wpAny_loadPart' hl)
      | (refine wpAny_ite_false (decide_eq_false (by rw [c1]; exact Bool.false_ne_true)) ?_; wp_walk using wpAny_loadPart' hl)
      | (refine wpAny_ite_true (decide_eq_true c2) ?_; wp_walk using wpAny_loadPart' hl))
    exact ⟨_, rfl, h⟩
end
/-- a tuple times an int: once is the tuple itself -/
theorem op_repT1 {X : Cx} : OpR X (binaryOp .Mult) (fun x y H Q => ∃ l xs, x = .ref l ∧ y = .int 1 ∧ SqT X.K H l xs ∧ Q (.ref l) H) := by
  intro pins s σ H x y v u Q I rx ry h
  obtain ⟨l, xs, rfl, rfl, hT, q⟩ := h
  cases rx
  obtain ⟨t, rfl⟩ := ry
  obtain ⟨its, r, ⟨⟨cls, dd, data, sl⟩, ho, hc, n, hd⟩, hs⟩ := I.tuple hT
  simp only at hc hd
  subst hc hd
  have c0 : (decide ((1 : Int) < -(2 ^ 63)) || decide ((1 : Int) ≥ 2 ^ 63)) = false := by decide
  refine wpAny_binaryOp_repeat_ref (T := "tuple") (U := "int") (by decide) ⟨_, ho, rfl⟩ (fun s' => typeIs_int s' 1 t) noFill_tuple_mul F.fills_int_mul F.slot_int_rmul repeat_tuple F.slot_int_index.lookup
    (call_meets F.slot_int_rmul (typeIs_int s 1 t) F.entry_int_rmul (F.args_int_rmul_2 _ _) (int_rmul_tuple 1 t l its.toArray n dd sl)
      ⟨ho, rfl, ⟨_, ho, rfl⟩, call_meets F.slot_tuple_mul ⟨_, ho, rfl⟩ F.entry_tuple_mul (F.args_tuple_mul_2 _ _) (tuple_mulS l its.toArray n dd sl 1 t c0 (by simp)) ⟨ho, ?_⟩⟩)
  exact ⟨.ref l, H, I, rfl, q⟩
/-- no time or fewer: an empty tuple -/
theorem op_repT0 {X : Cx} : OpR X (binaryOp .Mult) (fun x y H Q => ∃ l k xs, x = .ref l ∧ y = .int k ∧ SqT X.K H l xs ∧ xs ≠ [] ∧ k ≤ 0 ∧ -(2 ^ 20) < k ∧ ∀ p, H p = none → Q (.ref p) (upd H p (.tup []))) := by
  intro pins s σ H x y v u Q I rx ry h
  obtain ⟨l, k, xs, rfl, rfl, hT, hne, h1, h2, q⟩ := h
  cases rx
  obtain ⟨t, rfl⟩ := ry
  obtain ⟨its, r, ⟨⟨cls, dd, data, sl⟩, ho, hc, n, hd⟩, hs⟩ := I.tuple hT
  simp only at hc hd
  subst hc hd
  have hi : its.toArray.isEmpty = false := by
    cases its with
    | nil => exact absurd (List.eq_nil_of_length_eq_zero r.length) hne
    | cons a b => rfl
  have c0 : (decide (k < -(2 ^ 63)) || decide (k ≥ 2 ^ 63)) = false := by
    rw [decide_eq_false (by omega), decide_eq_false (by omega)] <;> rfl
  have c1 : (its.toArray.isEmpty || k == 1) = false := by
    rw [hi, Bool.false_or]
    exact beq_eq_false_iff_ne.mpr (by omega)
  have c2 : (decide (k ≤ 0) || its.toArray.isEmpty) = true := by
    rw [decide_eq_true h1, Bool.true_or]
  refine wpAny_binaryOp_repeat_ref (T := "tuple") (U := "int") (by decide) ⟨_, ho, rfl⟩ (fun s' => typeIs_int s' k t) noFill_tuple_mul F.fills_int_mul F.slot_int_rmul repeat_tuple F.slot_int_index.lookup
    (call_meets F.slot_int_rmul (typeIs_int s k t) F.entry_int_rmul (F.args_int_rmul_2 _ _) (int_rmul_tuple k t l its.toArray n dd sl)
      ⟨ho, rfl, ⟨_, ho, rfl⟩, call_meets F.slot_tuple_mul ⟨_, ho, rfl⟩ F.entry_tuple_mul (F.args_tuple_mul_2 _ _) (tuple_mulE l its.toArray n dd sl k t c0 c1 c2) ⟨ho, ?_⟩⟩)
  refine ⟨.ref s.heap.objs.size, _, I.laid (t' := s.toks) (o := .tup []) (fun b ob q => Heap.get?_push_of_some _ q) (Nat.le_refl _) ?_, rfl, q _ (I.hok.fresh (Nat.le_refl _))⟩
  exact ⟨Nat.zero_le _, [], .nil, IsTup.new _ _⟩
theorem rep_all {K : PySem.W.Frag} {H : Hp} {P : Pr} {ds : List D} {vs : List V} (h : Reps K H ds P vs) : ∀ k : Nat, Reps K H (List.replicate k ds).flatten P (List.replicate k vs).flatten
  | 0 => Reps.nil
  | k + 1 => by rw [List.replicate_succ, List.replicate_succ, List.flatten_cons, List.flatten_cons]; exact h.append (rep_all h k)
noncomputable instance : DecidableEq (List D) := fun _ _ => Classical.propDecidable _
noncomputable instance : DecidableEq D := fun _ _ => Classical.propDecidable _
section
variable {X : Cx}
theorem repS_len (k : Int) (x : Str) : (⟨(List.replicate k.toNat x.cps).foldl (· ++ ·) #[]⟩ : Str).length = x.length * k.toNat := by
  show Array.size _ = _
  have h : ∀ (m : Nat) (a : Array Nat), ((List.replicate m x.cps).foldl (· ++ ·) a).size = a.size + x.cps.size * m := by
    intro m
    induction m with
    | zero => intro a; simp
    | succ m ih => intro a; rw [List.replicate_succ, List.foldl_cons, ih, Array.size_append, Nat.mul_succ]; omega
  rw [h, Array.size_empty, Nat.zero_add]
  rfl
/-- a text times an int -/
theorem op_repS : OpR X (binaryOp .Mult) (fun x y H Q => ∃ i k, x = .str i ∧ y = .int k ∧ -(2 ^ 20) < k ∧ k < 2 ^ 20 ∧ i.length * k.toNat ≤ sizeLine ∧ Q (.str (repS k i)) H) := by
  intro pins s σ H x y v u Q I rx ry h
  obtain ⟨i, k, rfl, rfl, h1, h2, hz, q⟩ := h
  obtain ⟨t, rfl⟩ := rx
  obtain ⟨t', rfl⟩ := ry
  have hs : sizeLine ≤ 2 ^ 40 := by decide
  refine PySem.P.mul_str ?_ (fun c _ => ?_) (fun _ _ => decide_eq_false (by omega)) ?_
  · rw [decide_eq_false (by omega), decide_eq_false (by omega)]; rfl
  · have e : ((i.length * k.toNat : Nat) : Int) = (i.length : Int) * k := by rw [Int.natCast_mul, Int.toNat_of_nonneg (by omega)]
    have := (Int.le_ediv_iff_mul_le (a := (i.length : Int)) (b := 2 ^ 63 - 1) (c := k) (by omega)).mpr (by rw [← e]; omega)
    omega
  · unfold repS at q
    by_cases c1 : k < 1
    · rw [if_pos c1] at q ⊢
      exact ⟨by decide, ⟨.str _, H, I.tok _, ⟨_, rfl⟩, q⟩⟩
    · rw [if_neg c1] at q ⊢
      by_cases c2 : (k == 1 || i.length == 0) = true
      · rw [if_pos c2] at q ⊢
        exact ⟨.str _, H, I, ⟨_, rfl⟩, q⟩
      · rw [if_neg c2] at q ⊢
        exact ⟨by rw [repS_len]; exact hz, ⟨.str _, H, I.tok _, ⟨_, rfl⟩, q⟩⟩
theorem od_mul : OpR X (binaryOp .Mult) (rD X.K mulD) := by
  intro pins s σ H x y v u Q I rx ry ⟨P, dx, dy, dz, hm, r1, r2, e, out⟩
  cases dx <;> cases dy <;> simp only [mulD, R.ok.injEq, reduceCtorEq] at e
  case int.int =>
    split at e
    · rename_i c; cases e
      obtain rfl := r1.int
      obtain rfl := r2.int
      obtain ⟨t, rfl⟩ := rx
      obtain ⟨t', rfl⟩ := ry
      exact mul_int ⟨.int _, H, I.tok _, ⟨_, rfl⟩, out.int⟩ (mulOk_ok c)
    · cases e
  case str.int =>
    split at e
    · rename_i c; cases e
      obtain rfl := r1.str
      obtain rfl := r2.int
      exact op_repS pins s σ H _ _ v u Q I rx ry ⟨_, _, rfl, rfl, by omega, by omega, of_decide_eq_true c.2.2, out.str⟩
    · cases e
  case tup.int =>
    split at e
    · rename_i c; cases e
      obtain ⟨a, vs, rfl, h1, h2⟩ := r1.tup
      obtain rfl := r2.int
      rename_i ds k
      have hne : vs ≠ [] := fun z => by
        have z2 := h2.length
        rw [z] at z2
        have z3 := List.length_eq_zero_iff.mp z2.symm
        rw [z3] at c
        exact absurd c.1 (by decide)
      by_cases c1 : k = 1
      · subst c1
        have e1 : (List.replicate (1 : Int).toNat ds).flatten = ds := by
          show ds ++ [] = ds
          exact List.append_nil _
        rw [e1] at out
        exact op_repT1 pins s σ H _ _ v u Q I rx ry ⟨a, vs, rfl, rfl, SqT.of h1, out.flat (Rep.tup_of h1 h2) rfl⟩
      · by_cases c2 : k ≤ 0
        · have e1 : (List.replicate k.toNat ds).flatten = [] := by
            have : k.toNat = 0 := by omega
            rw [this]; rfl
          rw [e1] at out
          exact op_repT0 pins s σ H _ _ v u Q I rx ry ⟨a, _, vs, rfl, rfl, SqT.of h1, hne, c2, c.2.1, fun p hp => out.newT hm Reps.nil hp⟩
        · exact op_repT pins s σ H _ _ v u Q I rx ry ⟨a, _, vs, rfl, rfl, SqT.of h1, hne, by omega, c.2.2.1, by rw [h2.length]; exact c.2.2.2, fun p hp => out.newT hm (rep_all h2 _) hp⟩
    · cases e
  case lst.int =>
    split at e
    · rename_i c
      have c : _ ∧ _ ∧ _ := c
      cases e
      obtain ⟨a, vs, rfl, h1, h2⟩ := r1.lst
      obtain rfl := r2.int
      exact op_rep pins s σ H _ _ v u Q I rx ry ⟨a, _, vs, rfl, rfl, h1, by omega, by omega, by rw [h2.length]; exact of_decide_eq_true c.2.2, fun p hp => out.newL hm (rep_all h2 _) hp⟩
    · cases e
end

mutual
def toPy : D → PyData
  | .non => .none
  | .bl b => .bool b
  | .int i => .int i
  | .str x => .str x
  | .tup ds => .tuple (toPys ds)
  | .lst ds => .list (toPys ds)
  | .arg ns => .list (ns.map .int)
  | .dik _ _ => .dict []
  | .dit _ _ => .dict []
  | .ftu ds => .tuple (toPys ds)
  | .tab _ _ => .dict []
def toPys : List D → List PyData
  | [] => []
  | d :: ds => toPy d :: toPys ds
end
def dOk (d : D) : Bool := SeqAt.shaped (toPy d)
def eqP (x y : D) : Bool := PyData.eqv (toPy x) (toPy y)
theorem dp_ints {K : PySem.W.Frag} {H : Hp} : ∀ ns : List Int, DpAll K H (ns.map V.int) (ns.map PyData.int)
  | [] => .nil
  | n :: ns => .cons (.int n) (dp_ints ns)
mutual
theorem Rep.dp {K : PySem.W.Frag} {H : Hp} : ∀ (d : D) {P : Pr} {v : V}, (toPy d).canLay0 = true → Rep K H d P v → Dp K H v (toPy d)
  | .non, _, _, _, h => by unfold Rep at h; subst h; exact .non
  | .bl b, _, _, _, h => by unfold Rep at h; subst h; exact .bl b
  | .int i, _, _, _, h => by unfold Rep at h; subst h; exact .int i
  | .str i, _, _, _, h => by unfold Rep at h; subst h; exact .str i
  | .tup ds, P, v, c, h => by
    unfold Rep at h
    obtain ⟨a, vs, rfl, h1, h2⟩ := h
    unfold toPy at c ⊢
    exact .tup (SqT.of h1) (Reps.dp ds (by simpa [PyData.canLay0] using c) h2)
  | .lst ds, P, v, c, h => by
    unfold Rep at h
    obtain ⟨a, vs, rfl, _, h1, h2⟩ := h
    unfold toPy at c ⊢
    exact .lst (SqL.of h1) (Reps.dp ds (by simpa [PyData.canLay0] using c) h2)
  | .arg ns, P, v, c, h => by
    unfold Rep at h
    unfold toPy
    obtain ⟨a, rfl, h⟩ := h
    rcases h with ⟨_, h⟩ | h
    · exact .lst (.inl h) (dp_ints ns)
    · refine .lst (.inr ?_) (dp_ints ns)
      rcases h with h | h
      · rcases h with e | ⟨o, e⟩ <;> cases e
      · exact h
  | .dik _ _, _, _, c, _ => by simp [toPy, PyData.canLay0] at c
  | .dit _ _, _, _, c, _ => by simp [toPy, PyData.canLay0] at c
  | .tab _ _, _, _, c, _ => by simp [toPy, PyData.canLay0] at c
  | .ftu ds, P, v, c, h => by
    unfold Rep at h
    obtain ⟨a, vs, o, rfl, h1, _, h2⟩ := h
    unfold toPy at c ⊢
    exact .tup (SqT.fz h1) (Reps.dp ds (by simpa [PyData.canLay0] using c) h2)
theorem Reps.dp {K : PySem.W.Frag} {H : Hp} : ∀ (ds : List D) {P : Pr} {vs : List V}, PyData.canLayAll0 (toPys ds) = true → Reps K H ds P vs → DpAll K H vs (toPys ds)
  | [], _, _, _, h => by rw [h.nil_iff]; exact .nil
  | d :: ds, P, vs, c, h => by
    obtain ⟨v, ws, rfl, h1, h2⟩ := h.cons_iff
    unfold toPys at c ⊢
    have c := Bool.and_eq_true_iff.mp (show (PyData.canLay0 (toPy d) && PyData.canLayAll0 (toPys ds)) = true by simpa [PyData.canLayAll0] using c)
    exact .cons (Rep.dp d c.1 h1) (Reps.dp ds c.2 h2)
end
theorem RepW.dp {K : PySem.W.Frag} {H : Hp} {d : D} {P : Pr} {v : V} (c : dOk d = true) (h : RepW K H d P v) : Dp K H v (toPy d) := by
  have c := SeqAt.canLay_of_shaped c
  cases d with
  | lst ds =>
    obtain ⟨a, vs, rfl, h1, h2⟩ := h
    unfold toPy at c ⊢
    exact .lst (SqL.of h1) (Reps.dp ds (by simpa [PyData.canLay0] using c) h2)
  | arg ns =>
    obtain ⟨a, rfl, h1⟩ := h
    unfold toPy
    exact .lst h1 (dp_ints ns)
  | dik _ _ => simp [toPy, PyData.canLay0] at c
  | dit _ _ => simp [toPy, PyData.canLay0] at c
  | tab _ _ => simp [toPy, PyData.canLay0] at c
  | non => exact Rep.dp (P := P) _ c h
  | bl _ => exact Rep.dp (P := P) _ c h
  | int _ => exact Rep.dp (P := P) _ c h
  | str _ => exact Rep.dp (P := P) _ c h
  | tup _ => exact Rep.dp (P := P) _ c h
  | ftu _ => exact Rep.dp (P := P) _ c h
def eqD (x y : D) : R D := if (dOk x && dOk y) = true then .ok (.bl (eqP x y)) else .stk
def neD (x y : D) : R D := if (dOk x && dOk y) = true then .ok (.bl (!eqP x y)) else .stk
def ltD : D → D → R D
  | .int i, .int j => .ok (.bl (decide (i < j)))
  | .str x, .str y => .ok (.bl (decide (x.cps.toList < y.cps.toList)))
  | _, _ => .stk
def gtD : D → D → R D
  | .int i, .int j => .ok (.bl (decide (j < i)))
  | _, _ => .stk
def geD : D → D → R D
  | .int i, .int j => .ok (.bl (decide (j ≤ i)))
  | _, _ => .stk
def isNon : D → Bool
  | .non => true
  | _ => false
def isD : D → D → R D
  | x, .non => .ok (.bl (isNon x))
  | .bl a, .bl b => .ok (.bl (decide (a = b)))
  | _, _ => .stk
def isNotD : D → D → R D
  | x, .non => .ok (.bl (!isNon x))
  | .bl a, .bl b => .ok (.bl (!decide (a = b)))
  | _, _ => .stk
def flatD : D → Bool
  | .non => true
  | .bl _ => true
  | .int _ => true
  | .str _ => true
  | _ => false
/-- in a text of one sign, a list of data, a tuple of flat data -/
def inB : D → D → Option Bool
  | .str a, .str b => if a.length = 1 then some (decide (a.cps.getD 0 0 ∈ b.cps.toList)) else none
  | x, .lst ds => if (dOk x && dOk (.lst ds)) = true then some (ds.any fun z => eqP z x) else none
  | x, .tup ds => if (flatD x && ds.all flatD) = true then some (ds.any fun z => eqP z x) else none
  | _, _ => none
def inD (x y : D) : R D := match inB x y with | some b => .ok (.bl b) | none => .stk
def ninD (x y : D) : R D := match inB x y with | some b => .ok (.bl (!b)) | none => .stk
section
variable {K : PySem.W.Frag} {H : Hp} {P : Pr}
theorem RepW.isNon {d : D} {v : V} (h : RepW K H d P v) : decide (v = .non) = isNon d := by
  cases d with
  | non => rw [h.non]; rfl
  | bl _ => rw [h.bl]; rfl
  | int _ => rw [h.int]; rfl
  | str _ => rw [h.str]; rfl
  | tup _ => obtain ⟨a, vs, rfl, _⟩ := h.tup; rfl
  | lst _ => obtain ⟨a, vs, rfl, _⟩ := h.lst; rfl
  | arg _ => obtain ⟨a, rfl, _⟩ := h.arg; rfl
  | ftu _ => obtain ⟨a, vs, o, rfl, _⟩ := h.ftu; rfl
  | dik _ _ => obtain ⟨a, vs, rfl, _⟩ := h; rfl
  | dit _ _ => obtain ⟨a, vs, rfl, _⟩ := h; rfl
  | tab _ _ => obtain ⟨a, rfl, _⟩ := h; rfl
theorem flat_rep {d : D} {v : V} (f : flatD d = true) (h : Rep K H d P v) : flatV v = true := by
  cases d <;> unfold Rep at h <;> first | (subst h; rfl) | (simp [flatD] at f)
theorem flat_eq {d e : D} {v w : V} (f : flatD d = true) (g : flatD e = true) (h : Rep K H d P v) (h2 : Rep K H e P w) : eqV v w = eqP d e := by
  cases d <;> unfold Rep at h <;> first | (simp [flatD] at f; done) | skip
  all_goals (cases e <;> unfold Rep at h2 <;> first | (simp [flatD] at g; done) | skip)
  all_goals (subst h; subst h2; simp [eqV, eqP, toPy, PyData.eqv])
theorem flats_rep : ∀ {ds : List D} {vs : List V}, ds.all flatD = true → Reps K H ds P vs → vs.all flatV = true
  | [], _, _, h => by rw [h.nil_iff]; rfl
  | d :: ds, vs, f, h => by
    obtain ⟨v, ws, rfl, h1, h2⟩ := h.cons_iff
    rw [List.all_cons, Bool.and_eq_true] at f ⊢
    exact ⟨flat_rep f.1 h1, flats_rep f.2 h2⟩
theorem inV_rep {x : D} {v : V} (g : flatD x = true) (hx : Rep K H x P v) : ∀ {ds : List D} {vs : List V}, ds.all flatD = true → Reps K H ds P vs → inV v vs = ds.any fun z => eqP z x
  | [], _, _, h => by rw [h.nil_iff]; rfl
  | d :: ds, vs, f, h => by
    obtain ⟨w, ws, rfl, h1, h2⟩ := h.cons_iff
    rw [List.all_cons, Bool.and_eq_true] at f
    have ih := inV_rep g hx f.2 h2
    unfold inV at ih ⊢
    rw [List.any_cons, List.any_cons, ih, flat_eq f.1 g h1 hx]
theorem flatW {d : D} {v : V} (f : flatD d = true) (h : RepW K H d P v) : Rep K H d P v := by
  cases d <;> first | exact h | (simp [flatD] at f)
theorem dp_any {x : D} : ∀ ds : List D, ((toPys ds).any fun z => PyData.eqv z (toPy x)) = ds.any fun z => eqP z x
  | [] => rfl
  | d :: ds => by unfold toPys; rw [List.any_cons, List.any_cons, dp_any ds]; rfl
end
section
variable {X : Cx}
theorem od_eq (hu : X.A.units + 64 < cLine) : OpR X (compareOp .Eq) (rD X.K eqD) := by
  intro pins s σ H x y v u Q I rx ry ⟨P, dx, dy, dz, hm, r1, r2, e, out⟩
  unfold eqD at e
  split at e
  · rename_i c; cases e
    rw [Bool.and_eq_true] at c
    exact op_eqD hu pins s σ H x y v u Q I rx ry ⟨_, _, r1.dp c.1, r2.dp c.2, c.1, c.2, out.bl⟩
  · cases e
theorem od_ne (hu : X.A.units + 64 < cLine) : OpR X (compareOp .NotEq) (rD X.K neD) := by
  intro pins s σ H x y v u Q I rx ry ⟨P, dx, dy, dz, hm, r1, r2, e, out⟩
  unfold neD at e
  split at e
  · rename_i c; cases e
    rw [Bool.and_eq_true] at c
    exact op_neD hu pins s σ H x y v u Q I rx ry ⟨_, _, r1.dp c.1, r2.dp c.2, c.1, c.2, out.bl⟩
  · cases e
theorem od_cmp {op : CmpOp} {f : D → D → R D} {p : Int → Int → Bool} (ho : OpR X (compareOp op) (rI0 fun i j => .bl (p i j))) (hf : ∀ x y z, f x y = .ok z → ∃ i j, x = .int i ∧ y = .int j ∧ z = .bl (p i j)) : OpR X (compareOp op) (rD X.K f) := by
  intro pins s σ H x y v u Q I rx ry ⟨P, dx, dy, dz, hm, r1, r2, e, out⟩
  obtain ⟨i, j, rfl, rfl, rfl⟩ := hf _ _ _ e
  obtain rfl := r1.int
  obtain rfl := r2.int
  exact ho pins s σ H _ _ v u Q I rx ry ⟨_, _, rfl, rfl, out.bl⟩
theorem od_gt : OpR X (compareOp .Gt) (rD X.K gtD) := od_cmp op_gt fun x y z e => by
  cases x <;> cases y <;> simp only [gtD, R.ok.injEq, reduceCtorEq] at e
  exact ⟨_, _, rfl, rfl, e.symm⟩
theorem od_ge : OpR X (compareOp .GtE) (rD X.K geD) := od_cmp op_ge fun x y z e => by
  cases x <;> cases y <;> simp only [geD, R.ok.injEq, reduceCtorEq] at e
  exact ⟨_, _, rfl, rfl, e.symm⟩
theorem od_lt : OpR X (compareOp .Lt) (rD X.K ltD) := by
  intro pins s σ H x y v u Q I rx ry ⟨P, dx, dy, dz, hm, r1, r2, e, out⟩
  cases dx <;> cases dy <;> simp only [ltD, R.ok.injEq, reduceCtorEq] at e
  · subst e
    obtain rfl := r1.int
    obtain rfl := r2.int
    exact op_lt pins s σ H _ _ v u Q I rx ry ⟨_, _, rfl, rfl, out.bl⟩
  · subst e
    obtain rfl := r1.str
    obtain rfl := r2.str
    exact op_lt_str pins s σ H _ _ v u Q I rx ry ⟨_, _, rfl, rfl, out.bl⟩
theorem od_is : OpR X (compareOp .Is) (rD X.K isD) := by
  intro pins s σ H x y v u Q I rx ry ⟨P, dx, dy, dz, hm, r1, r2, e, out⟩
  unfold isD at e
  split at e
  · cases e
    obtain rfl := r2.non
    exact op_isN pins s σ H _ _ v u Q I rx ry ⟨rfl, by rw [r1.isNon]; exact out.bl⟩
  · cases e
    obtain rfl := r1.bl
    obtain rfl := r2.bl
    exact op_is_bl pins s σ H _ _ v u Q I rx ry ⟨_, _, rfl, rfl, out.bl⟩
  · cases e
theorem od_isnot : OpR X (compareOp .IsNot) (rD X.K isNotD) := by
  intro pins s σ H x y v u Q I rx ry ⟨P, dx, dy, dz, hm, r1, r2, e, out⟩
  unfold isNotD at e
  split at e
  · cases e
    obtain rfl := r2.non
    exact op_notN pins s σ H _ _ v u Q I rx ry ⟨rfl, by rw [r1.isNon]; exact out.bl⟩
  · cases e
    obtain rfl := r1.bl
    obtain rfl := r2.bl
    exact op_isnot_bl pins s σ H _ _ v u Q I rx ry ⟨_, _, rfl, rfl, out.bl⟩
  · cases e
theorem one_sign {a : Str} (h : a.length = 1) : a = ⟨#[a.cps.getD 0 0]⟩ := by
  refine Str.ext' ?_
  have h : a.cps.size = 1 := h
  apply Array.ext
  · simpa using h
  · intro i h1 h2
    have : i = 0 := by simp at h2; omega
    subst this
    simp [Array.getD, h]
theorem od_in (hu : X.A.units + 65 < cLine) : OpR X (compareOp .In) (rD X.K inD) := by
  intro pins s σ H x y v u Q I rx ry ⟨P, dx, dy, dz, hm, r1, r2, e, out⟩
  unfold inD at e
  split at e
  · rename_i b eb
    cases e
    unfold inB at eb
    split at eb
    · split at eb
      · rename_i c; cases eb
        obtain rfl := r1.str
        obtain rfl := r2.str
        refine op_in_sign pins s σ H _ _ v u Q I rx ry ⟨_, _, congrArg V.str (one_sign c), rfl, out.bl⟩
      · cases eb
    · split at eb
      · rename_i c; cases eb
        rw [Bool.and_eq_true] at c
        refine op_inD hu pins s σ H _ _ v u Q I rx ry ⟨_, toPys _, r1.dp c.1, by have q := r2.dp c.2; unfold toPy at q; exact q, c.1, by have q := c.2; unfold dOk toPy at q; exact q, ?_⟩
        rw [dp_any]
        exact out.bl
      · cases eb
    · split at eb
      · rename_i c; cases eb
        rw [Bool.and_eq_true] at c
        obtain ⟨a, vs, rfl, h1, h2⟩ := r2.tup
        refine op_in_seq pins s σ H _ _ v u Q I rx ry ⟨a, vs, rfl, .inr (SqT.of h1), flat_rep c.1 (flatW c.1 r1), flats_rep c.2 h2, ?_⟩
        rw [if_neg (by decide), inV_rep c.1 (flatW c.1 r1) c.2 h2]
        exact out.bl
      · cases eb
    · cases eb
  · cases e
theorem od_nin (hu : X.A.units + 65 < cLine) : OpR X (compareOp .NotIn) (rD X.K ninD) := by
  intro pins s σ H x y v u Q I rx ry ⟨P, dx, dy, dz, hm, r1, r2, e, out⟩
  unfold ninD at e
  split at e
  · rename_i b eb
    cases e
    unfold inB at eb
    split at eb
    · split at eb
      · rename_i c; cases eb
        obtain rfl := r1.str
        obtain rfl := r2.str
        refine op_notIn_sign pins s σ H _ _ v u Q I rx ry ⟨_, _, congrArg V.str (one_sign c), rfl, out.bl⟩
      · cases eb
    · split at eb
      · rename_i c; cases eb
        rw [Bool.and_eq_true] at c
        refine op_notInD hu pins s σ H _ _ v u Q I rx ry ⟨_, toPys _, r1.dp c.1, by have q := r2.dp c.2; unfold toPy at q; exact q, c.1, by have q := c.2; unfold dOk toPy at q; exact q, ?_⟩
        rw [dp_any]
        exact out.bl
      · cases eb
    · split at eb
      · rename_i c; cases eb
        rw [Bool.and_eq_true] at c
        obtain ⟨a, vs, rfl, h1, h2⟩ := r2.tup
        refine op_notIn_seq pins s σ H _ _ v u Q I rx ry ⟨a, vs, rfl, .inr (SqT.of h1), flat_rep c.1 (flatW c.1 r1), flats_rep c.2 h2, ?_⟩
        rw [if_pos rfl, inV_rep c.1 (flatW c.1 r1) c.2 h2]
        exact out.bl
      · cases eb
    · cases eb
  · cases e
end
end Y

set_option Elab.async false
set_option linter.all false
set_option maxRecDepth 100000
namespace Y
open PySem PySem.Spec PyProof.Rows L2

section
variable {X : Cx} {P0 : Pr} {O W : List Nat} {E : EK} {a b c : Expr} {ma mb mc : EM} {pos : Pos}
theorem ce_bin {op : Operator} {f : D → D → R D} (ho : OpR X (binaryOp op) (rD X.K f)) (ha : CEx X P0 O W E a ma) (hb : CEx X P0 O W E b mb) : CEx X P0 O W E (.BinOp a op b pos) (cOp f ma mb) := PE.imp (pe_op ho ha hb) tM_op
theorem ce_cmp {op : CmpOp} {f : D → D → R D} (ho : OpR X (compareOp op) (rD X.K f)) (ha : CEx X P0 O W E a ma) (hb : CEx X P0 O W E b mb) (hm : behindInMarks op b = false := by rfl) : CEx X P0 O W E (.Compare a [op] [b] pos) (cOp f ma mb) := PE.imp (pe_cmpR ho ha hb hm) tM_op
/-- a handle's truth -/
def truD : D → R Bool
  | .non => .ok false
  | .bl b => .ok b
  | .int i => .ok (i != 0)
  | .str x => if szOk x.length = true then .ok (x.length != 0) else .stk
  | .tup ds => .ok (!ds.isEmpty)
  | .lst ds => .ok (!ds.isEmpty)
  | .arg ns => .ok (!ns.isEmpty)
  | .dik _ _ => .stk
  | .dit _ _ => .stk
  | .ftu ds => .ok (!ds.isEmpty)
  | .tab _ _ => .stk
theorem truD_ok {K : PySem.W.Frag} {H : Hp} {P : Pr} {d : D} {v : V} {k : Bool} (h : truD d = .ok k) (r : RepW K H d P v) : TruV K v H k := by
  cases d <;> simp only [truD, R.ok.injEq, reduceCtorEq] at h
  · rw [r.non]; exact h.symm
  · rw [r.bl]; exact h.symm
  · rw [r.int]; exact h.symm
  · split at h
    · rename_i c; cases h
      rw [r.str]
      exact ⟨of_decide_eq_true c, by
        show (_ != _) = (_ != _)
        simp only [bne, Nat.beq_eq_true_eq]
        congr 1
        exact Bool.eq_iff_iff.mpr (by simp)⟩
    · cases h
  · obtain ⟨a, vs, rfl, h1, h2⟩ := r.tup
    refine .inr (.inl ⟨vs, SqT.of h1, ?_⟩)
    rw [← h]
    rename_i ds
    have := h2.length
    cases vs <;> cases ds <;> simp at this ⊢
  · obtain ⟨a, vs, rfl, h1, h2⟩ := r.lst
    refine .inl ⟨vs, SqL.of h1, ?_⟩
    rw [← h]
    rename_i ds
    have := h2.length
    cases vs <;> cases ds <;> simp at this ⊢
  · obtain ⟨a, rfl, h1⟩ := r.arg
    refine .inl ⟨_, h1, ?_⟩
    rw [← h]
    rename_i ns
    cases ns <;> rfl
  · obtain ⟨a, vs, o, rfl, h1, hdn, h2⟩ := r.ftu
    clear hdn
    refine .inr (.inl ⟨vs, SqT.fz h1, ?_⟩)
    rw [← h]
    rename_i ds
    have := h2.length
    cases vs <;> cases ds <;> simp at this ⊢
abbrev CT (X : Cx) (P0 : Pr) (O W : List Nat) (E : EK) (e : Expr) (m : BM) : Prop := PT X e (tMt X.K P0 O W E m)
def cTru (m : EM) : BM := fun ρ => do
  let (h, ρ1) ← m ρ
  let d ← (h.d ρ1).nox
  let b ← (truD d).nox
  pure (b, ρ1)
theorem ct_val (ha : CEx X P0 O W E a ma) (he : ∀ whole, isTrue a X.env whole = (do let v ← whole; standAt a.pos; holding [v] (truthy v)) := by intro _; rfl) : CT X P0 O W E a (cTru ma) := PT.imp (pt_truth ha he) fun σ H Q ⟨ρ, S, h⟩ =>
  ⟨ρ, S, h.of_bind.mono fun ⟨h1, ρ1⟩ q v H1 S1 k1 r1 => by
    obtain ⟨d, e1, q⟩ := q.of_nox
    obtain ⟨k, e2, q⟩ := q.of_nox
    exact ⟨k, truD_ok e2 (r1.d S1 e1), q H1 S1 k1⟩⟩
/-- a comparison as a test -/
def cBl (m : EM) : BM := fun ρ => do
  let (h, ρ1) ← m ρ
  let d ← h.v.nox
  match d with
  | .bl k => pure (k, ρ1)
  | _ => .stk
theorem tM_bl {m : EM} (σ : St) (H : Hp) (Q : Bool → Hp → Prop) (h : tMt X.K P0 O W E (cBl m) σ H Q) : tTest (tM X.K P0 O W E m) σ H Q := by
  obtain ⟨ρ, S, h⟩ := h
  refine ⟨ρ, S, h.of_bind.mono fun ⟨h1, ρ1⟩ q v H1 S1 k1 r1 => ?_⟩
  obtain ⟨d, e1, q⟩ := q.of_nox
  have r := r1.v e1
  cases d <;> first | (exact q.elim) | skip
  unfold Rep at r
  exact ⟨_, r, q H1 S1 k1⟩
theorem tTest_imp {t t' : TE} (i : ∀ σ H Q, t' σ H Q → t σ H Q) {σ : St} {H : Hp} {Q : Bool → Hp → Prop} (h : tTest t' σ H Q) : tTest t σ H Q := i σ H _ h
theorem ct_cmp {op : CmpOp} {f : D → D → R D} (ho : OpR X (compareOp op) (rD X.K f)) (ha : CEx X P0 O W E a ma) (hb : CEx X P0 O W E b mb) (hm : behindInMarks op b = false := by rfl) : CT X P0 O W E (.Compare a [op] [b] pos) (cBl (cOp f ma mb)) := PT.imp (pt_cmpR ho ha hb hm) fun σ H Q h => tTest_imp tM_op (tM_bl σ H Q h)
def cNotT (m : BM) : BM := fun ρ => do
  let (b, ρ1) ← m ρ
  pure (!b, ρ1)
theorem ct_not {m : BM} (h : CT X P0 O W E a m) : CT X P0 O W E (.UnaryOp .Not a pos) (cNotT m) := PT.imp (pt_not h) fun σ H Q ⟨ρ, S, h⟩ => ⟨ρ, S, h.of_bind.mono fun ⟨b, ρ1⟩ q => q⟩
abbrev CW (X : Cx) (P0 : Pr) (O W : List Nat) (E : EK) (e : Expr) (m : BM) : Prop := PW X e (tMt X.K P0 O W E m)
def cAndT (a b : BM) : BM := fun ρ => do
  let (k, ρ1) ← a ρ
  if k = true then b ρ1 else pure (false, ρ1)
def cOrT (a b : BM) : BM := fun ρ => do
  let (k, ρ1) ← a ρ
  if k = true then pure (true, ρ1) else b ρ1
theorem cw_and1 {m : BM} (h : CT X P0 O W E a m) : CW X P0 O W E (.BoolOp .And [a] pos) m := pw_and1 h
theorem cw_or1 {m : BM} (h : CT X P0 O W E a m) : CW X P0 O W E (.BoolOp .Or [a] pos) m := pw_or1 h
theorem cw_and {rest : List Expr} {m n : BM} (h : CT X P0 O W E a m) (h2 : CW X P0 O W E (.BoolOp .And (b :: rest) pos) n) : CW X P0 O W E (.BoolOp .And (a :: b :: rest) pos) (cAndT m n) := PW.imp (pw_and h h2) fun σ H Q ⟨ρ, S, h⟩ =>
  ⟨ρ, S, h.of_bind.mono fun ⟨k, ρ1⟩ q H1 S1 k1 => by
    cases k with
    | true => exact ⟨ρ1, S1, (q.keep k1).mono fun ⟨k2, ρ2⟩ q2 H2 S2 k3 => q2 H2 S2 (k1.trans k3)⟩
    | false => exact q H1 S1 k1⟩
theorem cw_or {rest : List Expr} {m n : BM} (h : CT X P0 O W E a m) (h2 : CW X P0 O W E (.BoolOp .Or (b :: rest) pos) n) : CW X P0 O W E (.BoolOp .Or (a :: b :: rest) pos) (cOrT m n) := PW.imp (pw_or h h2) fun σ H Q ⟨ρ, S, h⟩ =>
  ⟨ρ, S, h.of_bind.mono fun ⟨k, ρ1⟩ q H1 S1 k1 => by
    cases k with
    | false => exact ⟨ρ1, S1, (q.keep k1).mono fun ⟨k2, ρ2⟩ q2 H2 S2 k3 => q2 H2 S2 (k1.trans k3)⟩
    | true => exact q H1 S1 k1⟩
theorem ct_w {m : BM} (h : CW X P0 O W E a m) : CT X P0 O W E a m := h.pt
theorem HdR.then {K : PySem.W.Frag} {ρ : Env} {σ : St} {H H1 H2 : Hp} {hd : Hd} {v : V} (k : Keep W σ H H1) (r : HdR K P0 O H1 σ H2 hd v) : HdR K P0 O H σ H2 hd v := r.back k.some
def cAnd (a b : EM) : EM := fun ρ => do
  let (h, ρ1) ← a ρ
  let d ← (h.d ρ1).nox
  let k ← (truD d).nox
  if k = true then b ρ1 else pure (h, ρ1)
def cOr (a b : EM) : EM := fun ρ => do
  let (h, ρ1) ← a ρ
  let d ← (h.d ρ1).nox
  let k ← (truD d).nox
  if k = true then pure (h, ρ1) else b ρ1
def cNot (m : EM) : EM := fun ρ => do
  let (h, ρ1) ← m ρ
  let d ← (h.d ρ1).nox
  let k ← (truD d).nox
  pure (.fr (.bl (!k)), ρ1)
theorem ce_one {op : BoolOp} (h : CEx X P0 O W E a ma) : CEx X P0 O W E (.BoolOp op [a] pos) ma := pe_one h
theorem ce_and {rest : List Expr} (h : CEx X P0 O W E a ma) (h2 : CEx X P0 O W E (.BoolOp .And (b :: rest) pos) mb) : CEx X P0 O W E (.BoolOp .And (a :: b :: rest) pos) (cAnd ma mb) := PE.imp (pe_andT h h2) fun σ H Q ⟨ρ, S, h⟩ =>
  ⟨ρ, S, h.of_bind.mono fun ⟨h1, ρ1⟩ q v H1 S1 k1 r1 => by
    obtain ⟨d, e1, q⟩ := q.of_nox
    obtain ⟨k, e2, q⟩ := q.of_nox
    refine ⟨k, truD_ok e2 (r1.d S1 e1), ?_⟩
    cases k with
    | true => exact ⟨ρ1, S1, (q.keep k1).mono fun ⟨h2, ρ2⟩ q2 w H2 S2 k2 r2 => q2 w H2 S2 (k1.trans k2) (r2.back k1.some)⟩
    | false => exact q v H1 S1 k1 r1⟩
theorem ce_or {rest : List Expr} (h : CEx X P0 O W E a ma) (h2 : CEx X P0 O W E (.BoolOp .Or (b :: rest) pos) mb) : CEx X P0 O W E (.BoolOp .Or (a :: b :: rest) pos) (cOr ma mb) := PE.imp (pe_orT h h2) fun σ H Q ⟨ρ, S, h⟩ =>
  ⟨ρ, S, h.of_bind.mono fun ⟨h1, ρ1⟩ q v H1 S1 k1 r1 => by
    obtain ⟨d, e1, q⟩ := q.of_nox
    obtain ⟨k, e2, q⟩ := q.of_nox
    refine ⟨k, truD_ok e2 (r1.d S1 e1), ?_⟩
    cases k with
    | false => exact ⟨ρ1, S1, (q.keep k1).mono fun ⟨h2, ρ2⟩ q2 w H2 S2 k2 r2 => q2 w H2 S2 (k1.trans k2) (r2.back k1.some)⟩
    | true => exact q v H1 S1 k1 r1⟩
theorem ce_not (h : CEx X P0 O W E a ma) : CEx X P0 O W E (.UnaryOp .Not a pos) (cNot ma) := PE.imp (pe_notT h) fun σ H Q ⟨ρ, S, h⟩ =>
  ⟨ρ, S, h.of_bind.mono fun ⟨h1, ρ1⟩ q v H1 S1 k1 r1 => by
    obtain ⟨d, e1, q⟩ := q.of_nox
    obtain ⟨k, e2, q⟩ := q.of_nox
    exact ⟨k, truD_ok e2 (r1.d S1 e1), (out_of S1 k1 q).bl⟩⟩
def cIf (t : BM) (a b : EM) : EM := fun ρ => do
  let (k, ρ1) ← t ρ
  if k = true then a ρ1 else b ρ1
theorem ce_if {m : BM} (h : CT X P0 O W E c m) (ha : CEx X P0 O W E a ma) (hb : CEx X P0 O W E b mb) : CEx X P0 O W E (.IfExp c a b pos) (cIf m ma mb) := PE.imp (pe_ifExp h ha hb) fun σ H Q ⟨ρ, S, h⟩ =>
  ⟨ρ, S, h.of_bind.mono fun ⟨k, ρ1⟩ q H1 S1 k1 => by
    cases k with
    | true => exact ⟨ρ1, S1, (q.keep k1).mono fun ⟨h2, ρ2⟩ q2 w H2 S2 k2 r2 => q2 w H2 S2 (k1.trans k2) (r2.back k1.some)⟩
    | false => exact ⟨ρ1, S1, (q.keep k1).mono fun ⟨h2, ρ2⟩ q2 w H2 S2 k2 r2 => q2 w H2 S2 (k1.trans k2) (r2.back k1.some)⟩⟩
def cNeg (m : EM) : EM := fun ρ => do
  let (h, ρ1) ← m ρ
  let d ← h.v.nox
  match d with
  | .int i => pure (.fr (.int (-i)), ρ1)
  | _ => .stk
theorem ce_neg (h : CEx X P0 O W E a ma) : CEx X P0 O W E (.UnaryOp .USub a pos) (cNeg ma) := PE.imp (pe_un un_neg h) fun σ H Q ⟨ρ, S, h⟩ =>
  ⟨ρ, S, h.of_bind.mono fun ⟨h1, ρ1⟩ q v H1 S1 k1 r1 => by
    obtain ⟨d, e1, q⟩ := q.of_nox
    have r := r1.v e1
    cases d <;> first | (exact q.elim) | skip
    unfold Rep at r
    exact ⟨_, r, (out_of S1 k1 q).int⟩⟩
end
end Y

set_option Elab.async false
set_option linter.all false
set_option maxRecDepth 100000
namespace Y
open PySem PySem.Spec PyProof.Rows L2

def cNil : AM := fun ρ => .ok ([], ρ)
def cCons (a : EM) (as : AM) : AM := fun ρ => do
  let (h, ρ1) ← a ρ
  let (hs, ρ2) ← as ρ1
  pure (h :: hs, ρ2)
def vsOf : List Hd → R (List D)
  | [] => .ok []
  | h :: hs => do
    let d ← h.v.nox
    let ds ← vsOf hs
    pure (d :: ds)
def dsOf : List Hd → Env → R (List D)
  | [], _ => .ok []
  | h :: hs, ρ => do
    let d ← (h.d ρ).nox
    let ds ← dsOf hs ρ
    pure (d :: ds)
def RepWs (K : PySem.W.Frag) (H : Hp) : List D → Pr → List V → Prop
  | [], _, vs => vs = []
  | d :: ds, P, vs => ∃ v ws, vs = v :: ws ∧ RepW K H d P v ∧ RepWs K H ds P ws
theorem R.ok_of {α β : Type} {r : R α} {f : α → R β} {b : β} (h : (r >>= f) = .ok b) : ∃ a, r = .ok a ∧ f a = .ok b := by
  cases r with
  | ok a => exact ⟨a, rfl, h⟩
  | er c ds => cases h
  | stk => cases h
theorem R.nox_of {α : Type} {r : R α} {a : α} (h : r.nox = .ok a) : r = .ok a := by cases r <;> first | exact h | cases h
theorem RepWs.get1 {K : PySem.W.Frag} {H : Hp} {d : D} {P : Pr} {vs : List V} (h : RepWs K H [d] P vs) : ∃ v, vs = [v] ∧ RepW K H d P v := by
  obtain ⟨v, ws, rfl, h1, h2⟩ := h
  have h2 : ws = [] := h2
  subst h2
  exact ⟨v, rfl, h1⟩
theorem RepWs.get2 {K : PySem.W.Frag} {H : Hp} {d e : D} {P : Pr} {vs : List V} (h : RepWs K H [d, e] P vs) : ∃ v w, vs = [v, w] ∧ RepW K H d P v ∧ RepW K H e P w := by
  obtain ⟨v, ws, rfl, h1, h2⟩ := h
  obtain ⟨w, rfl, h3⟩ := RepWs.get1 h2
  exact ⟨v, w, rfl, h1, h3⟩
section
variable {K : PySem.W.Frag} {P0 : Pr} {O W : List Nat} {ρ : Env} {σ : St} {Hs H : Hp}
theorem HdRs.vs : ∀ {hs : List Hd} {vs : List V} {ds : List D}, HdRs K P0 O Hs σ H hs vs → vsOf hs = .ok ds → Reps K H ds (FA P0 O σ) vs
  | [], _, _, r, e => by cases e; have r : _ = [] := r; subst r; exact Reps.nil
  | h :: hs, _, _, ⟨v, ws, e, r1, r2⟩, q => by
    obtain ⟨d, e1, q⟩ := R.ok_of q
    obtain ⟨ds, e2, q⟩ := R.ok_of q
    cases q
    subst e
    exact Reps.cons (r1.v (R.nox_of e1)) (HdRs.vs r2 e2)
theorem HdRs.ds (S : Sim K P0 O W ρ σ H) : ∀ {hs : List Hd} {vs : List V} {ds : List D}, HdRs K P0 O Hs σ H hs vs → dsOf hs ρ = .ok ds → RepWs K H ds (FA P0 O σ) vs
  | [], _, _, r, e => by cases e; exact r
  | h :: hs, _, _, ⟨v, ws, e, r1, r2⟩, q => by
    obtain ⟨d, e1, q⟩ := R.ok_of q
    obtain ⟨ds, e2, q⟩ := R.ok_of q
    cases q
    subst e
    exact ⟨v, ws, rfl, r1.d S (R.nox_of e1), HdRs.ds S r2 e2⟩
end
section
variable {X : Cx} {P0 : Pr} {O W : List Nat} {E : EK} {a b c e : Expr} {es : List Expr} {ma mb mc : EM} {ms : AM} {pos : Pos}
abbrev CA (X : Cx) (P0 : Pr) (O W : List Nat) (E : EK) (es : List Expr) (m : AM) : Prop := PA X es (tMs X.K P0 O W E m)
theorem ca_nil : CA X P0 O W E [] cNil := PA.imp pa_nil fun σ H Q ⟨ρ, S, h⟩ => h [] H S .refl rfl
theorem ca_cons (h : CEx X P0 O W E e ma) (hs : CA X P0 O W E es ms) (hst : starEach (e :: es) X.env = (false, eval e X.env) :: starEach es X.env := by rfl) : CA X P0 O W E (e :: es) (cCons ma ms) := PA.imp (pa_cons h hs hst) fun σ H Q ⟨ρ, S, h⟩ =>
  ⟨ρ, S, h.of_bind.mono fun ⟨h1, ρ1⟩ q v H1 S1 k1 r1 => ⟨ρ1, S1, (q.keep k1).of_bind.mono fun ⟨hs, ρ2⟩ q2 vs H2 S2 k2 r2 => q2 _ H2 S2 (k1.trans k2) ⟨v, vs, rfl, r1.keep S1 k2, HdRs.back k1.some r2⟩⟩⟩
def cTup (m : AM) : EM := fun ρ => do
  let (hs, ρ1) ← m ρ
  let ds ← (vsOf hs).nox
  if szOk ds.length = true then pure (.fr (.tup ds), ρ1) else .stk
def cLst (m : AM) : EM := fun ρ => do
  let (hs, ρ1) ← m ρ
  let ds ← (vsOf hs).nox
  if szOk ds.length = true then pure (.fr (.lst ds), ρ1) else .stk
theorem ce_tup {x1} (h : CA X P0 O W E es ms) : CEx X P0 O W E (.Tuple es x1 pos) (cTup ms) := PE.imp (pe_tup h) fun σ H Q ⟨ρ, S, h⟩ =>
  ⟨ρ, S, h.of_bind.mono fun ⟨hs, ρ1⟩ q vs H1 S1 k1 r1 => by
    obtain ⟨ds, e1, q⟩ := q.of_nox
    have rr := HdRs.vs r1 e1
    by_cases c : szOk ds.length = true
    · rw [if_pos c] at q
      exact ⟨by rw [rr.length]; exact of_decide_eq_true c, fun p hp => (out_of S1 k1 q).newT S1.dom rr hp⟩
    · rw [if_neg c] at q
      exact q.elim⟩
theorem ce_lst (h : CA X P0 O W E es ms) : CEx X P0 O W E (.List es pos) (cLst ms) := PE.imp (pe_lst h) fun σ H Q ⟨ρ, S, h⟩ =>
  ⟨ρ, S, h.of_bind.mono fun ⟨hs, ρ1⟩ q vs H1 S1 k1 r1 => by
    obtain ⟨ds, e1, q⟩ := q.of_nox
    have rr := HdRs.vs r1 e1
    by_cases c : szOk ds.length = true
    · rw [if_pos c] at q
      exact ⟨by rw [rr.length]; exact of_decide_eq_true c, fun p hp => (out_of S1 k1 q).newL S1.dom rr hp⟩
    · rw [if_neg c] at q
      exact q.elim⟩

def cCall (f : List D → R D) (m : AM) : EM := fun ρ => do
  let (hs, ρ1) ← m ρ
  let ds ← (dsOf hs ρ1).nox
  let z ← (f ds).nox
  pure (.fr z, ρ1)
def rDs (K : PySem.W.Frag) (f : List D → R D) : List V → Hp → VK → Prop := fun xs H Q => ∃ (P : Pr) (ds : List D) (dz : D), (∀ b, P b → isMut (H b)) ∧ RepWs K H ds P xs ∧ f ds = .ok dz ∧ Out K P H dz Q
theorem tM_call {f : List D → R D} (σ : St) (H : Hp) (Q : VK) (h : tM X.K P0 O W E (cCall f ms) σ H Q) : tCB (rDs X.K f) (tMs X.K P0 O W E ms) σ H Q := by
  obtain ⟨ρ, S, h⟩ := h
  refine ⟨ρ, S, h.of_bind.mono fun ⟨hs, ρ1⟩ q vs H1 S1 k1 r1 => ?_⟩
  obtain ⟨ds, e1, q⟩ := q.of_nox
  obtain ⟨z, e2, q⟩ := q.of_nox
  exact ⟨FA P0 O σ, ds, z, S1.dom, HdRs.ds S1 r1 e1, e2, out_of S1 k1 q⟩
theorem ce_callB {f : List D → R D} {id : String} {x : Str} {p : Pos} (hc : CallR X (.builtin id) (rDs X.K f)) (hm : X.mg x = none) (hv : bootBuiltins x = some (.builtin id)) (ha : CA X P0 O W E (e :: es) ms) (hg : Gl X x := by rfl) (hn : x ≠ "__name__" := by decide) (hdb : (x == ("__debug__" : Str)) = false := by decide)
    (he : starEach (e :: es) X.env = (false, eval e X.env) :: starEach es X.env := by rfl) (hpl : (backTo pos (starEach es X.env)).any (·.1) = false := by rfl) : CEx X P0 O W E (.Call (.Name x p) (e :: es) [] pos) (cCall f ms) := PE.imp (pe_callB hc hg hm hv ha hn hdb he hpl) tM_call
theorem ce_callT {f : List D → R D} {T : String} {x : Str} {p : Pos} (hc : CallR X (.type T) (rDs X.K f)) (hm : X.mg x = none) (hv : bootBuiltins x = some (.type T)) (ha : CA X P0 O W E (e :: es) ms) (hg : Gl X x := by rfl) (hn : x ≠ "__name__" := by decide) (hdb : (x == ("__debug__" : Str)) = false := by decide)
    (he : starEach (e :: es) X.env = (false, eval e X.env) :: starEach es X.env := by rfl) (hpl : (backTo pos (starEach es X.env)).any (·.1) = false := by rfl) : CEx X P0 O W E (.Call (.Name x p) (e :: es) [] pos) (cCall f ms) := PE.imp (pe_callTy hc hg hm hv ha hn hdb he hpl) tM_call
def lenD : List D → R D
  | [.str x] => if szOk x.length = true then .ok (.int x.length) else .stk
  | [.tup ds] => .ok (.int ds.length)
  | [.lst ds] => .ok (.int ds.length)
  | [.arg ns] => .ok (.int ns.length)
  | [.ftu ds] => .ok (.int ds.length)
  | _ => .stk
def max2D : List D → R D
  | [.int i, .int j] => .ok (.int (max i j))
  | _ => .stk
def min2D : List D → R D
  | [.int i, .int j] => .ok (.int (min i j))
  | _ => .stk
/-- the ints of a list -/
def intsOf : List D → Option (List Int)
  | [] => some []
  | .int i :: ds => (intsOf ds).map (i :: ·)
  | _ => none
def blsOf : List D → Option (List Bool)
  | [] => some []
  | .bl i :: ds => (blsOf ds).map (i :: ·)
  | _ => none
def strsOf : List D → Option (List Str)
  | [] => some []
  | .str i :: ds => (strsOf ds).map (i :: ·)
  | _ => none
def sumD : List D → R D
  | [.lst ds] => match intsOf ds with
    | some ns => .ok (.int ns.sum)
    | none => .stk
  | _ => .stk
def allD : List D → R D
  | [.lst ds] => match blsOf ds with
    | some bs => .ok (.bl (bs.all id))
    | none => .stk
  | _ => .stk
/-- tuple(x), list(x) -/
def tupleD : List D → R D
  | [.lst ds] => .ok (.tup ds)
  | [.tup ds] => .ok (.tup ds)
  | [.ftu ds] => .ok (.ftu ds)
  | _ => .stk
def intOfD : List D → R D
  | [.int i] => .ok (.int i)
  | [.bl k] => .ok (.int (if k then 1 else 0))
  | [.str x] => if x.length = 1 ∧ 48 ≤ x.cps.getD 0 0 ∧ x.cps.getD 0 0 < 58 then .ok (.int ((x.cps.getD 0 0 : Nat) - 48)) else .stk
  | _ => .stk
def strOfD : List D → R D
  | [.int i] => if i.natAbs.log2 < 1920 then .ok (.str (toString i)) else .stk
  | _ => .stk
theorem ints_rep {K : PySem.W.Frag} {H : Hp} {P : Pr} : ∀ {ds : List D} {ns : List Int} {vs : List V}, intsOf ds = some ns → Reps K H ds P vs → vs = ns.map V.int
  | [], ns, vs, e, h => by simp [intsOf] at e; subst e; exact h.nil_iff
  | d :: ds, ns, vs, e, h => by
    cases d <;> simp [intsOf] at e
    obtain ⟨ms, e1, rfl⟩ := e
    obtain ⟨v, ws, rfl, h1, h2⟩ := h.cons_iff
    unfold Rep at h1
    rw [h1, ints_rep e1 h2]
    rfl
theorem bls_rep {K : PySem.W.Frag} {H : Hp} {P : Pr} : ∀ {ds : List D} {ns : List Bool} {vs : List V}, blsOf ds = some ns → Reps K H ds P vs → vs = ns.map V.bl
  | [], ns, vs, e, h => by simp [blsOf] at e; subst e; exact h.nil_iff
  | d :: ds, ns, vs, e, h => by
    cases d <;> simp [blsOf] at e
    obtain ⟨ms, e1, rfl⟩ := e
    obtain ⟨v, ws, rfl, h1, h2⟩ := h.cons_iff
    unfold Rep at h1
    rw [h1, bls_rep e1 h2]
    rfl
theorem strs_rep {K : PySem.W.Frag} {H : Hp} {P : Pr} : ∀ {ds : List D} {ns : List Str} {vs : List V}, strsOf ds = some ns → Reps K H ds P vs → vs = ns.map V.str
  | [], ns, vs, e, h => by simp [strsOf] at e; subst e; exact h.nil_iff
  | d :: ds, ns, vs, e, h => by
    cases d <;> simp [strsOf] at e
    obtain ⟨ms, e1, rfl⟩ := e
    obtain ⟨v, ws, rfl, h1, h2⟩ := h.cons_iff
    unfold Rep at h1
    rw [h1, strs_rep e1 h2]
    rfl
theorem int2_of {f : Int → Int → D} {g : List D → R D} {ds : List D} {z : D} (hg : ∀ ds, g ds = match ds with | [.int i, .int j] => .ok (f i j) | _ => .stk) (h : g ds = .ok z) : ∃ i j, ds = [.int i, .int j] ∧ z = f i j := by
  rw [hg] at h
  split at h
  · cases h; exact ⟨_, _, rfl, rfl⟩
  · cases h
theorem cd_len : CallR X (.builtin "len") (rDs X.K lenD) := by
  intro pins s σ H xs us Q I r ⟨P, ds, dz, hm, rs, e, out⟩
  unfold lenD at e
  split at e
  · split at e
    · rename_i c; cases e
      obtain ⟨v, rfl, r1⟩ := rs.get1
      obtain rfl := r1.str
      exact call_len pins s σ H _ us Q I r ⟨_, _, rfl, ⟨of_decide_eq_true c, rfl⟩, out.int⟩
    · cases e
  · cases e
    obtain ⟨v, rfl, r1⟩ := rs.get1
    obtain ⟨a, vs, rfl, h1, h2⟩ := r1.tup
    rw [← h2.length] at out
    exact call_len pins s σ H _ us Q I r ⟨_, _, rfl, .inr ⟨vs, SqT.of h1, rfl⟩, out.int⟩
  · cases e
    obtain ⟨v, rfl, r1⟩ := rs.get1
    obtain ⟨a, vs, rfl, h1, h2⟩ := r1.lst
    rw [← h2.length] at out
    exact call_len pins s σ H _ us Q I r ⟨_, _, rfl, .inl ⟨vs, SqL.of h1, rfl⟩, out.int⟩
  · cases e
    obtain ⟨v, rfl, r1⟩ := rs.get1
    obtain ⟨a, rfl, h1⟩ := r1.arg
    refine call_len pins s σ H _ us Q I r ⟨_, _, rfl, .inl ⟨_, h1, rfl⟩, ?_⟩
    rw [List.length_map]
    exact out.int
  · cases e
    obtain ⟨v, rfl, r1⟩ := rs.get1
    obtain ⟨a, vs, o, rfl, h1, _, h2⟩ := r1.ftu
    rw [← h2.length] at out
    exact call_len pins s σ H _ us Q I r ⟨_, _, rfl, .inr ⟨vs, SqT.fz h1, rfl⟩, out.int⟩
  · cases e
theorem cd_max (hc : X.calm = true) : CallR X (.builtin "max") (rDs X.K max2D) := by
  intro pins s σ H xs us Q I r ⟨P, ds, dz, hm, rs, e, out⟩
  obtain ⟨i, j, rfl, rfl⟩ := int2_of (f := fun i j => .int (max i j)) (fun ds => by unfold max2D; rfl) e
  obtain ⟨v, w, rfl, r1, r2⟩ := rs.get2
  obtain rfl := r1.int
  obtain rfl := r2.int
  refine call_max2 hc pins s σ H _ us Q I r ⟨i, j, rfl, ?_⟩
  rw [show (if j > i then j else i) = max i j by omega]
  exact out.int
theorem cd_min (hc : X.calm = true) : CallR X (.builtin "min") (rDs X.K min2D) := by
  intro pins s σ H xs us Q I r ⟨P, ds, dz, hm, rs, e, out⟩
  obtain ⟨i, j, rfl, rfl⟩ := int2_of (f := fun i j => .int (min i j)) (fun ds => by unfold min2D; rfl) e
  obtain ⟨v, w, rfl, r1, r2⟩ := rs.get2
  obtain rfl := r1.int
  obtain rfl := r2.int
  refine call_min2 hc pins s σ H _ us Q I r ⟨i, j, rfl, ?_⟩
  rw [show (if j < i then j else i) = min i j by omega]
  exact out.int
theorem cd_all (hc : X.calm = true) : CallR X (.builtin "all") (rDs X.K allD) := by
  intro pins s σ H xs us Q I r ⟨P, ds, dz, hm, rs, e, out⟩
  unfold allD at e
  split at e
  · split at e
    · rename_i ns c; cases e
      obtain ⟨v, rfl, r1⟩ := rs.get1
      obtain ⟨a, vs, rfl, h1, h2⟩ := r1.lst
      obtain rfl := bls_rep c h2
      exact cr_all hc pins s σ H _ us Q I r ⟨a, ns, rfl, SqL.of h1, out.bl⟩
    · cases e
  · cases e
theorem cd_tuple : CallR X (.type "tuple") (rDs X.K tupleD) := by
  intro pins s σ H xs us Q I r ⟨P, ds, dz, hm, rs, e, out⟩
  unfold tupleD at e
  split at e
  · cases e
    obtain ⟨v, rfl, r1⟩ := rs.get1
    obtain ⟨a, vs, rfl, h1, h2⟩ := r1.lst
    exact call_tuple_of pins s σ H _ us Q I r ⟨a, vs, rfl, .inl ⟨SqL.of h1, fun l hl => out.newT hm h2 hl⟩⟩
  · cases e
    obtain ⟨v, rfl, r1⟩ := rs.get1
    obtain ⟨a, vs, rfl, h1, h2⟩ := r1.tup
    exact call_tuple_of pins s σ H _ us Q I r ⟨a, vs, rfl, .inr ⟨SqT.of h1, out.flat (Rep.tup_of h1 h2) rfl⟩⟩
  · cases e
    obtain ⟨v, rfl, r1⟩ := rs.get1
    obtain ⟨a, vs, o, rfl, h1, hd, h2⟩ := r1.ftu
    exact call_tuple_of pins s σ H _ us Q I r ⟨a, vs, rfl, .inr ⟨SqT.fz h1, out.flat (Rep.ftu_of h1 hd h2) rfl⟩⟩
  · cases e
theorem cd_str : CallR X (.type "str") (rDs X.K strOfD) := by
  intro pins s σ H xs us Q I r ⟨P, ds, dz, hm, rs, e, out⟩
  unfold strOfD at e
  split at e
  · split at e
    · rename_i c; cases e
      obtain ⟨v, rfl, r1⟩ := rs.get1
      obtain rfl := r1.int
      exact call_str_int pins s σ H _ us Q I r ⟨_, rfl, c, out.str⟩
    · cases e
  · cases e
theorem digit_text : ∀ c : Nat, 48 ≤ c → c < 58 → PySem.intText? ⟨#[c]⟩ = some ((c : Int) - 48) := by
  intro c h1 h2
  have : c = 48 ∨ c = 49 ∨ c = 50 ∨ c = 51 ∨ c = 52 ∨ c = 53 ∨ c = 54 ∨ c = 55 ∨ c = 56 ∨ c = 57 := by omega
  rcases this with rfl | rfl | rfl | rfl | rfl | rfl | rfl | rfl | rfl | rfl <;> decide +kernel
theorem cd_int : CallR X (.type "int") (rDs X.K intOfD) := by
  intro pins s σ H xs us Q I r ⟨P, ds, dz, hm, rs, e, out⟩
  unfold intOfD at e
  split at e
  · cases e
    obtain ⟨v, rfl, r1⟩ := rs.get1
    obtain rfl := r1.int
    exact call_int1 pins s σ H _ us Q I r (.inl ⟨_, rfl, out.int⟩)
  · cases e
    obtain ⟨v, rfl, r1⟩ := rs.get1
    obtain rfl := r1.bl
    exact call_int1 pins s σ H _ us Q I r (.inr ⟨_, rfl, out.int⟩)
  · split at e
    · rename_i x c; cases e
      obtain ⟨v, rfl, r1⟩ := rs.get1
      obtain rfl := r1.str
      refine call_int_str pins s σ H _ us Q I r ⟨x, _, rfl, ?_, by rw [c.1]; decide, out.int⟩
      have q := digit_text _ c.2.1 c.2.2
      rw [one_sign c.1]
      exact q
    · cases e
  · cases e
end
end Y

set_option Elab.async false
set_option linter.all false
set_option maxRecDepth 100000
namespace Y
open PySem PySem.Spec PyProof.Rows L2

def ixD : D → D → R D
  | .str x, .int i => match atI x.cps.toList i with
    | some c => if szOk x.length = true then .ok (.str ⟨#[c]⟩) else .stk
    | none => .stk
  | .tup ds, .int i => match atI ds i with | some d => .ok d | none => .stk
  | .lst ds, .int i => match atI ds i with | some d => .ok d | none => .stk
  | .arg ns, .int i => match atI ns i with | some n => .ok (.int n) | none => .stk
  | .ftu ds, .int i => match atI ds i with | some d => .ok d | none => .stk
  | _, _ => .stk
def cIx (a b : EM) : EM := fun ρ => do
  let (h1, ρ1) ← a ρ
  let (h2, ρ2) ← b ρ1
  let x ← (h1.d ρ2).nox
  let y ← (h2.d ρ2).nox
  let z ← (ixD x y).nox
  pure (.vl z, ρ2)
theorem Reps.atI {K : PySem.W.Frag} {H : Hp} {P : Pr} {ds : List D} {vs : List V} {i : Int} {d : D} (h : Reps K H ds P vs) (e : L2.atI ds i = some d) : ∃ v, L2.atI vs i = some v ∧ Rep K H d P v := by
  unfold L2.atI at e ⊢
  rw [h.length]
  cases q : ixN ds.length i with
  | none => rw [q] at e; cases e
  | some j => rw [q] at e; exact h.get e
theorem ints_atI {ns : List Int} {i n : Int} (e : atI ns i = some n) : atI (ns.map V.int) i = some (.int n) := by
  unfold atI at e ⊢
  rw [List.length_map]
  cases q : ixN ns.length i with
  | none => rw [q] at e; cases e
  | some j =>
    rw [q] at e
    show (ns.map V.int)[j]? = _
    rw [List.getElem?_map, show ns[j]? = some n from e]
    rfl
/-- the items of ds[lo:hi] -/
def cutD (ds : List D) (lo hi : Option Int) : List D := (ds.drop (HT.sIx ds.length 0 lo)).take (HT.sIx ds.length ds.length hi - HT.sIx ds.length 0 lo)
theorem Reps.drop {K : PySem.W.Frag} {H : Hp} {P : Pr} : ∀ (n : Nat) {ds : List D} {vs : List V}, Reps K H ds P vs → Reps K H (ds.drop n) P (vs.drop n)
  | 0, _, _, h => h
  | n + 1, [], _, h => by rw [h.nil_iff]; exact Reps.nil
  | n + 1, d :: ds, _, h => by
    obtain ⟨v, ws, rfl, _, h2⟩ := h.cons_iff
    exact Reps.drop n h2
theorem Reps.take {K : PySem.W.Frag} {H : Hp} {P : Pr} : ∀ (n : Nat) {ds : List D} {vs : List V}, Reps K H ds P vs → Reps K H (ds.take n) P (vs.take n)
  | 0, _, _, h => Reps.nil
  | n + 1, [], _, h => by rw [h.nil_iff]; exact Reps.nil
  | n + 1, d :: ds, _, h => by
    obtain ⟨v, ws, rfl, h1, h2⟩ := h.cons_iff
    exact Reps.cons h1 (Reps.take n h2)
theorem Reps.cut {K : PySem.W.Frag} {H : Hp} {P : Pr} {ds : List D} {vs : List V} (h : Reps K H ds P vs) (lo hi : Option Int) : Reps K H (cutD ds lo hi) P (cutV vs lo hi) := by
  unfold cutD cutV
  rw [h.length]
  exact (h.drop _).take _
def sliceD : D → Option Int → Option Int → R D
  | .str x, lo, hi => if szOk x.length = true then .ok (.str (cutS x lo hi)) else .stk
  | .tup ds, lo, hi => .ok (.tup (cutD ds lo hi))
  | .lst ds, lo, hi => .ok (.lst (cutD ds lo hi))
  | _, _, _ => .stk
abbrev OM := Env → R (Option Int × Env)
def cNoPart : OM := fun ρ => .ok (none, ρ)
def cPart (m : EM) : OM := fun ρ => do
  let (h, ρ1) ← m ρ
  let d ← h.v.nox
  match d with
  | .int i => pure (some i, ρ1)
  | _ => .stk
def cSlice (a : EM) (lo hi : OM) : EM := fun ρ => do
  let (h, ρ1) ← a ρ
  let (l, ρ2) ← lo ρ1
  let (u, ρ3) ← hi ρ2
  let d ← (h.d ρ3).nox
  let z ← (sliceD d l u).nox
  pure (.fr z, ρ3)
def tMo (K : PySem.W.Frag) (P0 : Pr) (O W : List Nat) (E : EK) (m : OM) : TO := fun σ H Q => ∃ ρ, Sim K P0 O W ρ σ H ∧ Res E W σ H (m ρ) fun a => ∀ H', Sim K P0 O W a.2 σ H' → Keep W σ H H' → Q a.1 H'
theorem PO.imp {X : Cx} {e : Option Expr} {t t' : TO} (h : PO X e t) (i : ∀ σ H Q, t' σ H Q → t σ H Q) : PO X e t' := by
  cases h with
  | mk h => exact ⟨fun pins s σ H Q I q => h pins s σ H Q I (i σ H Q q)⟩
section
variable {X : Cx} {P0 : Pr} {O W : List Nat} {E : EK} {a b c e : Expr} {es : List Expr} {ma mb mc : EM} {ms : AM} {pos : Pos}
abbrev CO (X : Cx) (P0 : Pr) (O W : List Nat) (E : EK) (e : Option Expr) (m : OM) : Prop := PO X e (tMo X.K P0 O W E m)
theorem co_none : CO X P0 O W E none cNoPart := PO.imp po_none fun σ H Q ⟨ρ, S, h⟩ => h H S .refl
theorem co_some (h : CEx X P0 O W E e ma) : CO X P0 O W E (some e) (cPart ma) := PO.imp (po_some h) fun σ H Q ⟨ρ, S, h⟩ =>
  ⟨ρ, S, h.of_bind.mono fun ⟨h1, ρ1⟩ q v H1 S1 k1 r1 => by
    obtain ⟨d, e1, q⟩ := q.of_nox
    have r := r1.v e1
    cases d <;> first | (exact q.elim) | skip
    unfold Rep at r
    exact ⟨_, r, q H1 S1 k1⟩⟩
theorem ce_ix (ha : CEx X P0 O W E a ma) (hb : CEx X P0 O W E b mb) (hs : PlainIx b := by intro _ _; rfl) : CEx X P0 O W E (.Subscript a b pos) (cIx ma mb) := PE.imp (pe_ix ix_seq ha hb hs) fun σ H Q ⟨ρ, S, h⟩ => by
  refine ⟨ρ, S, h.of_bind.mono fun ⟨h1, ρ1⟩ q x H1 S1 k1 r1 => ⟨ρ1, S1, (q.keep k1).of_bind.mono fun ⟨h2, ρ2⟩ q2 y H2 S2 k2 r2 => ?_⟩⟩
  obtain ⟨dx, e1, q3⟩ := q2.of_nox
  obtain ⟨dy, e2, q4⟩ := q3.of_nox
  obtain ⟨dz, e3, q5⟩ := q4.of_nox
  have rx := (r1.keep S1 k2).d S2 e1
  have ry := r2.d S2 e2
  have fin : ∀ v, Rep X.K H2 dz (FA P0 O σ) v → Q v H2 := fun v r => q5 v H2 S2 (k1.trans k2) r
  unfold ixD at e3
  split at e3
  · split at e3
    · split at e3
      · rename_i c' hc z; cases e3
        obtain rfl := rx.str
        obtain rfl := ry.int
        exact .inr (.inr ⟨_, _, _, rfl, rfl, of_decide_eq_true z, hc, fin _ (by unfold Rep; rfl)⟩)
      · cases e3
    · cases e3
  · split at e3
    · rename_i d hd; cases e3
      obtain ⟨p, vs, rfl, t1, t2⟩ := rx.tup
      obtain rfl := ry.int
      obtain ⟨v, e4, r4⟩ := t2.atI hd
      exact .inr (.inl ⟨p, vs, _, v, rfl, rfl, SqT.of t1, e4, fin v r4⟩)
    · cases e3
  · split at e3
    · rename_i d hd; cases e3
      obtain ⟨p, vs, rfl, t1, t2⟩ := rx.lst
      obtain rfl := ry.int
      obtain ⟨v, e4, r4⟩ := t2.atI hd
      exact .inl ⟨p, vs, _, v, rfl, rfl, SqL.of t1, e4, fin v r4⟩
    · cases e3
  · split at e3
    · rename_i d hd; cases e3
      obtain ⟨p, rfl, t1⟩ := rx.arg
      obtain rfl := ry.int
      exact .inl ⟨p, _, _, _, rfl, rfl, t1, ints_atI hd, fin _ (by unfold Rep; rfl)⟩
    · cases e3
  · split at e3
    · rename_i d hd; cases e3
      obtain ⟨p, vs, o, rfl, t1, _, t2⟩ := rx.ftu
      obtain rfl := ry.int
      obtain ⟨v, e4, r4⟩ := t2.atI hd
      exact .inr (.inl ⟨p, vs, _, v, rfl, rfl, SqT.fz t1, e4, fin v r4⟩)
    · cases e3
  · cases e3
theorem ce_slice {lo hi : Option Expr} {ml mh : OM} {p2 : Pos} (ha : CEx X P0 O W E a ma) (hl : CO X P0 O W E lo ml) (hh : CO X P0 O W E hi mh) : CEx X P0 O W E (.Subscript a (.Slice lo hi none p2) pos) (cSlice ma ml mh) := PE.imp (pe_slice (sl_list.or (sl_tupA.or sl_str)) ha hl hh) fun σ H Q ⟨ρ, S, h⟩ => by
  refine ⟨ρ, S, h.of_bind.mono fun ⟨h1, ρ1⟩ q x H1 S1 k1 r1 => ⟨ρ1, S1, (q.keep k1).of_bind.mono fun ⟨l, ρ2⟩ q2 H2 S2 k2 => ⟨ρ2, S2, (q2.keep k2).of_bind.mono fun ⟨u, ρ3⟩ q3 H3 S3 k3 => ?_⟩⟩⟩
  obtain ⟨dx, e1, q4⟩ := q3.of_nox
  obtain ⟨dz, e3, q5⟩ := q4.of_nox
  have rx := (r1.keep S1 (k2.trans k3)).d S3 e1
  have out := out_of S3 ((k1.trans k2).trans k3) q5
  unfold sliceD at e3
  split at e3
  · split at e3
    · rename_i z; cases e3
      obtain rfl := rx.str
      exact .inr (.inr ⟨_, rfl, of_decide_eq_true z, out.str⟩)
    · cases e3
  · cases e3
    obtain ⟨p, vs, rfl, t1, t2⟩ := rx.tup
    have t3 := t2.cut l u
    refine .inr (.inl ⟨p, vs, rfl, SqT.of t1, fun z => ?_, fun _ p hp => out.newT S3.dom t3 hp⟩)
    have e4 : cutV vs l u = vs := by
      unfold cutV
      rw [z.1, z.2, List.drop_zero, Nat.sub_zero, List.take_length]
    rw [e4] at t3
    exact out.flat (Rep.tup_of t1 t3) rfl
  · cases e3
    obtain ⟨p, vs, rfl, t1, t2⟩ := rx.lst
    exact .inl ⟨p, vs, rfl, SqL.of t1, fun p hp => out.newL S3.dom (t2.cut l u) hp⟩
  · cases e3
end

/-- behind a statement or an expression: U: own slots that keep their objects -/
structure Tr (O U : List Nat) (σ : St) (H : Hp) (σ' : St) (H' : Hp) : Prop where
  keep : ∀ b o, H b = some o → ¬ OA O σ b → H' b = some o
  some : ∀ b, H b ≠ none → H' b ≠ none
  own : ∀ b, OA O σ' b → OA O σ b ∨ H b = none
  unch : ∀ i ∈ U, σ'[i]? = σ[i]?
theorem Tr.of {O W U : List Nat} {σ : St} {H H' : Hp} (hs : ∀ i ∈ W, i ∈ O) (k : Keep W σ H H') : Tr O U σ H σ H' := ⟨fun b o e n => k.keep b o e fun ⟨i, hi, z⟩ => n ⟨i, hs i hi, z⟩, k.some, fun _ z => .inl z, fun _ _ => rfl⟩
theorem Tr.refl {O U : List Nat} {σ : St} {H : Hp} : Tr O U σ H σ H := ⟨fun _ _ e _ => e, fun _ e => e, fun _ z => .inl z, fun _ _ => rfl⟩
theorem Tr.trans {O U : List Nat} {σ σ1 σ2 : St} {H H1 H2 : Hp} (a : Tr O U σ H σ1 H1) (b : Tr O U σ1 H1 σ2 H2) : Tr O U σ H σ2 H2 where
  keep := fun c o e n => b.keep c o (a.keep c o e n) fun z => by
    rcases a.own c z with z | z
    · exact n z
    · rw [e] at z; cases z
  some := fun c e => b.some c (a.some c e)
  own := fun c z => by
    rcases b.own c z with z | z
    · exact a.own c z
    · exact .inr (Classical.byContradiction fun q => a.some c q z)
  unch := fun i hi => (b.unch i hi).trans (a.unch i hi)
theorem Tr.less {O U U' : List Nat} {σ σ1 : St} {H H1 : Hp} (a : Tr O U σ H σ1 H1) (h : ∀ i ∈ U', i ∈ U) : Tr O U' σ H σ1 H1 := ⟨a.keep, a.some, a.own, fun i hi => a.unch i (h i hi)⟩
section
variable {K : PySem.W.Frag} {P0 : Pr} {O W U : List Nat} {ρ ρ' : Env} {σ σ' : St} {H H' : Hp}
end
end Y

set_option Elab.async false
set_option linter.all false
set_option maxRecDepth 100000
namespace Y
open PySem PySem.Spec PyProof.Rows L2

/-- v is the datum d that the handle tells, and stays so -/
def Hold (K : PySem.W.Frag) (O : List Nat) (h : Hd) (d : D) (v : V) (P0 : Pr) (ρ : Env) (σ : St) (H : Hp) : Prop := match h with
  | .ow i => i ∈ O ∧ ρ[i]? = some (some d) ∧ σ[i]? = some (some v)
  | _ => Rep K H d (FA P0 O σ) v
def Hd.ws : Hd → List Nat
  | .ow i => [i]
  | _ => []
section
variable {K : PySem.W.Frag} {P0 P1 : Pr} {O W : List Nat} {ρ ρ' : Env} {σ σ' : St} {H H' Hs : Hp} {h : Hd} {d : D} {v : V}
theorem Hold.rep (S : Sim K P0 O W ρ σ H) (o : Hold K O h d v P0 ρ σ H) : RepW K H d (FA P0 O σ) v := by
  cases h with
  | fr d' => exact Rep.weak S.dom o
  | vl d' => exact Rep.weak S.dom o
  | ow i =>
    obtain ⟨w, h1, h2⟩ := S.own i d o.2.1 o.1
    rw [o.2.2] at h1; cases h1
    exact h2.weak
theorem HdR.hold (r : HdR K P0 O Hs σ H h v) (e : h.d ρ = .ok d) : Hold K O h d v P0 ρ σ H := by
  cases h with
  | fr d' => cases e; exact r.1
  | vl d' => cases e; exact r
  | ow i => exact ⟨r.1, look_some e, r.2⟩
theorem Hold.keep (S : Sim K P0 O W ρ σ H) (o : Hold K O h d v P0 ρ σ H) (k : ∀ b o, H b = some o → ¬ FA P0 O σ b → H' b = some o) (w : ∀ b, FA P0 O σ' b → FA P0 O σ b ∨ H b = none)
    (hw : ∀ w ∈ h.ws, σ'[w]? = σ[w]? ∧ ρ'[w]? = ρ[w]?) : Hold K O h d v P0 ρ' σ' H' := by
  cases h with
  | fr d' => exact Rep.mono d S.dom k w o
  | vl d' => exact Rep.mono d S.dom k w o
  | ow i =>
    obtain ⟨h1, h2⟩ := hw i (by simp [Hd.ws])
    exact ⟨o.1, h2.trans o.2.1, h1.trans o.2.2⟩
theorem Hold.grow (S : Sim K P0 O W ρ σ H) (o : Hold K O h d v P0 ρ σ H) (w : ∀ b, P1 b → P0 b ∨ H b = none) (k : Same H H') : Hold K O h d v P1 ρ σ H' := by
  have q : ∀ b, FA P1 O σ b → FA P0 O σ b ∨ H b = none := fun b z => by
    rcases z with z | z
    · rcases w b z with z | z
      · exact .inl (.inl z)
      · exact .inr z
    · exact .inl (.inr z)
  cases h with
  | fr d' => exact Rep.mono d S.dom (fun b o e _ => k b o e) q o
  | vl d' => exact Rep.mono d S.dom (fun b o e _ => k b o e) q o
  | ow i => exact o
end
theorem Hold.mem {K : PySem.W.Frag} {P0 : Pr} {O : List Nat} {ρ : Env} {σ : St} {H : Hp} {h : Hd} {d : D} {v : V} (o : Hold K O h d v P0 ρ σ H) : ∀ w ∈ h.ws, w ∈ O := by
  cases h with
  | fr _ => exact fun w z => nomatch z
  | vl _ => exact fun w z => nomatch z
  | ow i =>
    intro w z
    have z : w = i := by simpa [Hd.ws] using z
    rw [z]; exact o.1
/-- an iterator gives ds; ws: own slots that it reads from; Ok: what must stay -/
structure Src (K : PySem.W.Frag) (O W : List Nat) (ds : List D) (ws : List Nat) (J : It) (Ok : Pr → Env → St → Hp → Prop) : Prop where
  go : ∀ P0 i ρ σ H, Sim K P0 O W ρ σ H → Ok P0 ρ σ H → i < ds.length → J.go i H
  stop : ∀ P0 ρ σ H, Sim K P0 O W ρ σ H → Ok P0 ρ σ H → J.stop ds.length H
  yld : ∀ P0 (i : Nat) ρ σ H x H' d, Sim K P0 O W ρ σ H → Ok P0 ρ σ H → ds[i]? = some d → J.yld i H x H' → Same H H' ∧ Rep K H' d (FA P0 O σ) x
  keep : ∀ P0 ρ σ H ρ' σ' H', Sim K P0 O W ρ σ H → (∀ b o, H b = some o → ¬ FA P0 O σ b → H' b = some o) → (∀ b, FA P0 O σ' b → FA P0 O σ b ∨ H b = none) → (∀ w ∈ ws, σ'[w]? = σ[w]? ∧ ρ'[w]? = ρ[w]?) → Ok P0 ρ σ H → Ok P0 ρ' σ' H'
  mem : ∀ P0 ρ σ H, Ok P0 ρ σ H → ∀ w ∈ ws, w ∈ O
  grow : ∀ P0 P1 ρ σ H H', Sim K P0 O W ρ σ H → (∀ b, P1 b → P0 b ∨ H b = none) → Same H H' → Ok P0 ρ σ H → Ok P1 ρ σ H'
abbrev IM := Env → R ((List D × List Nat) × Env)
def tMi (K : PySem.W.Frag) (P0 : Pr) (O W : List Nat) (E : EK) (m : IM) : TI := fun σ H R => ∃ ρ, Sim K P0 O W ρ σ H ∧
  Res E W σ H (m ρ) fun a => ∀ J H' Ok, Sim K P0 O W a.2 σ H' → Keep W σ H H' → Src K O W a.1.1 a.1.2 J Ok → Ok P0 a.2 σ H' → a.1.1.length ≤ sizeLine → R J H'
theorem PI.imp {X : Cx} {tg e : Expr} {t t' : TI} (h : PI X tg e t) (i : ∀ σ H R, t' σ H R → t σ H R) : PI X tg e t' := ⟨fun pins s σ H R I q => h.run pins s σ H R I (i σ H R q)⟩
theorem PI.or {X : Cx} {tg e : Expr} {t t' : TI} (h : PI X tg e t) (h' : PI X tg e t') : PI X tg e fun σ H R => t σ H R ∨ t' σ H R :=
  ⟨fun pins s σ H R I q => q.elim (h.run pins s σ H R I) (h'.run pins s σ H R I)⟩
section
variable {K : PySem.W.Frag} {O W : List Nat} {h h2 : Hd}
/-- over a list that a handle tells -/
theorem src_list {a : Addr} {ds : List D} : Src K O W ds h.ws (Itl K a) (Hold K O h (.lst ds) (.ref a)) where
  go := fun P0 i ρ σ H S ok hi => by
    obtain ⟨p, vs, e, t1, t2⟩ := (ok.rep S).lst
    cases e
    exact walk_list.goes i H (by rw [t2.length]; exact hi) (SqL.of t1)
  stop := fun P0 ρ σ H S ok => by
    obtain ⟨p, vs, e, t1, t2⟩ := (ok.rep S).lst
    cases e
    rw [← t2.length]
    exact walk_list.stops H (SqL.of t1)
  yld := fun P0 i ρ σ H x H' d S ok hd y => by
    obtain ⟨p, vs, e, t1, t2⟩ := (ok.rep S).lst
    cases e
    obtain ⟨v, e1, r⟩ := t2.get hd
    obtain ⟨e2, e3⟩ := walk_list.yields i H x H' (by rw [t2.length]; exact (List.getElem?_eq_some_iff.mp hd).1) (SqL.of t1) y
    subst e2
    rw [e1] at e3; cases e3
    exact ⟨fun _ _ z => z, r⟩
  keep := fun P0 ρ σ H ρ' σ' H' S k w hw ok => ok.keep S k w hw
  mem := fun P0 ρ σ H ok => ok.mem
  grow := fun P0 P1 ρ σ H H' S w k ok => ok.grow S w k
theorem src_tup {a : Addr} {ds : List D} : Src K O W ds h.ws (Itt K a) (Hold K O h (.tup ds) (.ref a)) where
  go := fun P0 i ρ σ H S ok hi => by
    obtain ⟨p, vs, e, t1, t2⟩ := (ok.rep S).tup
    cases e
    exact walk_tup.goes i H (by rw [t2.length]; exact hi) (SqT.of t1)
  stop := fun P0 ρ σ H S ok => by
    obtain ⟨p, vs, e, t1, t2⟩ := (ok.rep S).tup
    cases e
    rw [← t2.length]
    exact walk_tup.stops H (SqT.of t1)
  yld := fun P0 i ρ σ H x H' d S ok hd y => by
    obtain ⟨p, vs, e, t1, t2⟩ := (ok.rep S).tup
    cases e
    obtain ⟨v, e1, r⟩ := t2.get hd
    obtain ⟨e2, e3⟩ := walk_tup.yields i H x H' (by rw [t2.length]; exact (List.getElem?_eq_some_iff.mp hd).1) (SqT.of t1) y
    subst e2
    rw [e1] at e3; cases e3
    exact ⟨fun _ _ z => z, r⟩
  keep := fun P0 ρ σ H ρ' σ' H' S k w hw ok => ok.keep S k w hw
  mem := fun P0 ρ σ H ok => ok.mem
  grow := fun P0 P1 ρ σ H H' S w k ok => ok.grow S w k
theorem src_ftu {a : Addr} {ds : List D} : Src K O W ds h.ws (Itt K a) (Hold K O h (.ftu ds) (.ref a)) where
  go := fun P0 i ρ σ H S ok hi => by
    obtain ⟨p, vs, o, e, t1, _, t2⟩ := (ok.rep S).ftu
    cases e
    exact walk_tup.goes i H (by rw [t2.length]; exact hi) (SqT.fz t1)
  stop := fun P0 ρ σ H S ok => by
    obtain ⟨p, vs, o, e, t1, _, t2⟩ := (ok.rep S).ftu
    cases e
    rw [← t2.length]
    exact walk_tup.stops H (SqT.fz t1)
  yld := fun P0 i ρ σ H x H' d S ok hd y => by
    obtain ⟨p, vs, o, e, t1, _, t2⟩ := (ok.rep S).ftu
    cases e
    obtain ⟨v, e1, r⟩ := t2.get hd
    obtain ⟨e2, e3⟩ := walk_tup.yields i H x H' (by rw [t2.length]; exact (List.getElem?_eq_some_iff.mp hd).1) (SqT.fz t1) y
    subst e2
    rw [e1] at e3; cases e3
    exact ⟨fun _ _ z => z, r⟩
  keep := fun P0 ρ σ H ρ' σ' H' S k w hw ok => ok.keep S k w hw
  mem := fun P0 ρ σ H ok => ok.mem
  grow := fun P0 P1 ρ σ H H' S w k ok => ok.grow S w k
theorem src_arg {a : Addr} {ns : List Int} : Src K O W (ns.map D.int) h.ws (Itl K a) (Hold K O h (.arg ns) (.ref a)) where
  go := fun P0 i ρ σ H S ok hi => by
    obtain ⟨p, e, t1⟩ := (ok.rep S).arg
    cases e
    exact walk_list.goes i H (by simpa using hi) t1
  stop := fun P0 ρ σ H S ok => by
    obtain ⟨p, e, t1⟩ := (ok.rep S).arg
    cases e
    have := walk_list.stops H t1
    simpa using this
  yld := fun P0 i ρ σ H x H' d S ok hd y => by
    obtain ⟨p, e, t1⟩ := (ok.rep S).arg
    cases e
    obtain ⟨e2, e3⟩ := walk_list.yields i H x H' (by have := (List.getElem?_eq_some_iff.mp hd).1; simpa using this) t1 y
    subst e2
    rw [List.getElem?_map] at e3 hd
    cases q : ns[i]? with
    | none => rw [q] at hd; cases hd
    | some n => rw [q] at hd e3; cases hd; cases e3; exact ⟨fun _ _ z => z, by unfold Rep; rfl⟩
  keep := fun P0 ρ σ H ρ' σ' H' S k w hw ok => ok.keep S k w hw
  mem := fun P0 ρ σ H ok => ok.mem
  grow := fun P0 P1 ρ σ H H' S w k ok => ok.grow S w k
theorem src_range {lo : Int} {n : Nat} : Src K O W ((List.range n).map fun i => D.int (lo + (i : Nat))) [] (Itr lo n) (fun _ _ _ _ => True) where
  go := fun P0 i ρ σ H S ok hi => by simpa [Itr] using hi
  stop := fun P0 ρ σ H S ok => by simp [Itr]
  yld := fun P0 i ρ σ H x H' d S ok hd y => by
    obtain ⟨e1, e2⟩ := y
    subst e1
    rw [List.getElem?_map] at hd
    cases q : (List.range n)[i]? with
    | none => rw [q] at hd; cases hd
    | some j =>
      rw [q] at hd; cases hd
      have : j = i := by
        obtain ⟨h1, h2⟩ := List.getElem?_eq_some_iff.mp q
        simpa using h2.symm
      subst this
      exact ⟨fun _ _ z => z, by unfold Rep; exact e2⟩
  keep := fun _ _ _ _ _ _ _ _ _ _ _ _ => trivial
  mem := fun _ _ _ _ _ w z => nomatch z
  grow := fun _ _ _ _ _ _ _ _ _ _ => trivial
theorem src_str {z : Str} : Src K O W (z.cps.toList.map fun c => D.str ⟨#[c]⟩) [] (Its z) (fun _ _ _ _ => True) where
  go := fun P0 i ρ σ H S ok hi => by simpa [Its] using hi
  stop := fun P0 ρ σ H S ok => by simp [Its]
  yld := fun P0 i ρ σ H x H' d S ok hd y => by
    obtain ⟨e1, c, e2, e3⟩ := y
    subst e1
    rw [List.getElem?_map, Array.getElem?_toList, e2] at hd
    cases hd
    exact ⟨fun _ _ z => z, by unfold Rep; exact e3⟩
  keep := fun _ _ _ _ _ _ _ _ _ _ _ _ => trivial
  mem := fun _ _ _ _ _ w z => nomatch z
  grow := fun _ _ _ _ _ _ _ _ _ _ => trivial
theorem Src.anyw {ds : List D} {J : It} {Ok : Pr → Env → St → Hp → Prop} (q : Src K O W ds [] J Ok) : Src K O W ds h.ws J (fun P0 ρ σ H => Ok P0 ρ σ H ∧ ∀ w ∈ h.ws, w ∈ O) where
  go := fun P0 i ρ σ H S ok => q.go P0 i ρ σ H S ok.1
  stop := fun P0 ρ σ H S ok => q.stop P0 ρ σ H S ok.1
  yld := fun P0 i ρ σ H x H' d S ok => q.yld P0 i ρ σ H x H' d S ok.1
  keep := fun P0 ρ σ H ρ' σ' H' S k w _ ok => ⟨q.keep P0 ρ σ H ρ' σ' H' S k w (fun _ z => nomatch z) ok.1, ok.2⟩
  mem := fun P0 ρ σ H ok => ok.2
  grow := fun P0 P1 ρ σ H H' S w k ok => ⟨q.grow P0 P1 ρ σ H H' S w k ok.1, ok.2⟩
end
section
variable {K : PySem.W.Frag} {O W : List Nat} {h h2 : Hd}
end
section
variable {X : Cx} {P0 : Pr} {O W : List Nat} {E : EK} {a b c e tg : Expr} {es : List Expr} {ma mb mc : EM} {ms : AM} {pos : Pos}
abbrev CI (X : Cx) (P0 : Pr) (O W : List Nat) (E : EK) (tg e : Expr) (m : IM) : Prop := PI X tg e (tMi X.K P0 O W E m)
/-- over a list, a tuple, a text, the script -/
def itD : D → R (List D)
  | .lst ds => .ok ds
  | .tup ds => .ok ds
  | .arg ns => .ok (ns.map D.int)
  | .str z => .ok (z.cps.toList.map fun c => D.str ⟨#[c]⟩)
  | .ftu ds => .ok ds
  | _ => .stk
def cIter (m : EM) : IM := fun ρ => do
  let (h, ρ1) ← m ρ
  let d ← (h.d ρ1).nox
  let ds ← (itD d).nox
  if szOk ds.length = true then pure ((ds, h.ws), ρ1) else .stk
theorem ci_any (ha : CEx X P0 O W E a ma) : CI X P0 O W E tg a (cIter ma) := PI.imp (PI.or (pi_list ha) (PI.or (pi_tup ha) (pi_str ha))) fun σ H _ ⟨ρ, S, h⟩ => by
  unfold cIter at h
  cases em : ma ρ with
  | er c ds =>
    rw [em] at h
    exact .inl ⟨ρ, S, by rw [em]; exact h⟩
  | stk => rw [em] at h; exact h.elim
  | ok p =>
    obtain ⟨h1, ρ1⟩ := p
    rw [em] at h
    obtain ⟨d, ed, h⟩ := Res.of_nox (show Res E W σ H ((h1.d ρ1).nox >>= _) _ from h)
    obtain ⟨ds, ei, h⟩ := h.of_nox
    by_cases c : szOk ds.length = true
    · rw [if_pos c] at h
      have hz := of_decide_eq_true c
      cases d <;> simp only [itD, R.ok.injEq, reduceCtorEq] at ei
      · subst ei
        refine .inr (.inr ⟨ρ, S, ?_⟩)
        rw [em]
        intro v H1 S1 k1 r1
        obtain rfl := (r1.d S1 ed).str
        exact ⟨_, rfl, h _ H1 _ S1 k1 src_str.anyw ⟨trivial, (r1.hold ed).mem⟩ hz⟩
      · subst ei
        refine .inr (.inl ⟨ρ, S, ?_⟩)
        rw [em]
        intro v H1 S1 k1 r1
        obtain ⟨p, vs, rfl, t1, t2⟩ := (r1.d S1 ed).tup
        exact ⟨p, rfl, ⟨vs, SqT.of t1⟩, h _ H1 _ S1 k1 src_tup (r1.hold ed) hz⟩
      · subst ei
        refine .inl ⟨ρ, S, ?_⟩
        rw [em]
        intro v H1 S1 k1 r1
        obtain ⟨p, vs, rfl, t1, t2⟩ := (r1.d S1 ed).lst
        exact ⟨p, rfl, ⟨vs, SqL.of t1⟩, h _ H1 _ S1 k1 src_list (r1.hold ed) hz⟩
      · subst ei
        refine .inl ⟨ρ, S, ?_⟩
        rw [em]
        intro v H1 S1 k1 r1
        obtain ⟨p, rfl, t1⟩ := (r1.d S1 ed).arg
        exact ⟨p, rfl, ⟨_, t1⟩, h _ H1 _ S1 k1 src_arg (r1.hold ed) hz⟩
      · subst ei
        refine .inr (.inl ⟨ρ, S, ?_⟩)
        rw [em]
        intro v H1 S1 k1 r1
        obtain ⟨p, vs, o, rfl, t1, _, t2⟩ := (r1.d S1 ed).ftu
        exact ⟨p, rfl, ⟨vs, SqT.fz t1⟩, h _ H1 _ S1 k1 src_ftu (r1.hold ed) hz⟩
    · rw [if_neg c] at h
      exact h.elim
def rngOk (i : Int) : Bool := decide (-(2 ^ 62) ≤ i ∧ i < 2 ^ 62)
def rng1D : List D → R (List D)
  | [.int j] => if rngOk j = true then .ok ((List.range j.toNat).map fun i => D.int (0 + (i : Nat))) else .stk
  | _ => .stk
def cRange (f : List D → R (List D)) (m : AM) : IM := fun ρ => do
  let (hs, ρ1) ← m ρ
  let ds ← (vsOf hs).nox
  let xs ← (f ds).nox
  if szOk xs.length = true then pure ((xs, []), ρ1) else .stk
theorem ci_range1 {p : Pos} (hm : X.mg "range" = none) (ha : CA X P0 O W E [a] ms) (hg : Gl X "range" := by rfl) (hs : starEach [a] X.env = [(false, eval a X.env)] := by rfl) : CI X P0 O W E tg (.Call (.Name "range" p) [a] [] pos) (cRange rng1D ms) := PI.imp (pi_range1 hg hm ha hs) fun σ H R ⟨ρ, S, h⟩ => by
  refine ⟨ρ, S, h.of_bind.mono fun ⟨hs, ρ1⟩ q vs H1 S1 k1 r1 => ?_⟩
  obtain ⟨ds, e1, q⟩ := q.of_nox
  obtain ⟨xs, e2, q⟩ := q.of_nox
  have rr := HdRs.vs r1 e1
  by_cases c : szOk xs.length = true
  · rw [if_pos c] at q
    unfold rng1D at e2
    split at e2
    · split at e2
      · rename_i j z; cases e2
        obtain ⟨v, ws, rfl, h1, h2⟩ := rr.cons_iff
        have h2 := h2.nil_iff
        subst h2
        unfold Rep at h1
        subst h1
        unfold rngOk at z
        have z := of_decide_eq_true z
        exact ⟨_, rfl, z.1, z.2, q _ H1 _ S1 k1 src_range trivial (of_decide_eq_true c)⟩
      · cases e2
    · cases e2
  · rw [if_neg c] at q
    exact q.elim
end
end Y

set_option Elab.async false
set_option linter.all false
set_option maxRecDepth 100000
namespace Y
open PySem PySem.Spec PyProof.Rows L2

theorem OA_of {O : List Nat} {σ σ' : St} (h : ∀ i ∈ O, σ'[i]? = σ[i]?) (b : Addr) : OA O σ' b ↔ OA O σ b := by
  constructor
  · rintro ⟨i, hi, e⟩; exact ⟨i, hi, (h i hi).symm.trans e⟩
  · rintro ⟨i, hi, e⟩; exact ⟨i, hi, (h i hi).trans e⟩
section
variable {K : PySem.W.Frag} {P0 P1 : Pr} {O W : List Nat} {ρ ρ' : Env} {σ σ' : St} {H H' : Hp} {d : D} {v : V}
theorem FA_of (h : ∀ i ∈ O, σ'[i]? = σ[i]?) (b : Addr) : FA P0 O σ' b ↔ FA P0 O σ b := or_congr Iff.rfl (OA_of h b)
/-- other slots, less known -/
theorem Sim.move (S : Sim K P0 O W ρ σ H) (hl : ρ'.length ≤ σ'.length) (ho : ∀ i ∈ O, σ'[i]? = σ[i]?) (hρ : ∀ i ∈ O, ∀ d, ρ'[i]? = some (some d) → ρ[i]? = some (some d))
    (hv : ∀ (i : Nat) d, ρ'[i]? = some (some d) → i ∉ O → ∃ v, σ'[i]? = some (some v) ∧ Rep K H d (FA P0 O σ) v) : Sim K P0 O W ρ' σ' H where
  sub := S.sub
  len := hl
  dom := fun b z => S.dom b ((FA_of ho b).mp z)
  val := fun i d e n => by
    obtain ⟨v, h1, h2⟩ := hv i d e n
    exact ⟨v, h1, h2.less S.dom fun b z => (FA_of ho b).mp z⟩
  own := fun i d e n => by
    obtain ⟨v, h1, h2⟩ := S.own i d (hρ i n d e) n
    refine ⟨v, (ho i n).trans h1, ?_⟩
    have fa : ∀ b, FA P0 O σ' b → FA P0 O σ b := fun b z => (FA_of ho b).mp z
    cases d with
    | lst ds => obtain ⟨a, vs, rfl, ht, hr⟩ := h2; exact ⟨a, vs, rfl, ht, hr.less S.dom fa⟩
    | dik ks ds => obtain ⟨a, vs, rfl, hl, ht, hr⟩ := h2; exact ⟨a, vs, rfl, hl, ht, hr.less S.dom fa⟩
    | dit ks ds => obtain ⟨a, vs, rfl, hl, ht, hr⟩ := h2; exact ⟨a, vs, rfl, hl, ht, hr.less S.dom fa⟩
    | non => exact h2
    | bl _ => exact h2
    | int _ => exact h2
    | str _ => exact h2
    | tup _ => exact h2
    | arg _ => exact h2
    | ftu _ => exact h2
    | tab p q => exact h2
  sep := fun i j a hi hj e1 e2 => S.sep i j a hi hj ((ho i hi).symm.trans e1) ((ho j hj).symm.trans e2)
  sep0 := fun a z => S.sep0 a ((OA_of ho a).mp z)
theorem Sim.set (S : Sim K P0 O W ρ σ H) {i : Nat} (hi : i ∉ O) (r : Rep K H d (FA P0 O σ) v) : Sim K P0 O W (ρ.set i (some d)) (σ.set i (some v)) H := by
  refine S.move (by simpa using S.len) (fun j hj => ?_) (fun j hj d' e => ?_) fun j d' e n => ?_
  · exact List.getElem?_set_ne (fun (e : i = j) => hi (by rw [e]; exact hj))
  · rwa [List.getElem?_set_ne (fun (e : i = j) => hi (by rw [e]; exact hj))] at e
  · by_cases hj : i = j
    · subst hj
      have h1 : i < ρ.length := by
        have := (List.getElem?_eq_some_iff.mp e).1
        simpa using this
      rw [List.getElem?_set_self h1] at e
      cases e
      exact ⟨v, List.getElem?_set_self (Nat.lt_of_lt_of_le h1 S.len), r⟩
    · rw [List.getElem?_set_ne hj] at e ⊢
      exact S.val j d' e n
/-- forgetting -/
def wipeE (ρ : Env) : List Nat → Env
  | [] => ρ
  | i :: is => (wipeE ρ is).set i none
theorem wipeE_length (ρ : Env) : ∀ is, (wipeE ρ is).length = ρ.length
  | [] => rfl
  | i :: is => by unfold wipeE; rw [List.length_set, wipeE_length ρ is]
theorem wipeE_some : ∀ {is : List Nat} {j : Nat} {d : D}, (wipeE ρ is)[j]? = some (some d) → ρ[j]? = some (some d) ∧ j ∉ is
  | [], j, d, e => ⟨e, by simp⟩
  | i :: is, j, d, e => by
    unfold wipeE at e
    by_cases hj : i = j
    · subst hj
      by_cases hl : i < (wipeE ρ is).length
      · rw [List.getElem?_set_self hl] at e; cases e
      · rw [List.getElem?_eq_none (by simpa using hl)] at e; cases e
    · rw [List.getElem?_set_ne hj] at e
      obtain ⟨h1, h2⟩ := wipeE_some e
      exact ⟨h1, by simp only [List.mem_cons, not_or]; exact ⟨fun z => hj z.symm, h2⟩⟩
theorem Sim.wipe (S : Sim K P0 O W ρ σ H) (is : List Nat) : Sim K P0 O W (wipeE ρ is) σ H :=
  S.move (by rw [wipeE_length]; exact S.len) (fun _ _ => rfl) (fun i _ d e => (wipeE_some e).1) fun i d e n => S.val i d (wipeE_some e).1 n
theorem wipe_ne {is : List Nat} {j : Nat} (h : j ∉ is) : (L2.wipe σ is)[j]? = σ[j]? := wipe_out h
/-- a comprehension's own names -/
theorem Sim.wipe2 (S : Sim K P0 O W ρ σ H) {is : List Nat} (h : ∀ i ∈ is, i ∉ O) : Sim K P0 O W (wipeE ρ is) (L2.wipe σ is) H := by
  refine S.move (by rw [wipeE_length, L2.wipe_length]; exact S.len) (fun i hi => wipe_ne fun z => h i z hi) (fun i _ d e => (wipeE_some e).1) fun i d e n => ?_
  obtain ⟨e1, e2⟩ := wipeE_some e
  rw [wipe_ne e2]
  exact S.val i d e1 n
/-- back from the block: the wiped slots are not told -/
theorem Sim.out {is : List Nat} (S : Sim K P0 O W ρ (L2.wipe σ is) H) (h : ∀ i ∈ is, i ∉ O) (hρ : ∀ i ∈ is, ∀ d, ρ[i]? ≠ some (some d)) : Sim K P0 O W ρ σ H := by
  refine S.move (by have := S.len; rwa [L2.wipe_length] at this) (fun i hi => (wipe_ne fun z => h i z hi).symm) (fun i _ d e => e) fun i d e n => ?_
  obtain ⟨v, h1, h2⟩ := S.val i d e n
  rw [wipe_ne fun z => hρ i z d e] at h1
  exact ⟨v, h1, h2⟩
/-- one more object is forbidden -/
theorem Sim.more (S : Sim K P0 O W ρ σ H) {q : Addr} {vs : List V} (hq : H q = none) : Sim K (fun b => P0 b ∨ b = q) O W ρ σ (upd H q (.lst vs)) := by
  have S' := S.same (Same.new (o := .lst vs) hq)
  have fa : ∀ b, FA (fun b => P0 b ∨ b = q) O σ b → FA P0 O σ b ∨ H b = none := fun b z => by
    rcases z with (z | z) | z
    · exact .inl (.inl z)
    · rw [z]; exact .inr hq
    · exact .inl (.inr z)
  refine ⟨S.sub, S.len, fun b z => ?_, fun i d e n => ?_, fun i d e n => ?_, S.sep, fun a z => ?_⟩
  · rcases z with (z | z) | z
    · exact S'.dom b (.inl z)
    · rw [z, upd_same]; trivial
    · exact S'.dom b (.inr z)
  · obtain ⟨v, h1, h2⟩ := S.val i d e n
    exact ⟨v, h1, h2.mono d S.dom (fun b o e _ => Same.new hq b o e) fa⟩
  · obtain ⟨v, h1, h2⟩ := S.own i d e n
    refine ⟨v, h1, ?_⟩
    cases d with
    | lst ds => obtain ⟨a, vs, rfl, ht, hr⟩ := h2; exact ⟨a, vs, rfl, Same.new hq _ _ ht, hr.mono ds S.dom (fun b o e _ => Same.new hq b o e) fa⟩
    | dik ks ds => obtain ⟨a, vs, rfl, hl, ht, hr⟩ := h2; exact ⟨a, vs, rfl, hl, Same.new hq _ _ ht, hr.mono ds S.dom (fun b o e _ => Same.new hq b o e) fa⟩
    | dit ks ds => obtain ⟨a, vs, rfl, hl, ht, hr⟩ := h2; exact ⟨a, vs, rfl, hl, Same.new hq _ _ ht, hr.mono ds S.dom (fun b o e _ => Same.new hq b o e) fa⟩
    | non => exact h2
    | bl _ => exact h2
    | int _ => exact h2
    | str _ => exact h2
    | tup _ => exact h2
    | arg _ => exact h2
    | ftu _ => exact h2
    | tab p q => obtain ⟨a, rfl, ht⟩ := h2; exact ⟨a, rfl, ht.ext (Same.new hq)⟩
  · rintro (y | y)
    · exact S.sep0 a z y
    · subst y
      exact (S.dom a (.inr z)).some hq
theorem Sim.lessP (S : Sim K P1 O W ρ σ H) (h : ∀ b, P0 b → P1 b) : Sim K P0 O W ρ σ H := by
  have fa : ∀ b, FA P0 O σ b → FA P1 O σ b := fun b z => z.imp (h b) id
  refine ⟨S.sub, S.len, fun b z => S.dom b (fa b z), fun i d e n => ?_, fun i d e n => ?_, S.sep, fun a z y => S.sep0 a z (h a y)⟩
  · obtain ⟨v, h1, h2⟩ := S.val i d e n
    exact ⟨v, h1, h2.less S.dom fa⟩
  · obtain ⟨v, h1, h2⟩ := S.own i d e n
    refine ⟨v, h1, ?_⟩
    cases d with
    | lst ds => obtain ⟨a, vs, rfl, ht, hr⟩ := h2; exact ⟨a, vs, rfl, ht, hr.less S.dom fa⟩
    | dik ks ds => obtain ⟨a, vs, rfl, hl, ht, hr⟩ := h2; exact ⟨a, vs, rfl, hl, ht, hr.less S.dom fa⟩
    | dit ks ds => obtain ⟨a, vs, rfl, hl, ht, hr⟩ := h2; exact ⟨a, vs, rfl, hl, ht, hr.less S.dom fa⟩
    | non => exact h2
    | bl _ => exact h2
    | int _ => exact h2
    | str _ => exact h2
    | tup _ => exact h2
    | arg _ => exact h2
    | ftu _ => exact h2
    | tab p q => exact h2
/-- a forbidden object is written -/
theorem Sim.wr (S : Sim K P0 O W ρ σ H) {q : Addr} {o : HO} (hq : P0 q) (ho : isMut (some o)) : Sim K P0 O W ρ σ (upd H q o) := by
  have k : ∀ b u, H b = some u → ¬ FA P0 O σ b → upd H q o b = some u := fun b u e n => by rw [upd_ne fun (z : b = q) => n (.inl (by rw [z]; exact hq))]; exact e
  have ne : ∀ {i a}, i ∈ O → σ[i]? = some (some (V.ref a)) → a ≠ q := fun {i a} hi e z => S.sep0 a ⟨i, hi, e⟩ (by rw [z]; exact hq)
  refine ⟨S.sub, S.len, fun b z => ?_, fun i d e n => ?_, fun i d e n => ?_, S.sep, S.sep0⟩
  · by_cases hb : b = q
    · rw [hb, upd_same]; exact ho
    · rw [upd_ne hb]; exact S.dom b z
  · obtain ⟨v, h1, h2⟩ := S.val i d e n
    exact ⟨v, h1, h2.of_same S.dom k⟩
  · obtain ⟨v, h1, h2⟩ := S.own i d e n
    refine ⟨v, h1, ?_⟩
    cases d with
    | lst ds => obtain ⟨a, vs, rfl, ht, hr⟩ := h2; exact ⟨a, vs, rfl, by rw [upd_ne (ne n h1)]; exact ht, hr.mono ds S.dom k fun _ z => .inl z⟩
    | dik ks ds => obtain ⟨a, vs, rfl, hl, ht, hr⟩ := h2; exact ⟨a, vs, rfl, hl, by rw [upd_ne (ne n h1)]; exact ht, hr.mono ds S.dom k fun _ z => .inl z⟩
    | dit ks ds => obtain ⟨a, vs, rfl, hl, ht, hr⟩ := h2; exact ⟨a, vs, rfl, hl, by rw [upd_ne (ne n h1)]; exact ht, hr.mono ds S.dom k fun _ z => .inl z⟩
    | non => exact h2
    | bl _ => exact h2
    | int _ => exact h2
    | str _ => exact h2
    | tup _ => exact h2
    | arg _ => exact h2
    | ftu _ => exact h2
    | tab p q => obtain ⟨a, rfl, ht⟩ := h2; exact ⟨a, rfl, TabS.mono S.dom k (fun o e => by rw [upd_ne (ne n h1)]; exact e) ht⟩
end

def setAll (ρ : Env) : List Nat → List D → Env
  | i :: is, d :: ds => setAll (ρ.set i (some d)) is ds
  | _, _ => ρ
abbrev GM := D → Env → R Env
def tmName (i : Nat) : GM := fun d ρ => .ok (ρ.set i (some d))
def tmTup (is : List Nat) : GM := fun d ρ => match d with
  | .tup ds => if ds.length = is.length then .ok (setAll ρ is ds) else .stk
  | _ => .stk
def tG (K : PySem.W.Frag) (P0 : Pr) (O W : List Nat) (tm : GM) (is : List Nat) : TG := fun v σ H Q => ∃ ρ d ρ', Sim K P0 O W ρ σ H ∧ Rep K H d (FA P0 O σ) v ∧ tm d ρ = .ok ρ' ∧
  ∀ σ', Sim K P0 O W ρ' σ' H → σ'.length = σ.length → (∀ j, j ∉ is → σ'[j]? = σ[j]?) → Q σ' H
theorem PG.imp {X : Cx} {e : Expr} {t t' : TG} (h : PG X e t) (i : ∀ v σ H Q, t' v σ H Q → t v σ H Q) : PG X e t' := by
  cases h with
  | mk h => exact ⟨fun pins s σ H v u Q I r q => h pins s σ H v u Q I r (i v σ H Q q)⟩
section
variable {X : Cx} {P0 : Pr} {O W : List Nat} {pos : Pos}
abbrev CG (X : Cx) (P0 : Pr) (O W : List Nat) (tg : Expr) (tm : GM) (is : List Nat) : Prop := PG X tg (tG X.K P0 O W tm is)
theorem cg_name (i : Nat) {x : Str} (hN : X.N.Nodup) (ho : i ∉ O := by decide) (hi : X.N[i]? = some x := by rfl) (hx : Loc X.env.scope x := by first | exact Or.inl rfl | exact Or.inr rfl) (hf : X.fn x = true ∨ X.env.scope.names.lookup x = some .local := by first | exact .inl rfl | exact .inr rfl) : CG X P0 O W (.Name x pos) (tmName i) [i] :=
  PG.imp (pg_name hN hi hx hf) fun v σ H Q ⟨ρ, d, ρ', S, r, e, q⟩ => by
    cases e
    exact q _ (S.set ho r) (by simp) fun j hj => List.getElem?_set_ne fun z => hj (by simp [z])
def gNames : List Nat → TGs
  | [] => gNil
  | i :: is => gCons (gName i) (gNames is)
theorem names_ok {K : PySem.W.Frag} {H : Hp} {Q : St → Hp → Prop} : ∀ {is : List Nat} {ds : List D} {vs : List V} {ρ : Env} {σ : St}, (∀ i ∈ is, i ∉ O) → ds.length = is.length → Sim K P0 O W ρ σ H → Reps K H ds (FA P0 O σ) vs →
    (∀ σ', Sim K P0 O W (setAll ρ is ds) σ' H → σ'.length = σ.length → (∀ j, j ∉ is → σ'[j]? = σ[j]?) → Q σ' H) → gNames is vs σ H Q
  | [], [], vs, ρ, σ, _, _, S, r, q => ⟨r.nil_iff, q σ S rfl fun _ _ => rfl⟩
  | [], _ :: _, _, _, _, _, hl, _, _, _ => by simp at hl
  | _ :: _, [], _, _, _, _, hl, _, _, _ => by simp at hl
  | i :: is, d :: ds, vs, ρ, σ, ho, hl, S, r, q => by
    obtain ⟨v, ws, rfl, r1, r2⟩ := r.cons_iff
    have hi : i ∉ O := ho i (by simp)
    have S1 := S.set hi r1
    have fa : ∀ j ∈ O, (σ.set i (some v))[j]? = σ[j]? := fun j hj => List.getElem?_set_ne fun (z : i = j) => hi (by rw [z]; exact hj)
    refine ⟨v, ws, rfl, names_ok (fun j hj => ho j (by simp [hj])) (by simpa using hl) S1 (r2.less S.dom fun b z => (FA_of fa b).mp z) fun σ' S' h1 h2 => ?_⟩
    exact q σ' S' (by rw [h1]; simp) fun j hj => by
      rw [h2 j fun z => hj (by simp [z])]
      exact List.getElem?_set_ne fun z => hj (by simp [z])
theorem cg_tup {es : List Expr} {k : Nat} (is : List Nat) (hc : X.calm = true) (h : PGs X es (gNames is)) (ho : ∀ i ∈ is, i ∉ O := by decide) (hst : (assignEach es X.env).findIdx? (·.1) = none := by rfl) (hn : (assignEach es X.env).length = is.length := by rfl) : CG X P0 O W (.Tuple es k pos) (tmTup is) is :=
  PG.imp (pg_tup hc h hn hst) fun v σ H Q ⟨ρ, d, ρ', S, r, e, q⟩ => by
    unfold tmTup at e
    split at e
    · split at e
      · rename_i hl; cases e
        unfold Rep at r
        obtain ⟨a, vs, rfl, h1, h2⟩ := r
        exact ⟨a, vs, rfl, SqT.of h1, by rw [h2.length, hl], names_ok ho hl S h2 q⟩
      · cases e
    · cases e
theorem cgs_nil : PGs X [] (gNames []) := pgs_nil
theorem cgs_cons {es : List Expr} {is : List Nat} (i : Nat) {x : Str} {p : Pos} (hN : X.N.Nodup) (h2 : PGs X es (gNames is)) (hi : X.N[i]? = some x := by rfl) (hx : Loc X.env.scope x := by first | exact Or.inl rfl | exact Or.inr rfl) (hf : X.fn x = true ∨ X.env.scope.names.lookup x = some .local := by first | exact .inl rfl | exact .inr rfl) :
    PGs X (.Name x p :: es) (gNames (i :: is)) := pgs_cons (pg_name hN hi hx hf) h2
end

open Classical in
/-- the slots that are read from stay -/
noncomputable def chk (ws : List Nat) (ρ ρ' : Env) : R Unit := if ∀ w ∈ ws, ρ'[w]? = ρ[w]? then .ok () else .stk
@[simp] theorem chk_nil {ρ ρ' : Env} : chk [] ρ ρ' = .ok () := by unfold chk; rw [if_pos]; intro w hw; cases hw
theorem chk_ok {ws : List Nat} {ρ ρ' : Env} (h : chk ws ρ ρ' = .ok ()) : ∀ w ∈ ws, ρ'[w]? = ρ[w]? := by
  unfold chk at h
  split at h
  · assumption
  · cases h
noncomputable def cCompL (tm : GM) (t : BM) (e : EM) (vs ws : List Nat) : List D → Env → R (List D × Env)
  | [], ρ => .ok ([], ρ)
  | x :: xs, ρ => do
    let ρ1 ← tm x ρ
    let (k, ρ2) ← t ρ1
    if k = true then do
      let (h, ρ3) ← e ρ2
      let d ← h.v
      let _ ← chk ws ρ (wipeE ρ3 vs)
      let (ys, ρ5) ← cCompL tm t e vs ws xs (wipeE ρ3 vs)
      pure (d :: ys, ρ5)
    else do
      let _ ← chk ws ρ (wipeE ρ2 vs)
      cCompL tm t e vs ws xs (wipeE ρ2 vs)
noncomputable def cComp (im : IM) (tm : GM) (t : BM) (e : EM) (vs : List Nat) : EM := fun ρ => do
  let ((ds, ws), ρ1) ← im ρ
  let (ys, ρ2) ← (cCompL tm t e vs ws ds (wipeE ρ1 vs)).nox
  pure (.fr (.lst ys), ρ2)
def cYes : BM := fun ρ => .ok (true, ρ)
abbrev E00 : EK := fun _ _ _ => False
/-- one turn -/
inductive CStep (tm : GM) (t : BM) (e : EM) (vs ws : List Nat) (x : D) (xs : List D) (ρ : Env) (ys : List D) (ρf : Env) : Prop where
  | yes (ρ1 ρ2 ρ3 : Env) (h : Hd) (d : D) (ys' : List D) (e1 : tm x ρ = .ok ρ1) (e2 : t ρ1 = .ok (true, ρ2)) (e3 : e ρ2 = .ok (h, ρ3)) (e4 : h.v = .ok d) (e5 : chk ws ρ (wipeE ρ3 vs) = .ok ()) (e6 : cCompL tm t e vs ws xs (wipeE ρ3 vs) = .ok (ys', ρf)) (e7 : ys = d :: ys')
  | no (ρ1 ρ2 : Env) (e1 : tm x ρ = .ok ρ1) (e2 : t ρ1 = .ok (false, ρ2)) (e5 : chk ws ρ (wipeE ρ2 vs) = .ok ()) (e6 : cCompL tm t e vs ws xs (wipeE ρ2 vs) = .ok (ys, ρf))
theorem cComp_step {tm : GM} {t : BM} {e : EM} {vs ws : List Nat} {x : D} {xs : List D} {ρ : Env} {ys : List D} {ρf : Env} (h : cCompL tm t e vs ws (x :: xs) ρ = .ok (ys, ρf)) : CStep tm t e vs ws x xs ρ ys ρf := by
  unfold cCompL at h
  obtain ⟨ρ1, e1, h⟩ := R.ok_of h
  obtain ⟨⟨k, ρ2⟩, e2, h⟩ := R.ok_of h
  cases k with
  | true =>
    have h : (e ρ2 >>= _) = R.ok (ys, ρf) := h
    obtain ⟨⟨hd, ρ3⟩, e3, h⟩ := R.ok_of h
    obtain ⟨d, e4, h⟩ := R.ok_of h
    obtain ⟨_, e5, h⟩ := R.ok_of h
    obtain ⟨⟨ys', ρ5⟩, e6, h⟩ := R.ok_of h
    cases h
    exact .yes ρ1 ρ2 ρ3 hd d ys' e1 e2 e3 e4 e5 e6 rfl
  | false =>
    have h : (chk ws ρ (wipeE ρ2 vs) >>= _) = R.ok (ys, ρf) := h
    obtain ⟨_, e5, h⟩ := R.ok_of h
    exact .no ρ1 ρ2 e1 e2 e5 h
end Y

set_option Elab.async false
set_option linter.all false
set_option maxRecDepth 100000
namespace Y
open PySem PySem.Spec PyProof.Rows L2

theorem wipe_same {σ σ' : St} {vs : List Nat} (hl : σ'.length = σ.length) (h : ∀ j, j ∉ vs → σ'[j]? = σ[j]?) : L2.wipe σ' vs = L2.wipe σ vs := by
  apply List.ext_getElem?
  intro j
  by_cases hj : j ∈ vs
  · have q : ∀ (τ : St), (L2.wipe τ vs)[j]? = if j < τ.length then some none else none := fun τ => by
      have hlen := L2.wipe_length τ vs
      cases e : (L2.wipe τ vs)[j]? with
      | none =>
        rw [List.getElem?_eq_none_iff] at e
        rw [if_neg (by omega)]
      | some o =>
        have := (List.getElem?_eq_some_iff.mp e).1
        rw [if_pos (by omega)]
        cases o with
        | none => rfl
        | some v => exact absurd hj (wipe_some e).2
    rw [q, q, hl]
  · rw [wipe_ne hj, wipe_ne hj, h j hj]
theorem wipe_idem {σ : St} {vs : List Nat} : L2.wipe (L2.wipe σ vs) vs = L2.wipe σ vs := wipe_same (L2.wipe_length σ vs) fun j hj => wipe_ne hj
theorem wipeE_none {ρ : Env} {vs : List Nat} : ∀ i ∈ vs, ∀ d, (wipeE ρ vs)[i]? ≠ some (some d) := fun i hi d e => (wipeE_some e).2 hi
section
variable {X : Cx} {P0 : Pr} {O W : List Nat} {E : EK} {a b c e tg : Expr} {es : List Expr} {ma mb mc : EM} {ms : AM} {pos : Pos}
theorem PE.ex {e : Expr} {m : EM} (h : ∀ P0, CEx X P0 O W E e m) : PE X e (fun σ H Q => ∃ P0, tM X.K P0 O W E m σ H Q) := ⟨fun pins s σ H Q I ⟨P0, q⟩ => (h P0).run pins s σ H Q I q⟩
theorem PT.ex {e : Expr} {m : BM} (h : ∀ P0, CT X P0 O W E e m) : PT X e (fun σ H Q => ∃ P0, tMt X.K P0 O W E m σ H Q) := ⟨fun pins s σ H Q I ⟨P0, q⟩ => (h P0).run pins s σ H Q I q⟩
theorem PG.ex {e : Expr} {m : GM} {is : List Nat} (h : ∀ P0, CG X P0 O W e m is) : PG X e (fun v σ H Q => ∃ P0, tG X.K P0 O W m is v σ H Q) := by
  refine ⟨fun pins s σ H v u Q I r ⟨P0, q⟩ => ?_⟩
  cases h P0 with
  | mk h => exact h pins s σ H v u Q I r q
/-- the tests of a comprehension -/
abbrev CTs (X : Cx) (O W : List Nat) (E : EK) (ifs : List Expr) (m : BM) : Prop := PTs X ifs (fun σ H Q => ∃ P0, tMt X.K P0 O W E m σ H Q)
theorem cts_nil : CTs X O W E [] cYes := by
  cases (pts_nil (X := X)) with
  | mk h => exact ⟨fun pins s σ H Q I ⟨P0, ρ, S, q⟩ => h pins s σ H Q I (q H S .refl)⟩
theorem cts_one {m : BM} (h : ∀ P0, CT X P0 O W E c m) : CTs X O W E [c] m := pts_one (PT.ex h)
theorem comp_core {K : PySem.W.Frag} {im : IM} {tm : GM} {t : BM} {me : EM} {is vs : List Nat} (hv : ∀ i ∈ is, i ∈ vs) (ho : ∀ i ∈ vs, i ∉ O) (σ : St) (H : Hp) (Q : VK) (h : tM K P0 O W E (cComp im tm t me vs) σ H Q) :
    tLc (tMi K P0 O W E im) (fun v σ H Q => ∃ P0, tG K P0 O W tm is v σ H Q) (fun σ H Q => ∃ P0, tMt K P0 O W E00 t σ H Q) (fun σ H Q => ∃ P0, tM K P0 O W E00 me σ H Q) vs σ H Q := by
  obtain ⟨ρ, S, h⟩ := h
  refine ⟨ρ, S, h.of_bind.mono fun ⟨⟨ds, ws⟩, ρ1⟩ q J H1 Ok S1 k1 src ok hz Dn hD => ?_⟩
  obtain ⟨⟨ys, ρf⟩, er, q⟩ := q.of_nox
  have src : Src K O W ds ws J Ok := src
  have hz : ds.length ≤ sizeLine := hz
  generalize hP : (fun b => P0 b ∨ b = Dn : Pr) = P1
  have pD : P1 Dn := by subst hP; exact .inr rfl
  have pI : ∀ b, P0 b → P1 b := by subst hP; exact fun b z => .inl z
  have pO : ∀ b, P1 b → P0 b ∨ b = Dn := by subst hP; exact fun b z => z
  have S2 : Sim K P1 O W ρ1 σ (upd H1 Dn (.lst [])) := by subst hP; exact S1.more hD
  have ok2 : Ok P1 ρ1 σ (upd H1 Dn (.lst [])) := src.grow P0 _ ρ1 σ H1 _ S1 (fun b z => (pO b z).elim .inl fun z => .inr (by rw [z]; exact hD)) (Same.new hD) ok
  have wO : ∀ w ∈ ws, w ∉ vs := fun w hw z => ho w z (src.mem _ _ _ _ ok w hw)
  have sO : ∀ i ∈ O, (L2.wipe σ vs)[i]? = σ[i]? := fun i hi => wipe_ne fun y => ho i y hi
  have S3 : Sim K P1 O W (wipeE ρ1 vs) (L2.wipe σ vs) (upd H1 Dn (.lst [])) := S2.wipe2 ho
  have nD : ¬ OA O (L2.wipe σ vs) Dn := fun z => (S1.dom Dn (.inr ((OA_of sO Dn).mp z))).some hD
  have ok3 : Ok P1 (wipeE ρ1 vs) (L2.wipe σ vs) (upd H1 Dn (.lst [])) := src.keep P1 ρ1 σ _ _ _ _ S2 (fun _ _ e _ => e) (fun b z => .inl ((FA_of sO b).mp z)) (fun w hw => ⟨wipe_ne (wO w hw), by
    cases e : (wipeE ρ1 vs)[w]? with
    | none =>
      have : ρ1.length ≤ w := by rw [← wipeE_length ρ1 vs]; exact List.getElem?_eq_none_iff.mp e
      rw [List.getElem?_eq_none this]
    | some o =>
      have q2 : ∀ (is : List Nat), w ∉ is → (wipeE ρ1 is)[w]? = ρ1[w]? := fun is => by
        induction is with
        | nil => intro _; rfl
        | cons i is ih =>
          intro hn
          simp only [List.mem_cons, not_or] at hn
          unfold wipeE
          rw [List.getElem?_set_ne fun z => hn.1 z.symm]
          exact ih hn.2
      rw [← e, q2 vs (wO w hw)]⟩) ok2
  -- the invariant
  let I : Nat → Hp → Prop := fun i Hx => i ≤ ds.length ∧ ∃ (ρx : Env) (acc : List V) (yd rest : List D), Sim K P1 O W ρx (L2.wipe σ vs) Hx ∧ Ok P1 ρx (L2.wipe σ vs) Hx ∧ Hx Dn = some (.lst acc) ∧ Reps K Hx yd (FA P1 O (L2.wipe σ vs)) acc ∧ acc.length ≤ i ∧
    cCompL tm t me vs ws (ds.drop i) ρx = .ok (rest, ρf) ∧ ys = yd ++ rest ∧ (∀ b o, H1 b = some o → ¬ OA W σ b → Hx b = some o) ∧ (∀ b, H1 b ≠ none → Hx b ≠ none) ∧ (∀ j ∈ vs, ∀ d, ρx[j]? ≠ some (some d))
  refine ⟨fun i m Hx => m = ds.length - i ∧ I i Hx, ⟨ds.length, by simp, Nat.zero_le _, wipeE ρ1 vs, [], [], ys, S3, ok3, upd_same, Reps.nil, Nat.le_refl _, er, rfl, fun b o e _ => Same.new hD b o e, fun b e => Same.some (Same.new hD) b e, wipeE_none⟩, ?_⟩
  rintro i m Hx ⟨rfl, hi, ρx, acc, yd, rest, Sx, okx, hDx, hR, hacc, hC, hys, kx, sx, nx⟩
  by_cases hlt : i < ds.length
  · right
    refine ⟨src.go P1 i ρx _ Hx Sx okx hlt, I (i + 1), fun H' p' => ⟨ds.length - (i + 1), by omega, rfl, p'⟩, fun x' H' y => ?_⟩
    obtain ⟨sm, rx⟩ := src.yld P1 i ρx _ Hx x' H' ds[i] Sx okx (List.getElem?_eq_getElem hlt) y
    rw [List.drop_eq_getElem_cons hlt] at hC
    have back : ∀ {σ2 : St}, σ2.length = (L2.wipe σ vs).length → (∀ j, j ∉ is → σ2[j]? = (L2.wipe σ vs)[j]?) → L2.wipe σ2 vs = L2.wipe σ vs ∧ ∀ j ∈ O, σ2[j]? = (L2.wipe σ vs)[j]? := fun {σ2} h1 h2 =>
      ⟨(wipe_same h1 fun j hj => h2 j fun z => hj (hv j z)).trans wipe_idem, fun j hj => h2 j fun z => ho j (hv j z) hj⟩
    -- from the turn's end to the next turn
    have next : ∀ {σ2 : St} {ρ3 : Env} {H4 : Hp} {acc' : List V} {yd' rest' : List D}, σ2.length = (L2.wipe σ vs).length → (∀ j, j ∉ is → σ2[j]? = (L2.wipe σ vs)[j]?) → Sim K P1 O W ρ3 σ2 H4 → Keep W σ2 H' H4 →
        (∀ w ∈ ws, (wipeE ρ3 vs)[w]? = ρx[w]?) → Reps K H4 yd' (FA P1 O σ2) acc' → acc'.length ≤ i + 1 → cCompL tm t me vs ws (ds.drop (i + 1)) (wipeE ρ3 vs) = .ok (rest', ρf) → ys = yd' ++ rest' → I (i + 1) (upd H4 Dn (.lst acc')) := by
      intro σ2 ρ3 H4 acc' yd' rest' h1 h2 S4 k4 hw r' hl' hc' hy'
      obtain ⟨b1, b2⟩ := back h1 h2
      have nD2 : ¬ OA O σ2 Dn := fun z => nD ((OA_of b2 Dn).mp z)
      have S5 := S4.wipe2 (is := vs) ho
      rw [b1] at S5
      have S6 := S5.wr (o := .lst acc') pD trivial
      have kp : ∀ b o, Hx b = some o → ¬ FA P1 O (L2.wipe σ vs) b → upd H4 Dn (.lst acc') b = some o := fun b o e n => by
        rw [upd_ne fun z => n (.inl (by rw [z]; exact pD))]
        exact k4.keep b o (sm b o e) fun z => n (.inr ((OA_of b2 b).mp (S4.oaw z)))
      refine ⟨hlt, wipeE ρ3 vs, acc', yd', rest', S6, src.keep P1 ρx _ Hx _ _ _ Sx kp (fun b z => .inl z) (fun w hw' => ⟨rfl, hw w hw'⟩) okx, upd_same, ?_, hl', hc', hy', fun b o e n => ?_, fun b e => ?_, wipeE_none⟩
      · refine r'.mono yd' S4.dom (fun b o e n => ?_) fun b z => .inl ((FA_of b2 b).mpr z)
        rw [upd_ne fun z => n (.inl (by rw [z]; exact pD))]
        exact e
      · have hb : b ≠ Dn := ne_of_none e hD
        rw [upd_ne hb]
        exact k4.keep b o (sm b o (kx b o e n)) fun z => n ((OA_of (fun i hi => sO i (S1.sub i hi)) b).mp ((OA_of (fun i hi => b2 i (S1.sub i hi)) b).mp z))
      · by_cases hb : b = Dn
        · rw [hb, upd_same]; intro z; cases z
        · rw [upd_ne hb]
          exact k4.some b (Same.some sm b (sx b e))
    cases cComp_step hC with
    | yes ρa ρb ρc hd d ys' e1 e2 e3 e4 e5 e6 e7 =>
      refine ⟨P1, ρx, ds[i], ρa, Sx.same sm, rx, e1, fun σ2 Sa h1 h2 => ⟨(back h1 h2).1, P1, ρa, Sa, ?_⟩⟩
      rw [e2]
      intro H3 Sb k3
      refine (if_pos rfl).mpr ⟨P1, ρb, Sb, ?_⟩
      rw [e3]
      intro y' H4 Sc k4 r4
      have b2 := (back h1 h2).2
      have nD2 : ¬ OA O σ2 Dn := fun z => nD ((OA_of b2 Dn).mp z)
      have k34 : Keep W σ2 H' H4 := k3.trans k4
      refine ⟨acc, k34.keep _ _ (sm _ _ hDx) fun z => nD2 (Sc.oaw z), by omega, ?_⟩
      have r5 : Reps K H4 yd (FA P1 O σ2) acc := hR.mono yd Sx.dom (fun b o e n => k34.keep b o (sm b o e) fun z => n (.inr ((OA_of b2 b).mp (Sc.oaw z)))) fun b z => .inl ((FA_of b2 b).mp z)
      exact next h1 h2 Sc k34 (chk_ok e5) (r5.append (Reps.cons (r4.v e4) Reps.nil)) (by simp; omega) e6 (by rw [hys, e7]; simp)
    | no ρa ρb e1 e2 e5 e6 =>
      refine ⟨P1, ρx, ds[i], ρa, Sx.same sm, rx, e1, fun σ2 Sa h1 h2 => ⟨(back h1 h2).1, P1, ρa, Sa, ?_⟩⟩
      rw [e2]
      intro H3 Sb k3
      refine (if_neg Bool.false_ne_true).mpr ?_
      have b2 := (back h1 h2).2
      have nD2 : ¬ OA O σ2 Dn := fun z => nD ((OA_of b2 Dn).mp z)
      have r5 : Reps K H3 yd (FA P1 O σ2) acc := hR.mono yd Sx.dom (fun b o e n => k3.keep b o (sm b o e) fun z => n (.inr ((OA_of b2 b).mp (Sb.oaw z)))) fun b z => .inl ((FA_of b2 b).mp z)
      have hD3 : H3 Dn = some (.lst acc) := k3.keep _ _ (sm _ _ hDx) fun z => nD2 (Sb.oaw z)
      have fin := next h1 h2 Sb k3 (chk_ok e5) r5 (by omega) e6 hys
      have e : upd H3 Dn (.lst acc) = H3 := by
        funext b
        unfold upd
        split
        · rename_i z; rw [z, hD3]
        · rfl
      rw [e] at fin
      exact fin
  · left
    have ei : i = ds.length := by omega
    subst ei
    refine ⟨src.stop P1 ρx _ Hx Sx okx, ?_⟩
    rw [List.drop_length] at hC
    have hC : (R.ok (([] : List D), ρx)) = R.ok (rest, ρf) := hC
    cases hC
    rw [List.append_nil] at hys
    subst hys
    have kH : Keep W σ H1 Hx := ⟨kx, sx⟩
    refine q (.ref Dn) Hx ((Sx.lessP pI).out ho nx) (k1.trans kH) ⟨?_, fun _ a e => ?_⟩
    · unfold Rep
      refine ⟨Dn, acc, rfl, fun z => (S1.dom Dn z).some hD, hDx, hR.less Sx.dom fun b z => ?_⟩
      rcases z with z | z
      · exact (FA_of sO b).mpr (z.imp (pI b) id)
      · rw [z]; exact .inl pD
    · cases e
      exact Classical.byContradiction fun z => k1.some Dn z hD
theorem ce_comp {elt iter : Expr} {ifs : List Expr} {scope : Scope} {own : List (Str × Nat)} {im : IM} {tm : GM} {t : BM} {me : EM} {is : List Nat} (hc : X.calm = true) (hN : X.N.Nodup) (hi : CI X P0 O W E tg iter im) (ok : BlkOk X.N X.env.scope scope own)
    (hg : ∀ (P0 : Pr) (s : Shared) (H : Hp) (C : Addr) (cl : List (Str × Addr)) (fp : List Addr), CG (X.blk s H scope (compEnvC scope cl C X.env) fp) P0 O W tg tm is)
    (ht : ∀ (s : Shared) (H : Hp) (C : Addr) (cl : List (Str × Addr)) (fp : List Addr), CTs (X.blk s H scope (compEnvC scope cl C X.env) fp) O W E00 ifs t)
    (he : ∀ (P0 : Pr) (s : Shared) (H : Hp) (C : Addr) (cl : List (Str × Addr)) (fp : List Addr), CEx (X.blk s H scope (compEnvC scope cl C X.env) fp) P0 O W E00 elt me)
    (hv : ∀ i ∈ is, i ∈ own.map (·.2) := by decide) (ho : ∀ i ∈ own.map (·.2), i ∉ O := by decide) (hs : ∀ x, foldedSetIterable iter X.env x = pure x := by intro _; rfl) :
    CEx X P0 O W E (.ListComp elt [⟨tg, iter, ifs, 0⟩] scope pos) (cComp im tm t me (own.map (·.2))) :=
  PE.imp (pe_lc hc hN hi ok (fun s H C cl fp => PG.ex fun P0 => hg P0 s H C cl fp) ht (fun s H C cl fp => PE.ex fun P0 => he P0 s H C cl fp) hs) (comp_core hv ho)
end
end Y

set_option Elab.async false
set_option linter.all false
set_option maxRecDepth 100000
namespace Y
open PySem PySem.Spec PyProof.Rows L2

mutual
def D.nl : D → Bool
  | .non => true
  | .bl _ => true
  | .int _ => true
  | .str _ => true
  | .tup ds => nls ds
  | .ftu ds => nls ds
  | _ => false
def nls : List D → Bool
  | [] => true
  | d :: ds => d.nl && nls ds
end
/-- a list, a dict of such -/
def D.shallow : D → Bool
  | .lst ds => nls ds
  | .dik _ ds => nls ds
  | .dit _ ds => nls ds
  | .tab _ _ => true
  | d => d.nl
section
variable {K : PySem.W.Frag} {H : Hp}
mutual
theorem Rep.nl : ∀ {d : D} {P P' : Pr} {v : V}, d.nl = true → Rep K H d P v → Rep K H d P' v
  | .non, _, _, _, _, h => by unfold Rep at h ⊢; exact h
  | .bl _, _, _, _, _, h => by unfold Rep at h ⊢; exact h
  | .int _, _, _, _, _, h => by unfold Rep at h ⊢; exact h
  | .str _, _, _, _, _, h => by unfold Rep at h ⊢; exact h
  | .tup ds, P, P', v, n, h => by
    unfold Rep at h ⊢
    obtain ⟨a, vs, e, h1, h2⟩ := h
    exact ⟨a, vs, e, h1, Reps.nl (by unfold D.nl at n; exact n) h2⟩
  | .ftu ds, P, P', v, n, h => by
    unfold Rep at h ⊢
    obtain ⟨a, vs, o, e, h1, hd, h2⟩ := h
    exact ⟨a, vs, o, e, h1, hd, Reps.nl (by unfold D.nl at n; exact n) h2⟩
  | .tab _ _, _, _, _, n, _ => by simp [D.nl] at n
  | .lst _, _, _, _, n, _ => by simp [D.nl] at n
  | .arg _, _, _, _, n, _ => by simp [D.nl] at n
  | .dik _ _, _, _, _, n, _ => by simp [D.nl] at n
  | .dit _ _, _, _, _, n, _ => by simp [D.nl] at n
theorem Reps.nl : ∀ {ds : List D} {P P' : Pr} {vs : List V}, nls ds = true → Reps K H ds P vs → Reps K H ds P' vs
  | [], _, _, _, _, h => by rw [h.nil_iff]; exact Reps.nil
  | d :: ds, P, P', vs, n, h => by
    obtain ⟨v, ws, rfl, h1, h2⟩ := h.cons_iff
    unfold nls at n
    rw [Bool.and_eq_true] at n
    exact Reps.cons (Rep.nl n.1 h1) (Reps.nl n.2 h2)
end
theorem RepO.shallow {d : D} {P P' : Pr} {v : V} (n : d.shallow = true) (h : RepO K H d P v) : RepO K H d P' v := by
  cases d with
  | lst ds => obtain ⟨a, vs, e, h1, h2⟩ := h; exact ⟨a, vs, e, h1, h2.nl n⟩
  | dik ks ds => obtain ⟨a, vs, e, hl, h1, h2⟩ := h; exact ⟨a, vs, e, hl, h1, h2.nl n⟩
  | dit ks ds => obtain ⟨a, vs, e, hl, h1, h2⟩ := h; exact ⟨a, vs, e, hl, h1, h2.nl n⟩
  | non => exact h
  | bl _ => exact h
  | int _ => exact h
  | str _ => exact h
  | tup _ => exact h
  | arg _ => exact h
  | ftu _ => exact h
  | tab _ _ => exact h
theorem RepO.mono {H' : Hp} {d : D} {P P' : Pr} {v : V} (hm : ∀ b, P b → isMut (H b)) (k : ∀ b o, H b = some o → ¬ P b → H' b = some o) (hp : ∀ b, P' b → P b ∨ H b = none) (hk : ∀ a o, v = .ref a → H a = some o → H' a = some o) (h : RepO K H d P v) : RepO K H' d P' v := by
  cases d with
  | lst ds => obtain ⟨a, vs, e, h1, h2⟩ := h; exact ⟨a, vs, e, hk a _ e h1, h2.mono ds hm k hp⟩
  | dik ks ds => obtain ⟨a, vs, e, hl, h1, h2⟩ := h; exact ⟨a, vs, e, hl, hk a _ e h1, h2.mono ds hm k hp⟩
  | dit ks ds => obtain ⟨a, vs, e, hl, h1, h2⟩ := h; exact ⟨a, vs, e, hl, hk a _ e h1, h2.mono ds hm k hp⟩
  | non => exact h
  | bl _ => exact h
  | int _ => exact h
  | str _ => exact h
  | tup _ => exact h
  | arg _ => exact h
  | ftu _ => exact h
  | tab p q => obtain ⟨a, e, ht⟩ := h; exact ⟨a, e, TabS.mono hm k (fun o e2 => hk a o e e2) ht⟩
end
open Classical in
/-- what is known of the slots is what was known; or, of own slots, it holds no lists -/
noncomputable def chkO (O W : List Nat) (ρ ρ' : Env) : R Unit := if ∀ (j : Nat) d, ρ'[j]? = some (some d) → (ρ[j]? = some (some d) ∧ j ∉ W) ∨ (j ∈ O ∧ d.shallow = true) ∨ d.nl = true then .ok () else .stk
theorem chkO_ok {O W : List Nat} {ρ ρ' : Env} (h : chkO O W ρ ρ' = .ok ()) : ∀ (j : Nat) d, ρ'[j]? = some (some d) → (ρ[j]? = some (some d) ∧ j ∉ W) ∨ (j ∈ O ∧ d.shallow = true) ∨ d.nl = true := by
  unfold chkO at h
  split at h
  · assumption
  · cases h
@[simp] theorem chkO_same {O : List Nat} {ρ : Env} : chkO O [] ρ ρ = .ok () := by unfold chkO; rw [if_pos fun j d e => .inl ⟨e, by simp⟩]
/-- what an own slot may take -/
def D.ownable : D → Bool
  | .lst _ => true
  | .non => true
  | .bl _ => true
  | .int _ => true
  | .str _ => true
  | _ => false
section
variable {K : PySem.W.Frag} {P0 P1 : Pr} {O W : List Nat} {ρ ρ' : Env} {σ σ' : St} {H H' : Hp} {d : D} {v : V}
/-- an own slot's object is written -/
theorem Sim.ownW (S : Sim K P0 O W ρ σ H) {i : Nat} {a : Addr} {o : HO} (hi : i ∈ O) (ha : σ[i]? = some (some (.ref a))) (ho : isMut (some o)) (r : RepO K (upd H a o) d (FA P0 O σ) (.ref a)) : Sim K P0 O W (ρ.set i (some d)) σ (upd H a o) := by
  have pa : FA P0 O σ a := .inr ⟨i, hi, ha⟩
  have k : ∀ b u, H b = some u → ¬ FA P0 O σ b → upd H a o b = some u := fun b u e n => by rw [upd_ne fun z => n (by rw [z]; exact pa)]; exact e
  refine ⟨S.sub, by simpa using S.len, fun b z => ?_, fun j d' e n => ?_, fun j d' e n => ?_, S.sep, S.sep0⟩
  · by_cases hb : b = a
    · rw [hb, upd_same]; exact ho
    · rw [upd_ne hb]; exact S.dom b z
  · have hj : i ≠ j := fun (z : i = j) => n (by rw [← z]; exact hi)
    rw [List.getElem?_set_ne hj] at e
    obtain ⟨v, h1, h2⟩ := S.val j d' e n
    exact ⟨v, h1, h2.of_same S.dom k⟩
  · by_cases hj : i = j
    · subst hj
      have h1 : i < ρ.length := by have := (List.getElem?_eq_some_iff.mp e).1; simpa using this
      rw [List.getElem?_set_self h1] at e
      cases e
      exact ⟨_, ha, r⟩
    · rw [List.getElem?_set_ne hj] at e
      obtain ⟨v, h1, h2⟩ := S.own j d' e n
      refine ⟨v, h1, h2.mono S.dom k (fun _ z => .inl z) fun b u e1 e2 => ?_⟩
      subst e1
      rw [upd_ne fun (z : b = a) => hj (S.sep i j a hi n ha (by rw [← z]; exact h1))]
      exact e2
/-- a datum of an own slot, of a new object -/
theorem Rep.own (hm : ∀ b, FA P0 O σ b → isMut (H b)) (hd : d.ownable = true) (r : Rep K H d (FA P0 O σ) v) {P' : Pr} (hp : ∀ b, P' b → FA P0 O σ b ∨ v = .ref b) : RepO K H d P' v := by
  cases d with
  | lst ds =>
    unfold Rep at r
    obtain ⟨a, vs, rfl, h0, h1, h2⟩ := r
    exact ⟨a, vs, rfl, h1, h2.less (mutL hm h1) fun b z => (hp b z).imp id fun z => by cases z; rfl⟩
  | dik _ _ => cases hd
  | dit _ _ => cases hd
  | non => unfold Rep at r; exact r
  | bl _ => unfold Rep at r; exact r
  | int _ => unfold Rep at r; exact r
  | str _ => unfold Rep at r; exact r
  | tup _ => cases hd
  | arg _ => cases hd
  | ftu _ => cases hd
  | tab _ _ => cases hd
/-- an own slot gets a new object v. S0: the state ahead of its making -/
theorem Sim.setO (S0 : Sim K P0 O W ρ σ H) (S : Sim K P0 O W ρ' σ H') (k : Keep W σ H H') (c : ∀ (j : Nat) d, ρ'[j]? = some (some d) → (ρ[j]? = some (some d) ∧ j ∉ W) ∨ (j ∈ O ∧ d.shallow = true) ∨ d.nl = true) {i : Nat} (hi : i ∈ O)
    (new : ∀ a, v = .ref a → H a = none ∧ isMut (H' a)) (r : RepO K H' d (fun b => FA P0 O σ b ∨ v = .ref b) v) : Sim K P0 O W (ρ'.set i (some d)) (σ.set i (some v)) H' := by
  have gs : ∀ {j : Nat} {w : V}, (σ.set i (some v))[j]? = some (some w) → (j = i ∧ w = v) ∨ (j ≠ i ∧ σ[j]? = some (some w)) := fun {j w} e => by
    by_cases hj : i = j
    · subst hj
      have h1 : i < σ.length := by have := (List.getElem?_eq_some_iff.mp e).1; simpa using this
      rw [List.getElem?_set_self h1] at e
      cases e
      exact .inl ⟨rfl, rfl⟩
    · rw [List.getElem?_set_ne hj] at e
      exact .inr ⟨fun z => hj z.symm, e⟩
  have oa : ∀ b, OA O (σ.set i (some v)) b → v = .ref b ∨ OA O σ b := fun b ⟨j, hj, e⟩ => by
    rcases gs e with ⟨_, e2⟩ | ⟨_, e2⟩
    · exact .inl e2.symm
    · exact .inr ⟨j, hj, e2⟩
  have fa0 : ∀ b, FA P0 O (σ.set i (some v)) b → FA P0 O σ b ∨ H b = none := fun b z => by
    rcases z with z | z
    · exact .inl (.inl z)
    · rcases oa b z with z | z
      · exact .inr (new b z).1
      · exact .inl (.inr z)
  have kf : ∀ b o, H b = some o → ¬ FA P0 O σ b → H' b = some o := fun b o e n => k.keep b o e fun z => n (.inr (S.oaw z))
  -- the new object is not what an own slot held
  have apart : ∀ a, v = .ref a → ¬ FA P0 O σ a := fun a e z => (S0.dom a z).some (new a e).1
  refine ⟨S.sub, by simpa using S.len, fun b z => ?_, fun j d' e n => ?_, fun j d' e n => ?_, fun x y a hx hy e1 e2 => ?_, fun a z y => ?_⟩
  · rcases z with z | z
    · exact S.dom b (.inl z)
    · rcases oa b z with z | z
      · exact (new b z).2
      · exact S.dom b (.inr z)
  · have hj : i ≠ j := fun (z : i = j) => n (by rw [← z]; exact hi)
    rw [List.getElem?_set_ne hj] at e ⊢
    rcases c j d' e with ⟨e0, _⟩ | ⟨z, _⟩ | nl
    · obtain ⟨w, h1, h2⟩ := S0.val j d' e0 n
      exact ⟨w, h1, h2.mono d' S0.dom kf fa0⟩
    · exact absurd z n
    · obtain ⟨w, h1, h2⟩ := S.val j d' e n
      exact ⟨w, h1, h2.nl nl⟩
  · by_cases hj : i = j
    · subst hj
      have h1 : i < ρ'.length := by have := (List.getElem?_eq_some_iff.mp e).1; simpa using this
      rw [List.getElem?_set_self h1] at e
      cases e
      refine ⟨v, List.getElem?_set_self (Nat.lt_of_lt_of_le h1 S.len), ?_⟩
      have r' := r
      refine r'.mono (P := fun b => FA P0 O σ b ∨ v = .ref b) (fun b z => z.elim (S.dom b) fun z => (new b z).2) (fun _ _ e _ => e) (fun b z => ?_) fun _ _ _ e => e
      rcases z with z | z
      · exact .inl (.inl (.inl z))
      · exact .inl ((oa b z).elim .inr fun z => .inl (.inr z))
    · rw [List.getElem?_set_ne hj] at e ⊢
      rcases c j d' e with ⟨e0, hw⟩ | ⟨_, sh⟩ | nl
      · obtain ⟨w, h1, h2⟩ := S0.own j d' e0 n
        refine ⟨w, h1, h2.mono S0.dom kf fa0 fun a o e1 e2 => ?_⟩
        subst e1
        refine k.keep a o e2 fun ⟨x, hx, ex⟩ => ?_
        have := S0.sep x j a (S0.sub x hx) n ex h1
        exact hw (this ▸ hx)
      · obtain ⟨w, h1, h2⟩ := S.own j d' e n
        exact ⟨w, h1, h2.shallow sh⟩
      · obtain ⟨w, h1, h2⟩ := S.own j d' e n
        refine ⟨w, h1, ?_⟩
        cases d' <;> first | exact h2 | (simp [D.nl] at nl)
  · rcases gs e1 with ⟨f1, g1⟩ | ⟨f1, g1⟩
    · rcases gs e2 with ⟨f2, g2⟩ | ⟨f2, g2⟩
      · rw [f1, f2]
      · exact absurd (.inr ⟨y, hy, g2⟩) (apart a g1.symm)
    · rcases gs e2 with ⟨f2, g2⟩ | ⟨f2, g2⟩
      · exact absurd (.inr ⟨x, hx, g1⟩) (apart a g2.symm)
      · exact S.sep x y a hx hy g1 g2
  · rcases oa a z with z | z
    · exact apart a z (.inl y)
    · exact S.sep0 a z y
end

inductive Fl where
  | nx | bk | ct | rt (h : Hd)
abbrev SM := Env → R (Fl × Env)
def Fin (K : PySem.W.Frag) (P0 : Pr) (O : List Nat) (Hs : Hp) (D : Ends) (σ : St) (H : Hp) : Fl → Prop
  | .nx => D.nx σ H
  | .bk => D.bk σ H
  | .ct => D.ct σ H
  | .rt h => ∀ v, HdR K P0 O Hs σ H h v → D.rt v H
def tSt (K : PySem.W.Frag) (P0 : Pr) (O W U : List Nat) (E : EK) (m : SM) : TS := fun D σ H => ∃ ρ, Sim K P0 O W ρ σ H ∧
  Res E O σ H (m ρ) fun a => ∀ σ' H', Sim K P0 O W a.2 σ' H' → Tr O U σ H σ' H' → σ'.length = σ.length → Fin K P0 O H D σ' H' a.1
section
variable {E : EK} {O W U : List Nat} {σ σ1 : St} {H H1 : Hp} {α β : Type}
theorem Keep.up (hs : ∀ i ∈ W, i ∈ O) (k : Keep W σ H H1) : Keep O σ H H1 := ⟨fun b o e n => k.keep b o e fun ⟨i, hi, z⟩ => n ⟨i, hs i hi, z⟩, k.some⟩
theorem Res.down (hs : ∀ i ∈ W, i ∈ O) {r : R α} {k : α → Prop} (h : Res E O σ H r k) : Res E W σ H r k := by
  cases r with
  | ok a => exact h
  | er c ds => exact fun H' kp => h H' (kp.up hs)
  | stk => exact h
theorem Keep.afterT {H2 : Hp} (t : Tr O U σ H σ1 H1) (k : Keep O σ1 H1 H2) : Keep O σ H H2 where
  keep := fun b o e n => k.keep b o (t.keep b o e n) fun z => by
    rcases t.own b z with z | z
    · exact n z
    · rw [e] at z; cases z
  some := fun b e => k.some b (t.some b e)
theorem Res.keepT {r : R α} {k : α → Prop} (h : Res E O σ H r k) (t : Tr O U σ H σ1 H1) : Res E O σ1 H1 r k := by
  cases r with
  | ok a => exact h
  | er c ds => exact fun H' kp => h H' (kp.afterT t)
  | stk => exact h
end
section
variable {X : Cx} {P0 : Pr} {O W U : List Nat} {E : EK} {a b c e tg : Expr} {es : List Expr} {ma mb mc : EM} {ms : AM} {pos : Pos} {st : Stmt} {sts : List Stmt} {m n : SM}
abbrev CS (X : Cx) (P0 : Pr) (O W U : List Nat) (E : EK) (st : Stmt) (m : SM) : Prop := PS X st (tSt X.K P0 O W U E m)
abbrev CSs (X : Cx) (P0 : Pr) (O W U : List Nat) (E : EK) (sts : List Stmt) (m : SM) : Prop := PSs X sts (tSt X.K P0 O W U E m)
def sSkip : SM := fun ρ => .ok (.nx, ρ)
def sSeq (m n : SM) : SM := fun ρ => do
  let (f, ρ1) ← m ρ
  match f with
  | .nx => n ρ1
  | f => pure (f, ρ1)
theorem cs_nil : CSs X P0 O W U E [] sSkip := PSs.imp pss_nil fun D σ H ⟨ρ, S, h⟩ => h σ H S .refl rfl
theorem cs_one (h : CS X P0 O W U E st m) : CSs X P0 O W U E [st] m := pss_one h
theorem cs_cons (h : CS X P0 O W U E st m) (h2 : CSs X P0 O W U E sts n) : CSs X P0 O W U E (st :: sts) (sSeq m n) := PSs.imp (pss_cons h h2) fun D σ H ⟨ρ, S, h⟩ =>
  ⟨ρ, S, h.of_bind.mono fun ⟨f, ρ1⟩ q σ1 H1 S1 t1 l1 => by
    cases f with
    | nx =>
      refine ⟨ρ1, S1, (Res.keepT (show Res E O σ H (n ρ1) _ from q) t1).mono fun ⟨f2, ρ2⟩ q2 σ2 H2 S2 t2 l2 => ?_⟩
      have q3 := q2 σ2 H2 S2 (t1.trans t2) (l2.trans l1)
      cases f2 with
      | nx => exact q3
      | bk => exact q3
      | ct => exact q3
      | rt hd => exact fun v r => q3 v (r.back t1.some)
    | bk => exact q σ1 H1 S1 t1 l1
    | ct => exact q σ1 H1 S1 t1 l1
    | rt hd => exact q σ1 H1 S1 t1 l1⟩
def sRet (m : EM) : SM := fun ρ => do
  let (h, ρ1) ← m ρ
  pure (.rt h, ρ1)
theorem cs_ret (h : CEx X P0 O W E e ma) : CS X P0 O W U E (.Return (some e) pos) (sRet ma) := PS.imp (ps_ret h) fun D σ H ⟨ρ, S, h⟩ =>
  ⟨ρ, S, (h.of_bind.down S.sub).mono fun ⟨hd, ρ1⟩ q v H1 S1 k1 r1 => q σ H1 S1 (Tr.of S.sub k1) rfl v r1⟩
def sIf (t : BM) (m n : SM) : SM := fun ρ => do
  let (k, ρ1) ← t ρ
  if k = true then m ρ1 else n ρ1
theorem Fin.back {K : PySem.W.Frag} {Hs Hs' : Hp} {D : Ends} {σ : St} {H : Hp} {f : Fl} (k : ∀ b, Hs b ≠ none → Hs' b ≠ none) (h : Fin K P0 O Hs D σ H f) : Fin K P0 O Hs' D σ H f := by
  cases f with
  | rt hd => exact fun v r => h v (r.back k)
  | nx => exact h
  | bk => exact h
  | ct => exact h
theorem cs_if {t : BM} {xs ys : List Stmt} (hc : CT X P0 O W E c t) (h1 : CSs X P0 O W U E xs m) (h2 : CSs X P0 O W U E ys n) : CS X P0 O W U E (.If c xs ys pos) (sIf t m n) := PS.imp (ps_if hc h1 h2) fun D σ H ⟨ρ, S, h⟩ =>
  ⟨ρ, S, (h.of_bind.down S.sub).mono fun ⟨k, ρ1⟩ q H1 S1 k1 => by
    cases k with
    | true =>
      exact (if_pos rfl).mpr ⟨ρ1, S1, (Res.keepT (show Res E O σ H (m ρ1) _ from q) (Tr.of (U := U) S.sub k1)).mono fun ⟨f2, ρ2⟩ q2 σ2 H2 S2 t2 l2 => (q2 σ2 H2 S2 ((Tr.of S.sub k1).trans t2) l2).back fun b e => k1.some b e⟩
    | false =>
      exact (if_neg Bool.false_ne_true).mpr ⟨ρ1, S1, (Res.keepT (show Res E O σ H (n ρ1) _ from q) (Tr.of (U := U) S.sub k1)).mono fun ⟨f2, ρ2⟩ q2 σ2 H2 S2 t2 l2 => (q2 σ2 H2 S2 ((Tr.of S.sub k1).trans t2) l2).back fun b e => k1.some b e⟩⟩
end
end Y

set_option Elab.async false
set_option linter.all false
set_option maxRecDepth 100000
namespace Y
open PySem PySem.Spec PyProof.Rows L2
section
variable {K : PySem.W.Frag} {X : Cx} {P0 : Pr} {O W U : List Nat} {E : EK} {a b c e tg iter : Expr} {es : List Expr} {ma mb mc : EM} {ms : AM} {pos : Pos} {st : Stmt} {sts : List Stmt} {m n : SM}
def sAsg (m : EM) (tm : GM) : SM := fun ρ => do
  let (h, ρ1) ← m ρ
  let d ← h.v.nox
  let ρ2 ← (tm d ρ1).nox
  pure (.nx, ρ2)
theorem Tr.slots {is : List Nat} {σ σ' : St} {H : Hp} (ho : ∀ i ∈ is, i ∉ O) (hu : ∀ i ∈ U, i ∈ O) (h : ∀ j, j ∉ is → σ'[j]? = σ[j]?) : Tr O U σ H σ' H :=
  ⟨fun _ _ e _ => e, fun _ e => e, fun b z => .inl ((OA_of (fun i hi => h i fun y => ho i y hi) b).mp z), fun i hi => h i fun y => ho i y (hu i hi)⟩
theorem tM_asg {tm : GM} {is : List Nat} (ho : ∀ i ∈ is, i ∉ O) (hu : ∀ i ∈ U, i ∈ O) (D : Ends) (σ : St) (H : Hp) (h : tSt K P0 O W U E (sAsg ma tm) D σ H) : tAsg (tM K P0 O W E ma) (tG K P0 O W tm is) D σ H := by
  obtain ⟨ρ, S, h⟩ := h
  refine ⟨ρ, S, (h.of_bind.down S.sub).mono fun ⟨hd, ρ1⟩ q v H1 S1 k1 r1 => ?_⟩
  obtain ⟨d, e1, q⟩ := q.of_nox
  obtain ⟨ρ2, e2, q⟩ := q.of_nox
  exact ⟨ρ1, d, ρ2, S1, r1.v e1, e2, fun σ' S' l h' => q σ' H1 S' ((Tr.of S.sub k1).trans (Tr.slots ho hu h')) l⟩
theorem cs_asg {tm : GM} {is : List Nat} (h : CEx X P0 O W E e ma) (hg : CG X P0 O W tg tm is) (ho : ∀ i ∈ is, i ∉ O := by decide) (hu : ∀ i ∈ U, i ∈ O := by decide) (hs : swapsWithSole [tg] e pos.line X.env = pure false := by rfl) (hw : swappedStores [tg] e X.env = pure none := by rfl) (h1 : (assignEach [tg] X.env).map (·.2) = [assign tg X.env] := by rfl) : CS X P0 O W U E (.Assign [tg] e pos) (sAsg ma tm) :=
  PS.imp (ps_asg h hg hs hw h1) (tM_asg ho hu)
noncomputable def sOwn (O W : List Nat) (m : EM) (i : Nat) : SM := fun ρ => do
  let (h, ρ1) ← m ρ
  match h with
  | .fr d => do
    let _ ← (chkO O W ρ ρ1).nox
    if d.ownable = true then pure (.nx, ρ1.set i (some d)) else .stk
  | _ => .stk
theorem tM_own {i : Nat} (hi : i ∈ O) (hu : i ∉ U) (D : Ends) (σ : St) (H : Hp) (h : tSt K P0 O W U E (sOwn O W ma i) D σ H) : tAsg (tM K P0 O W E ma) (gName i) D σ H := by
  obtain ⟨ρ, S, h⟩ := h
  refine ⟨ρ, S, (h.of_bind.down S.sub).mono fun ⟨hd, ρ1⟩ q v H1 S1 k1 r1 => ?_⟩
  cases hd with
  | vl d => exact q.elim
  | ow j => exact q.elim
  | fr d =>
    obtain ⟨_, e1, q⟩ := Res.of_nox (show Res E O σ H ((chkO O W ρ ρ1).nox >>= _) _ from q)
    have c := chkO_ok e1
    by_cases hd : d.ownable = true
    · rw [if_pos hd] at q
      have new : ∀ a, v = .ref a → H a = none ∧ isMut (H1 a) := fun a e => by
        subst e
        have r := r1.1
        have f := r1.2
        cases d with
        | lst ds =>
          unfold Rep at r
          obtain ⟨b, vs, e, h0, h1, h2⟩ := r
          cases e
          exact ⟨f rfl _ rfl, by rw [h1]; trivial⟩
        | non => unfold Rep at r; cases r
        | bl _ => unfold Rep at r; cases r
        | int _ => unfold Rep at r; cases r
        | str _ => unfold Rep at r; cases r
        | tup _ => cases hd
        | arg _ => cases hd
        | ftu _ => cases hd
        | tab _ _ => cases hd
        | dik _ _ => cases hd
        | dit _ _ => cases hd
      have S2 := S.setO S1 k1 c hi new (r1.1.own S1.dom hd fun b z => z)
      have gs : ∀ {b : Addr}, OA O (σ.set i (some v)) b → OA O σ b ∨ H b = none := fun {b} ⟨j, hj, e⟩ => by
        by_cases hij : i = j
        · subst hij
          have h1 : i < σ.length := by have := (List.getElem?_eq_some_iff.mp e).1; simpa using this
          rw [List.getElem?_set_self h1] at e
          cases e
          exact .inr (new b rfl).1
        · rw [List.getElem?_set_ne hij] at e
          exact .inl ⟨j, hj, e⟩
      exact q _ H1 S2 ⟨fun b o e n => k1.keep b o e fun z => n (S.oaw z), k1.some, fun b z => gs z, fun j hj => List.getElem?_set_ne fun (z : i = j) => hu (by rw [z]; exact hj)⟩ (by simp)
    · rw [if_neg hd] at q
      exact q.elim
theorem cs_own {i : Nat} {x : Str} {p : Pos} (hN : X.N.Nodup) (h : CEx X P0 O W E e ma) (hi : i ∈ O := by decide) (hu : i ∉ U := by decide) (hx : X.N[i]? = some x := by rfl) (hl : Loc X.env.scope x := by first | exact Or.inl rfl | exact Or.inr rfl) (hf : X.fn x = true ∨ X.env.scope.names.lookup x = some .local := by first | exact .inl rfl | exact .inr rfl)
    (hs : swapsWithSole [.Name x p] e pos.line X.env = pure false := by rfl) (hw : swappedStores [.Name x p] e X.env = pure none := by rfl) : CS X P0 O W U E (.Assign [.Name x p] e pos) (sOwn O W ma i) :=
  PS.imp (ps_asg h (pg_name hN hx hl hf) hs hw) (tM_own hi hu)
/-- few arguments, no stars -/
abbrev Few (X : Cx) (cp : Pos) (es : List Expr) : Prop := ((backTo cp (starEach es X.env)).all (fun x => !x.1) && (backToKw cp (keywordEach [] X.env)).all (fun x => x.1.isSome)
      && decide (es.length + ([] : List Keyword).length + (if ([] : List Keyword).isEmpty then 0 else 1) < 30)) = true
theorem Tr.ownW {i : Nat} {l : Addr} {o : HO} {σ : L2.St} {H H1 : Hp} (hs : ∀ i ∈ W, i ∈ O) (k : Keep W σ H H1) (hi : i ∈ O) (ha : σ[i]? = Option.some (Option.some (V.ref l))) : Tr O U σ H σ (upd H1 l o) where
  keep := fun b u e n => by
    rw [upd_ne fun (z : b = l) => n ⟨i, hi, by rw [z]; exact ha⟩]
    exact k.keep b u e fun ⟨j, hj, z⟩ => n ⟨j, hs j hj, z⟩
  some := fun b e => by
    by_cases hb : b = l
    · rw [hb, upd_same]; intro z; cases z
    · rw [upd_ne hb]; exact k.some b e
  own := fun _ z => .inl z
  unch := fun _ _ => rfl
/-- the list of an own slot -/
theorem Sim.lst {ρ : Env} {σ : St} {H : Hp} (S : Sim K P0 O W ρ σ H) {i : Nat} {ds : List D} (hi : i ∈ O) (e : ρ[i]? = some (some (.lst ds))) : ∃ l vs, σ[i]? = some (some (.ref l)) ∧ H l = some (.lst vs) ∧ Reps K H ds (FA P0 O σ) vs := by
  obtain ⟨v, h1, l, vs, rfl, h2, h3⟩ := S.own i _ e hi
  exact ⟨l, vs, h1, h2, h3⟩
/-- .. is given other items -/
theorem Sim.lstW {ρ : Env} {σ : St} {H : Hp} (S : Sim K P0 O W ρ σ H) {i : Nat} {l : Addr} {ds' : List D} {vs' vs : List V} (hi : i ∈ O) (ha : σ[i]? = some (some (.ref l))) (hl : H l = some (.lst vs)) (r : Reps K H ds' (FA P0 O σ) vs') : Sim K P0 O W (ρ.set i (some (.lst ds'))) σ (upd H l (.lst vs')) :=
  S.ownW hi ha trivial ⟨l, vs', rfl, upd_same, r.mono ds' S.dom (fun b o e n => by rw [upd_ne fun z => n (.inr ⟨i, hi, by rw [z]; exact ha⟩)]; exact e) fun b z => .inl z⟩
def lstAt (i : Nat) (ρ : Env) : R (List D) := match ρ[i]? with
  | some (some (.lst ds)) => .ok ds
  | _ => .stk
theorem lstAt_ok {i : Nat} {ρ : Env} {ds : List D} (h : lstAt i ρ = .ok ds) : ρ[i]? = some (some (.lst ds)) := by
  unfold lstAt at h
  split at h
  · rename_i e; cases h; exact e
  · cases h
/-- x.append(e) -/
def sAppend (i : Nat) (m : EM) : SM := fun ρ => do
  let _ ← (lstAt i ρ).nox
  let (h, ρ1) ← m ρ
  let d ← h.v.nox
  let ds ← (lstAt i ρ1).nox
  if szOk (ds.length + 1) = true then pure (.nx, ρ1.set i (some (.lst (ds ++ [d])))) else .stk
theorem tM_append {i : Nat} (hi : i ∈ O) (D : Ends) (σ : St) (H : Hp) (h : tSt K P0 O W U E (sAppend i ma) D σ H) : tDrop (tBM K "list" rAppend (tVar i) (tCons (tM K P0 O W E ma) tNil)) D σ H := by
  obtain ⟨ρ, S, h⟩ := h
  obtain ⟨ds0, e0, h⟩ := h.of_nox
  obtain ⟨l, vs0, h1, h2, _⟩ := S.lst hi (lstAt_ok e0)
  refine ⟨.ref l, h1, .inl ⟨rfl, _, SqL.of h2⟩, ρ, S, (h.of_bind.down S.sub).mono fun ⟨hd, ρ1⟩ q v H1 S1 k1 r1 => ?_⟩
  obtain ⟨d, e1, q⟩ := q.of_nox
  obtain ⟨ds, e2, q⟩ := q.of_nox
  obtain ⟨l', vs, h1', h3, h4⟩ := S1.lst hi (lstAt_ok e2)
  rw [h1] at h1'
  cases h1'
  by_cases c : szOk (ds.length + 1) = true
  · rw [if_pos c] at q
    have c := of_decide_eq_true c
    refine ⟨l, vs, v, rfl, rfl, h3, by rw [h4.length]; omega, ?_⟩
    exact q σ _ (S1.lstW hi h1 h3 (h4.append (Reps.cons (r1.v e1) Reps.nil))) (Tr.ownW S.sub k1 hi h1) rfl
  · rw [if_neg c] at q
    exact q.elim
theorem cs_append {i : Nat} {x : Str} {p ap cp : Pos} (h : CEx X P0 O W E e ma) (hi : i ∈ O := by decide) (hx : X.N[i]? = some x := by rfl) (hv : Vis X.env.scope x := by first | exact Or.inl rfl | exact Or.inr (Or.inl rfl) | exact Or.inr (Or.inr rfl)) (hd : (x == ("__debug__" : Str)) = false := by decide) (hcd : (x == ("__classdict__" : Str)) = false := by decide)
    (he : starEach [e] X.env = (false, eval e X.env) :: starEach [] X.env := by rfl) (hpl : (backTo cp (starEach [] X.env)).any (·.1) = false := by rfl) (hbase : attributeBase (.Name x p) "append" X.env (eval (.Name x p) X.env) = eval (.Name x p) X.env := by rfl) (hline : (ap.endLine == cp.line) = true := by rfl)
    (hfew : Few X cp [e] := by rfl) (hsw : swapsWith (.Call (.Attribute (.Name x p) "append" ap) [e] [] cp) none pos.line X.env = pure false := by rfl) :
    CS X P0 O W U E (.Expr (.Call (.Attribute (.Name x p) "append" ap) [e] [] cp) pos) (sAppend i ma) :=
  PS.imp (ps_expr (pe_bm PySem.F.plainAttrs_list PySem.F.slot_list_append PySem.F.type_list_append mt_append (pe_var (i := i) hx hv hd hcd) (pa_cons h pa_nil he) hbase hfew hline he hpl) hsw) (tM_append hi)
end
end Y

set_option Elab.async false
set_option linter.all false
set_option maxRecDepth 100000
namespace Y
open PySem PySem.Spec PyProof.Rows L2
section
variable {K : PySem.W.Frag} {X : Cx} {P0 : Pr} {O W U : List Nat} {E : EK} {a b c e tg iter : Expr} {es : List Expr} {ma mb mc : EM} {ms : AM} {pos : Pos} {st : Stmt} {sts : List Stmt} {m n : SM}
def sSetIx (i : Nat) (mk mv : EM) : SM := fun ρ => do
  let (h, ρ1) ← mv ρ
  let d ← h.v.nox
  let _ ← (lstAt i ρ1).nox
  let (h2, ρ2) ← mk ρ1
  let k ← h2.v.nox
  match k with
  | .int z => do
    let ds ← (lstAt i ρ2).nox
    match ixN ds.length z with
    | some j => pure (.nx, ρ2.set i (some (.lst (ds.set j d))))
    | none => .stk
  | _ => .stk
theorem Reps.set {H : Hp} {P : Pr} {d : D} {v : V} (r : Rep K H d P v) : ∀ {ds : List D} {vs : List V} (j : Nat), Reps K H ds P vs → Reps K H (ds.set j d) P (vs.set j v)
  | [], _, j, h => by rw [h.nil_iff]; exact Reps.nil
  | x :: xs, _, 0, h => by
    obtain ⟨w, ws, rfl, h1, h2⟩ := h.cons_iff
    exact Reps.cons r h2
  | x :: xs, _, j + 1, h => by
    obtain ⟨w, ws, rfl, h1, h2⟩ := h.cons_iff
    exact Reps.cons h1 (Reps.set r j h2)
theorem cs_setix {i : Nat} {x : Str} {p sp : Pos} {k : Expr} {mk : EM} (h : CEx X P0 O W E e ma) (hk : CEx X P0 O W E k mk) (hi : i ∈ O := by decide) (hx : X.N[i]? = some x := by rfl) (hv : Vis X.env.scope x := by first | exact Or.inl rfl | exact Or.inr (Or.inl rfl) | exact Or.inr (Or.inr rfl)) (hd : (x == ("__debug__" : Str)) = false := by decide) (hcd : (x == ("__classdict__" : Str)) = false := by decide)
    (hs : swapsWithSole [.Subscript (.Name x p) k sp] e pos.line X.env = pure false := by rfl) (hw : swappedStores [.Subscript (.Name x p) k sp] e X.env = pure none := by rfl) (h1 : (assignEach [.Subscript (.Name x p) k sp] X.env).map (·.2) = [assign (.Subscript (.Name x p) k sp) X.env] := by rfl)
    (hb : ∀ v, assign (.Subscript (.Name x p) k sp) X.env v = (do
      let ov ← holding [v] (eval (.Name x p) X.env)
      let iv ← holding [v, ov] (eval k X.env)
      standAt sp
      holding [v, ov, iv] (setItem ov iv v)
      release [v, ov, iv] []) := by intro _; rfl) :
    CS X P0 O W U E (.Assign [.Subscript (.Name x p) k sp] e pos) (sSetIx i mk ma) := PS.imp (ps_asg h (pg_sub (pe_var (i := i) hx hv hd hcd) hk set_list hb) hs hw h1) fun D σ H ⟨ρ, S, h⟩ => by
  refine ⟨ρ, S, (h.of_bind.down S.sub).mono fun ⟨hd, ρ1⟩ q v H1 S1 k1 r1 => ?_⟩
  obtain ⟨d, e1, q1⟩ := q.of_nox
  obtain ⟨ds0, e0, q2⟩ := q1.of_nox
  obtain ⟨l, vs0, h1, h2, _⟩ := S1.lst hi (lstAt_ok e0)
  refine ⟨.ref l, h1, ρ1, S1, ((q2.of_bind.down S1.sub).keep k1).mono fun ⟨hd2, ρ2⟩ q3 w H2 S2 k2 r2 => ?_⟩
  obtain ⟨dk, e2, q4⟩ := q3.of_nox
  have rk := r2.v e2
  cases dk <;> first | (exact q4.elim) | skip
  rename_i z
  unfold Rep at rk
  subst rk
  obtain ⟨ds, e3, q5⟩ := Res.of_nox (show Res E O σ H ((lstAt i ρ2).nox >>= _) _ from q4)
  obtain ⟨l', vs, h1', h3, h4⟩ := S2.lst hi (lstAt_ok e3)
  rw [h1] at h1'
  cases h1'
  cases ej : ixN ds.length z with
  | none => rw [ej] at q5; exact q5.elim
  | some j =>
    rw [ej] at q5
    refine ⟨l, vs, z, j, rfl, rfl, h3, by rw [h4.length]; exact ej, ?_⟩
    exact q5 σ _ (S2.lstW hi h1 h3 (Reps.set (S1.rep k2 (r1.v e1)) j h4)) (Tr.ownW S.sub (k1.trans k2) hi h1) rfl
noncomputable def forL (tm : GM) (body : SM) (vs ws : List Nat) : List D → Env → R (Fl × Env)
  | [], ρ => .ok (.nx, ρ)
  | x :: xs, ρ => do
    let ρ1 ← (tm x ρ).nox
    let (f, ρ2) ← body ρ1
    match f with
    | .bk => pure (.nx, ρ2)
    | .rt h => pure (.rt h, ρ2)
    | _ => do
      let _ ← (chk ws ρ (wipeE ρ2 vs)).nox
      forL tm body vs ws xs (wipeE ρ2 vs)
noncomputable def sFor (U : List Nat) (im : IM) (tm : GM) (body : SM) (vs : List Nat) : SM := fun ρ => do
  let ((ds, ws), ρ1) ← im ρ
  if (ws.all fun w => U.contains w) = true then forL tm body vs ws ds ρ1 else .stk
theorem for_core {im : IM} {tm : GM} {is vs U' : List Nat} (ho : ∀ i ∈ is, i ∉ O) (hu : ∀ i ∈ U', i ∈ O) (hu' : ∀ i ∈ U, i ∈ U') (D : Ends) (σ : L2.St) (H : Hp) (h : tSt X.K P0 O W U E (sFor U' im tm m vs) D σ H) : tFor (tMi X.K P0 O W E im) (tG X.K P0 O W tm is) (tSt X.K P0 O W U' E m) D σ H := by
  obtain ⟨ρ, S, h⟩ := h
  refine ⟨ρ, S, (h.of_bind.down S.sub).mono fun ⟨⟨ds, ws⟩, ρ1⟩ q J H1 Ok S1 k1 src ok hz => ?_⟩
  have src : Src X.K O W ds ws J Ok := src
  have q : Res E O σ H (if (ws.all fun w => U'.contains w) = true then forL tm m vs ws ds ρ1 else .stk) _ := q
  by_cases hw : (ws.all fun w => U'.contains w) = true
  · rw [if_pos hw] at q
    have hw : ∀ w ∈ ws, w ∈ U' := fun w hw' => by simpa using List.all_eq_true.mp hw w hw'
    have t1 : Tr O U σ H σ H1 := Tr.of S.sub k1
    let Post : Fl × Env → Prop := fun a => ∀ σ' H', Sim X.K P0 O W a.2 σ' H' → Tr O U σ H σ' H' → σ'.length = σ.length → Fin X.K P0 O H D σ' H' a.1
    let I : Nat → L2.St → Hp → Prop := fun i σx Hx => i ≤ ds.length ∧ ∃ ρx, Sim X.K P0 O W ρx σx Hx ∧ Ok P0 ρx σx Hx ∧ Tr O U σ H σx Hx ∧ σx.length = σ.length ∧ Res E O σx Hx (forL tm m vs ws (ds.drop i) ρx) Post
    refine ⟨fun i k σx Hx => k = ds.length - i ∧ I i σx Hx, ⟨ds.length, by simp, Nat.zero_le _, ρ1, S1, ok, t1, rfl, Res.keepT (show Res E O σ H (forL tm m vs ws ds ρ1) Post from q) t1⟩, ?_⟩
    rintro i k σx Hx ⟨rfl, hil, ρx, Sx, okx, tx, lx, qx⟩
    by_cases hlt : i < ds.length
    · right
      refine ⟨src.go P0 i ρx σx Hx Sx okx hlt, I (i + 1), fun σ' H' p' => ⟨ds.length - (i + 1), by omega, rfl, p'⟩, fun x' H' y => ?_⟩
      obtain ⟨sm, rx⟩ := src.yld P0 i ρx σx Hx x' H' ds[i] Sx okx (List.getElem?_eq_getElem hlt) y
      rw [List.drop_eq_getElem_cons hlt] at qx
      unfold forL at qx
      obtain ⟨ρa, e1, qx⟩ := qx.of_nox
      refine ⟨ρx, ds[i], ρa, Sx.same sm, rx, e1, fun σ2 S2 l2 ag => ?_⟩
      have t2 : Tr O U' σx Hx σ2 H' := Tr.trans (σ1 := σx) (H1 := H') ⟨fun b o e _ => sm b o e, Same.some sm, fun _ z => .inl z, fun _ _ => rfl⟩ (Tr.slots ho hu ag)
      refine ⟨ρa, S2, (Res.keepT qx.of_bind t2).mono fun ⟨f, ρ2⟩ q3 σ3 H3 S3 t3 l3 => ?_⟩
      have t4 : Tr O U' σx Hx σ3 H3 := t2.trans t3
      have t5 : Tr O U σ H σ3 H3 := tx.trans (t4.less hu')
      have l5 : σ3.length = σ.length := l3.trans (l2.trans lx)
      have next : Res E O σx Hx (do let _ ← (chk ws ρx (wipeE ρ2 vs)).nox; forL tm m vs ws (ds.drop (i + 1)) (wipeE ρ2 vs)) Post → I (i + 1) σ3 H3 := fun q4 => by
        obtain ⟨_, e4, q5⟩ := Res.of_nox (show Res E O σx Hx ((chk ws ρx (wipeE ρ2 vs)).nox >>= fun _ => forL tm m vs ws (ds.drop (i + 1)) (wipeE ρ2 vs)) Post from q4)
        refine ⟨hlt, wipeE ρ2 vs, S3.wipe vs, ?_, t5, l5, Res.keepT q5 t4⟩
        refine src.keep P0 ρx σx Hx _ σ3 H3 Sx (fun b o e n => t4.keep b o e fun z => n (.inr z)) (fun b z => ?_) (fun w hw' => ⟨t4.unch w (hw w hw'), chk_ok e4 w hw'⟩) okx
        rcases z with z | z
        · exact .inl (.inl z)
        · exact (t4.own b z).imp .inr id
      cases f with
      | nx => exact next q3
      | ct => exact next q3
      | bk => exact q3 σ3 H3 S3 t5 l5
      | rt hd =>
        intro v r
        exact q3 σ3 H3 S3 t5 l5 v (r.back fun b e => Same.some sm b (tx.some b e))
    · left
      have ei : i = ds.length := by omega
      subst ei
      rw [List.drop_length] at qx
      exact ⟨src.stop P0 ρx σx Hx Sx okx, qx σx Hx Sx tx lx⟩
  · rw [if_neg hw] at q
    exact q.elim
theorem cs_for {im : IM} {tm : GM} {is vs U' : List Nat} {xs : List Stmt} (hp : PassesOwn (model X.prog X.w) X.A X.env X.xe) (hc : X.calm = true) (hi : CI X P0 O W E tg iter im) (hg : CG X P0 O W tg tm is) (hb : CSs X P0 O W U' E xs m) (ho : ∀ i ∈ is, i ∉ O := by decide) (hu : ∀ i ∈ U', i ∈ O := by decide) (hu' : ∀ i ∈ U, i ∈ U' := by decide)
    (hs : ∀ x, foldedSetIterable iter X.env x = pure x := by intro _; rfl) : CS X P0 O W U E (.For tg iter xs [] pos) (sFor U' im tm m vs) := PS.imp (ps_for hp hc hi hg hb hs) (for_core ho hu hu')
end
end Y

set_option Elab.async false
set_option linter.all false
set_option maxRecDepth 100000
namespace Y
open PySem PySem.Spec PyProof.Rows L2

theorem passN {X : Cx} : Passes (L2N.CX X.prog X.w) X E0 := fun _ _ _ _ _ _ _ q => by
  rcases q with ⟨_, _, _, _, _, _, _, _, _, _, _, _, f⟩
  exact False.elim f
theorem okN {P : Program} {w : World} {K : PySem.W.Frag} {mg : Str → Option Value} {base : Heap} {x qual : Str} {st : Stmt} {f : Addr} {fd : FuncData} {N ps : List Str} {k : Nat} {sp : Sp} (F : Fun K x qual st f fd) (S : FnScope N ps (defScope st)) (hlen : ∀ vs H Q E, sp vs H Q E → vs.length = ps.length)
    (hb : ∀ (cdv : Value) (A : Around) (outer : List PySem.Env) (s : Shared) (H : Hp) (vs : List V) (Q : VK) (E : XK), Room k (A.deeper (envOfC qual (defScope st) s.heap.objs.size f cdv)) → sp vs H Q E →
      ∃ t, PSs (cxOf (L2N.CX P w) P w K mg base N qual (defScope st) f cdv A outer s H E) (defBody st) t ∧ t { nx := fun _ H' => Q .non H', rt := Q } (L2.start N vs) H) : FnOk P w K mg base (L2N.CX P w) (k + 1) f fd ps sp := by
  rcases F.ex with ⟨_, _, _, _, _, _, cd, _, _, rfl, look, code⟩
  exact fn_of look code S hlen fun A outer s H vs Q E => hb cd A outer s H vs Q E

/-- an exception of the program's own, made with a text -/
def exE (mg : Str → Option Value) (E : XK) : EK := fun c ds H => ds = [] ∧ ∃ C, mg c = some (.ref C) ∧ E (.ref C) none H
abbrev Fn := List D → R (Hd × Env)
/-- O: the parameters whose lists it may change -/
def spD (K : PySem.W.Frag) (mg : Str → Option Value) (np : Nat) (O : List Nat) (g : Fn) : Sp := fun vs H Q E => vs.length = np ∧ ∃ ds P0, Sim K P0 O [] (ds.map some) (vs.map some) H ∧ ds.length = np ∧
  Res (exE mg E) O (vs.map some) H (g ds) fun a => ∀ v H', Keep O (vs.map some) H H' → Sim K P0 O [] a.2 (vs.map some) H' → HdR K P0 O H (vs.map some) H' a.1 v → Q v H'
structure Glo (P : Program) (w : World) (K : PySem.W.Frag) (mg : Str → Option Value) (base : Heap) (name : Str) (k np : Nat) (O : List Nat) (g : Fn) : Prop where
  ex : ∃ f fd ps, mg name = some (.ref f) ∧ PySem.W.keepIn K (.ref f) = true ∧ Binds K fd ps [] ∧ ps.length = np ∧ FnOk P w K mg base (L2N.CX P w) k f fd ps (spD K mg np O g)
/-- exceptions of callees reach what is wanted here -/
structure Out2 (X : Cx) (E : EK) (XE : XK) : Prop where
  pass : Passes (L2N.CX X.prog X.w) X XE
  ex : ∀ c ds H, E c ds H → exE X.mg XE c ds H
theorem Out2.blk {X : Cx} : Out2 X E00 E0 := ⟨passN, fun _ _ _ h => h.elim⟩
def pureF (g : List D → R Hd) : Fn := fun ds => do
  let h ← g ds
  pure (h, [])
section
variable {K : PySem.W.Frag} {P0 : Pr} {O W : List Nat} {ρ : Env} {σ : St} {H H' : Hp}
theorem FA_nil {τ : St} (b : Addr) : FA P0 [] τ b ↔ P0 b := ⟨fun z => z.elim id (fun ⟨_, h, _⟩ => (nomatch h)), .inl⟩
theorem Keep.nil {τ : St} (k : Keep [] τ H H') : Same H H' := fun b o e => k.keep b o e fun ⟨_, h, _⟩ => nomatch h
/-- the callee's state where no parameter is its own -/
theorem sim_args {ds : List D} {vs : List V} (hm : ∀ b, P0 b → isMut (H b)) (r : Reps K H ds P0 vs) : Sim K P0 [] [] (ds.map some) (vs.map some) H where
  sub := fun _ h => nomatch h
  len := by rw [List.length_map, List.length_map, r.length]; exact Nat.le_refl _
  dom := fun b z => hm b ((FA_nil b).mp z)
  val := fun i d e _ => by
    rw [List.getElem?_map] at e
    cases q : ds[i]? with
    | none => rw [q] at e; cases e
    | some d' =>
      rw [q] at e; cases e
      obtain ⟨v, e1, r1⟩ := r.get q
      exact ⟨v, by rw [List.getElem?_map, e1]; rfl, r1.less hm fun b z => (FA_nil b).mp z⟩
  own := fun i d e h => nomatch h
  sep := fun _ _ _ h => nomatch h
  sep0 := fun a ⟨_, h, _⟩ => nomatch h
end
section
variable {X : Cx} {P0 : Pr} {O W U : List Nat} {E : EK} {XE : XK} {a b c e : Expr} {es : List Expr} {ma mb mc : EM} {ms : AM} {pos : Pos} {k np : Nat} {name : Str}
/-- f(..), no argument's list is changed -/
def cCallF (g : List D → R Hd) (m : AM) : EM := fun ρ => do
  let (hs, ρ1) ← m ρ
  let ds ← (vsOf hs).nox
  let h ← g ds
  match h with
  | .ow _ => .stk
  | h => pure (h, ρ1)
theorem tM_callF {g : List D → R Hd} (hE : ∀ c ds H, E c ds H → exE X.mg XE c ds H) (σ : St) (H : Hp) (Q : VK) (len : ∀ σ H Q, tMs X.K P0 O W E ms σ H Q → True) (h : tM X.K P0 O W E (cCallF g ms) σ H Q) (hl : ∀ ρ hs ρ1, ms ρ = .ok (hs, ρ1) → hs.length = np) :
    tCall (spD X.K X.mg np [] (pureF g)) [] XE (tMs X.K P0 O W E ms) σ H Q := by
  obtain ⟨ρ, S, h⟩ := h
  refine ⟨ρ, S, ?_⟩
  cases em : ms ρ with
  | stk => unfold cCallF at h; rw [em] at h; exact h.elim
  | er c ds => unfold cCallF at h; rw [em] at h; exact h
  | ok p =>
    obtain ⟨hs, ρ1⟩ := p
    unfold cCallF at h
    rw [em] at h
    intro vs H1 S1 k1 r1
    obtain ⟨ds, e1, q⟩ := Res.of_nox (show Res E W σ H ((vsOf hs).nox >>= _) _ from h)
    have rr := HdRs.vs r1 e1
    have lv : vs.length = np := by
      have : ∀ {hs : List Hd} {vs : List V}, HdRs X.K P0 O H σ H1 hs vs → vs.length = hs.length := fun {hs} => by
        induction hs with
        | nil => intro vs r; have r : vs = [] := r; rw [r]; rfl
        | cons h hs ih => intro vs ⟨v, ws, e, _, r2⟩; rw [e, List.length_cons, List.length_cons, ih r2]
      rw [this r1]
      exact hl ρ hs ρ1 em
    rw [List.append_nil]
    refine ⟨lv, ds, FA P0 O σ, sim_args S1.dom rr, by rw [← rr.length]; exact lv, ?_⟩
    have q := q.keep k1
    unfold pureF
    cases eg : g ds with
    | stk => rw [eg] at q; exact q.elim
    | er c xs =>
      rw [eg] at q
      exact fun H' kp => hE c xs H' (q H' (Keep.same kp.nil))
    | ok hd =>
      rw [eg] at q
      intro v H2 k2 _ r2
      have sm := Keep.nil k2
      cases hd with
      | ow j => exact q.elim
      | fr d => exact q v H2 (S1.same sm) (k1.trans (Keep.same sm)) ⟨r2.1.less (fun b z => (S1.same sm).dom b ((FA_nil b).mp z)) fun b z => .inl z, fun m a e => Classical.byContradiction fun z => k1.some a z (r2.2 m a e)⟩
      | vl d => exact q v H2 (S1.same sm) (k1.trans (Keep.same sm)) (Rep.less (fun b z => (S1.same sm).dom b ((FA_nil b).mp z)) r2 fun b z => .inl z)
/-- the number of arguments -/
def ALen (m : AM) (n : Nat) : Prop := ∀ ρ hs ρ1, m ρ = .ok (hs, ρ1) → hs.length = n
theorem alen_nil : ALen cNil 0 := fun ρ hs ρ1 h => by cases h; rfl
theorem alen_cons {n : Nat} (h : ALen ms n) : ALen (cCons ma ms) (n + 1) := fun ρ hs ρ1 e => by
  obtain ⟨⟨h1, ρa⟩, e1, e⟩ := R.ok_of e
  obtain ⟨⟨h2, ρb⟩, e2, e⟩ := R.ok_of e
  cases e
  rw [List.length_cons, h _ _ _ e2]
theorem ce_call {g : List D → R Hd} {p : Pos} (G : Glo X.prog X.w X.K X.mg X.base name k np [] (pureF g)) (o : Out2 X E XE) (hr : Room k X.A) (ha : CA X P0 O W E (e :: es) ms) (hl : ALen ms np) (hg : Gl X name := by rfl) (hdb : (name == ("__debug__" : Str)) = false := by decide)
    (he : starEach (e :: es) X.env = (false, eval e X.env) :: starEach es X.env := by rfl) (hpl : (backTo pos (starEach es X.env)).any (·.1) = false := by rfl) : CEx X P0 O W E (.Call (.Name name p) (e :: es) [] pos) (cCallF g ms) := by
  obtain ⟨f, fd, ps, hm, hk, hb, _, F⟩ := G.ex
  exact PE.imp (pe_call F hr hg hm hk hb .nil o.pass ha hdb he hpl) fun σ H Q h => tM_callF o.ex σ H Q (fun _ _ _ _ => trivial) h hl
end
end Y

set_option Elab.async false
set_option linter.all false
set_option maxRecDepth 100000
namespace Y
open PySem PySem.Spec PyProof.Rows L2

def retH (np : Nat) : Fl → Env → R Hd
  | .nx, _ => .ok (.fr .non)
  | .rt (.ow i), ρ => if np ≤ i then (do
      let d ← (look i ρ).nox
      pure (.fr d)) else .stk
  | .rt h, _ => .ok h
  | _, _ => .stk
def outs (O : List Nat) (np : Nat) (ρ : Env) : Env := (List.range np).map fun i => if O.contains i = true then ρ.getD i none else none
def fnD (np n : Nat) (O : List Nat) (m : SM) : Fn := fun ds => do
  let (f, ρ) ← m (ds.map some ++ List.replicate (n - np) none)
  let h ← (retH np f ρ).nox
  pure (h, outs O np ρ)
section
variable {K : PySem.W.Frag} {mg : Str → Option Value} {P0 : Pr} {O Oc W U : List Nat} {ρ : Env} {σ : St} {H H' : Hp} {d : D} {v : V} {np n : Nat}
theorem RepO.less {P P' : Pr} (hm : ∀ b, P b → isMut (H b)) (h : RepO K H d P v) (hp : ∀ b, P' b → P b) : RepO K H d P' v := h.mono hm (fun _ _ e _ => e) (fun b z => .inl (hp b z)) fun _ _ _ e => e
/-- an own slot's object, told on -/
theorem RepO.rep {P P' : Pr} (hm : ∀ b, P b → isMut (H b)) (h : RepO K H d P v) (hp : ∀ b, P' b → P b) (ha : ∀ a, v = .ref a → ¬ P' a ∧ P a) : Rep K H d P' v := by
  cases d with
  | lst ds =>
    obtain ⟨a, vs, rfl, h1, h2⟩ := h
    unfold Rep
    exact ⟨a, vs, rfl, (ha a rfl).1, h1, h2.less hm fun b z => z.elim (hp b) fun z => by rw [z]; exact (ha a rfl).2⟩
  | dik ks ds =>
    obtain ⟨a, vs, rfl, hl, h1, h2⟩ := h
    unfold Rep
    exact ⟨a, vs, rfl, (ha a rfl).1, hl, .inl h1, h2.less hm fun b z => z.elim (hp b) fun z => by rw [z]; exact (ha a rfl).2⟩
  | dit ks ds =>
    obtain ⟨a, vs, rfl, hl, h1, h2⟩ := h
    unfold Rep
    exact ⟨a, vs, rfl, (ha a rfl).1, hl, .inl h1, h2.less hm fun b z => z.elim (hp b) fun z => by rw [z]; exact (ha a rfl).2⟩
  | non => unfold Rep; exact h
  | bl _ => unfold Rep; exact h
  | int _ => unfold Rep; exact h
  | str _ => unfold Rep; exact h
  | tup _ => exact False.elim h
  | arg _ => exact False.elim h
  | ftu _ => exact False.elim h
  | tab p q =>
    obtain ⟨a, rfl, ht⟩ := h
    unfold Rep
    exact ⟨a, rfl, (ha a rfl).1, ht⟩
theorem start_get {N : List Str} {vs : List V} {i : Nat} {v : V} (h : (L2.start N vs)[i]? = some (some v)) : vs[i]? = some v := by
  unfold L2.start at h
  by_cases hi : i < vs.length
  · rw [List.getElem?_append_left (by simpa using hi), List.getElem?_map] at h
    cases e : vs[i]? with
    | none => rw [e] at h; cases h
    | some a => rw [e] at h; cases h; rfl
  · rw [List.getElem?_append_right (by simpa using hi), List.getElem?_replicate] at h
    split at h <;> cases h
theorem start_of {N : List Str} {vs : List V} {i : Nat} {v : V} (h : vs[i]? = some v) : (L2.start N vs)[i]? = some (some v) := by
  unfold L2.start
  have hi : i < vs.length := (List.getElem?_eq_some_iff.mp h).1
  rw [List.getElem?_append_left (by simpa using hi), List.getElem?_map, h]
  rfl
theorem env_get {ds : List D} {k i : Nat} {d : D} (h : (ds.map some ++ List.replicate k none)[i]? = some (some d)) : ds[i]? = some d := by
  by_cases hi : i < ds.length
  · rw [List.getElem?_append_left (by simpa using hi), List.getElem?_map] at h
    cases e : ds[i]? with
    | none => rw [e] at h; cases h
    | some a => rw [e] at h; cases h; rfl
  · rw [List.getElem?_append_right (by simpa using hi), List.getElem?_replicate] at h
    split at h <;> cases h
theorem map_get {α : Type} {ds : List α} {i : Nat} {d : α} : (ds.map some)[i]? = some (some d) ↔ ds[i]? = some d := by
  rw [List.getElem?_map]
  cases ds[i]? <;> simp
theorem OA_start {N : List Str} {vs : List V} (hO : ∀ i, i ∈ O ↔ i ∈ Oc ∧ i < np) (hl : vs.length = np) (b : Addr) : OA Oc (L2.start N vs) b ↔ OA O (vs.map some) b := by
  constructor
  · rintro ⟨i, hi, e⟩
    have e := start_get e
    exact ⟨i, (hO i).mpr ⟨hi, by rw [← hl]; exact (List.getElem?_eq_some_iff.mp e).1⟩, map_get.mpr e⟩
  · rintro ⟨i, hi, e⟩
    exact ⟨i, ((hO i).mp hi).1, start_of (map_get.mp e)⟩
theorem sim_start {N : List Str} {ds : List D} {vs : List V} (S : Sim K P0 O [] (ds.map some) (vs.map some) H) (hO : ∀ i, i ∈ O ↔ i ∈ Oc ∧ i < np) (hW : ∀ i ∈ W, i ∈ Oc) (hl : vs.length = np) (hd : ds.length = np) (hn : N.length = n) : Sim K P0 Oc W (ds.map some ++ List.replicate (n - np) none) (L2.start N vs) H := by
  have fa : ∀ b, FA P0 Oc (L2.start N vs) b → FA P0 O (vs.map some) b := fun b z => z.imp id (OA_start hO hl b).mp
  refine ⟨hW, by unfold L2.start; simp; omega, fun b z => S.dom b (fa b z), fun i d e n => ?_, fun i d e n => ?_, fun i j a hi hj e1 e2 => ?_, fun a z => S.sep0 a ((OA_start hO hl a).mp z)⟩
  · obtain ⟨v, h1, h2⟩ := S.val i d (map_get.mpr (env_get e)) fun z => n ((hO i).mp z).1
    exact ⟨v, start_of (map_get.mp h1), h2.less S.dom fa⟩
  · have e := env_get e
    have hi : i < np := by rw [← hd]; exact (List.getElem?_eq_some_iff.mp e).1
    obtain ⟨v, h1, h2⟩ := S.own i d (map_get.mpr e) ((hO i).mpr ⟨n, hi⟩)
    exact ⟨v, start_of (map_get.mp h1), h2.less S.dom fa⟩
  · have e1 := start_get e1
    have e2 := start_get e2
    have l1 : i < np := by rw [← hl]; exact (List.getElem?_eq_some_iff.mp e1).1
    have l2 : j < np := by rw [← hl]; exact (List.getElem?_eq_some_iff.mp e2).1
    exact S.sep i j a ((hO i).mpr ⟨hi, l1⟩) ((hO j).mpr ⟨hj, l2⟩) (map_get.mpr e1) (map_get.mpr e2)
theorem outs_get {i : Nat} (h : (outs O np ρ)[i]? = some (some d)) : i ∈ O ∧ i < np ∧ ρ[i]? = some (some d) := by
  unfold outs at h
  rw [List.getElem?_map] at h
  cases e : (List.range np)[i]? with
  | none => rw [e] at h; cases h
  | some j =>
    rw [e] at h
    have hi := (List.getElem?_eq_some_iff.mp e).1
    have hj : j = i := by
      obtain ⟨h1, h2⟩ := List.getElem?_eq_some_iff.mp e
      simpa using h2.symm
    subst hj
    simp only [Option.map_some, Option.some.injEq] at h
    split at h
    · rename_i c
      refine ⟨by simpa using c, by simpa using hi, ?_⟩
      rw [List.getD_eq_getElem?_getD] at h
      cases q : ρ[j]? with
      | none => rw [q] at h; cases h
      | some o => rw [q] at h; simp at h; rw [h]
    · cases h
/-- THE RULE for a def -/
theorem fnD_ok {P : Program} {w : World} {base : Heap} {x qual : Str} {st : Stmt} {f : Addr} {fd : FuncData} {N ps : List Str} {k : Nat} {m : SM} (F : Fun K x qual st f fd) (S : FnScope N ps (defScope st)) (hp : ps.length = np) (hn : N.length = n) (hO : ∀ i, i ∈ O ↔ i ∈ Oc ∧ i < np) (hW : ∀ i ∈ W, i ∈ Oc) (hU : ∀ i ∈ O, i ∈ U)
    (hb : ∀ (cdv : Value) (A : Around) (outer : List PySem.Env) (s : Shared) (H : Hp) (E : XK) (P0 : Pr), Room k (A.deeper (envOfC qual (defScope st) s.heap.objs.size f cdv)) → CSs (cxOf (L2N.CX P w) P w K mg base N qual (defScope st) f cdv A outer s H E) P0 Oc W U (exE mg E) (defBody st) m) :
    FnOk P w K mg base (L2N.CX P w) (k + 1) f fd ps (spD K mg np O (fnD np n O m)) := by
  refine okN F S (fun vs H Q E h => by rw [h.1, hp]) fun cdv A outer s H vs Q E hr h => ?_
  obtain ⟨hl, ds, P0, S0, hd, h⟩ := h
  refine ⟨_, hb cdv A outer s H E P0 hr, _, sim_start S0 hO hW hl hd hn, ?_⟩
  have oa := fun b => OA_start (N := N) hO hl b
  have kO : ∀ {H'}, Keep Oc (L2.start N vs) H H' → Keep O (vs.map some) H H' := fun {H'} k => ⟨fun b o e nn => k.keep b o e fun z => nn ((oa b).mp z), k.some⟩
  unfold fnD at h
  cases em : m (ds.map some ++ List.replicate (n - np) none) with
  | stk => rw [em] at h; exact h.elim
  | er c xs => rw [em] at h; exact fun H' kp => h H' (kO kp)
  | ok p =>
    obtain ⟨fl, ρ1⟩ := p
    rw [em] at h
    obtain ⟨hh, e1, h⟩ := Res.of_nox (show Res (exE mg E) O (vs.map some) H ((retH np fl ρ1).nox >>= _) _ from h)
    intro σ' H' S' t' l'
    have h : ∀ v H', Keep O (vs.map some) H H' → Sim K P0 O [] (outs O np ρ1) (vs.map some) H' → HdR K P0 O H (vs.map some) H' hh v → Q v H' := h
    have un : ∀ i ∈ O, σ'[i]? = (L2.start N vs)[i]? := fun i hi => t'.unch i (hU i hi)
    have pre : ∀ {i : Nat} {v : V}, i ∈ O → (σ'[i]? = some (some v) ↔ (vs.map some)[i]? = some (some v)) := fun {i v} hi => by
      rw [un i hi]
      exact ⟨fun e => map_get.mpr (start_get e), fun e => start_of (map_get.mp e)⟩
    have oO : ∀ b, OA O (vs.map some) b → OA Oc σ' b := fun b ⟨i, hi, e⟩ => ⟨i, ((hO i).mp hi).1, (pre hi).mpr e⟩
    have fa : ∀ b, FA P0 O (vs.map some) b → FA P0 Oc σ' b := fun b z => z.imp id (oO b)
    have kk : Keep O (vs.map some) H H' := ⟨fun b o e nn => t'.keep b o e fun z => nn ((oa b).mp z), t'.some⟩
    have so : Sim K P0 O [] (outs O np ρ1) (vs.map some) H' := by
      refine ⟨fun _ z => (nomatch z), by unfold outs; simp [hl], fun b z => S'.dom b (fa b z), fun i d e nn => absurd (outs_get e).1 nn, fun i d e hi => ?_, S0.sep, S0.sep0⟩
      obtain ⟨_, _, e2⟩ := outs_get e
      obtain ⟨v, h1, h2⟩ := S'.own i d e2 ((hO i).mp hi).1
      exact ⟨v, (pre hi).mp h1, h2.less S'.dom fa⟩
    cases fl with
    | bk => cases e1
    | ct => cases e1
    | nx => cases e1; exact h .non H' kk so ⟨by unfold Rep; rfl, fun z => by cases z⟩
    | rt hd' =>
      intro v r
      cases hd' with
      | fr d => cases e1; exact h v H' kk so ⟨r.1.less S'.dom fa, r.2⟩
      | vl d => cases e1; exact h v H' kk so (Rep.less S'.dom r fa)
      | ow i =>
        have e1 : (if np ≤ i then (do
          let d ← (look i ρ1).nox
          pure (Hd.fr d)) else .stk) = R.ok hh := e1
        by_cases hi : np ≤ i
        · rw [if_pos hi] at e1
          obtain ⟨d, e2, e1⟩ := R.ok_of e1
          cases e1
          have e2 := look_some (R.nox_of e2)
          obtain ⟨v', h1, h2⟩ := S'.own i d e2 r.1
          have q : σ'[i]? = some (some v) := r.2
          rw [q] at h1
          cases h1
          have no : ∀ a, v = .ref a → ¬ OA O (vs.map some) a := fun a e z => by
            obtain ⟨j, hj, ej⟩ := z
            have := S'.sep i j a r.1 ((hO j).mp hj).1 (by rw [q, e]) ((pre hj).mpr ej)
            have := ((hO j).mp hj).2
            omega
          refine h v H' kk so ⟨h2.rep S'.dom fa fun a e => ⟨fun z => ?_, .inr ⟨i, r.1, by rw [q, e]⟩⟩, fun _ a e => ?_⟩
          · rcases z with z | z
            · exact S'.sep0 a ⟨i, r.1, by rw [q, e]⟩ z
            · exact no a e z
          · rcases t'.own a ⟨i, r.1, by rw [q, e]⟩ with z | z
            · exact absurd ((oa a).mp z) (no a e)
            · exact z
        · rw [if_neg hi] at e1
          cases e1
end
end Y

set_option Elab.async false
set_option linter.all false
set_option maxRecDepth 100000
namespace Y
open PySem PySem.Spec PyProof.Rows L2

def placed (pr : List (Nat × Nat)) : Nat → List Hd → Bool
  | _, [] => true
  | j, .ow i :: hs => pr.contains (j, i) && placed pr (j + 1) hs
  | j, _ :: hs => (!pr.any fun p => p.1 == j) && placed pr (j + 1) hs
def putOuts (os : Env) : List (Nat × Nat) → Env → Env
  | [], ρ => ρ
  | (j, i) :: pr, ρ => (putOuts os pr ρ).set i (os.getD j none)
def cCallIO (pr : List (Nat × Nat)) (g : Fn) (m : AM) : EM := fun ρ => do
  let (hs, ρ1) ← m ρ
  if placed pr 0 hs = true then do
    let ds ← (dsOf hs ρ1).nox
    let (h, os) ← g ds
    match h with
    | .ow _ => .stk
    | h => pure (h, putOuts os pr ρ1)
  else .stk
section
variable {K : PySem.W.Frag} {P0 : Pr} {O Oc W : List Nat} {ρ : Env} {σ : St} {Hs H H' : Hp} {pr : List (Nat × Nat)} {os : Env}
theorem putOuts_len : ∀ pr : List (Nat × Nat), (putOuts os pr ρ).length = ρ.length
  | [] => rfl
  | (j, i) :: pr => by unfold putOuts; rw [List.length_set, putOuts_len pr]
theorem putOuts_ne {x : Nat} : ∀ {pr : List (Nat × Nat)}, x ∉ pr.map (·.2) → (putOuts os pr ρ)[x]? = ρ[x]?
  | [], _ => rfl
  | (j, i) :: pr, h => by
    simp only [List.map_cons, List.mem_cons, not_or] at h
    unfold putOuts
    rw [List.getElem?_set_ne fun z => h.1 z.symm, putOuts_ne h.2]
theorem putOuts_at {j i : Nat} {d : D} : ∀ {pr : List (Nat × Nat)}, (pr.map (·.2)).Nodup → (j, i) ∈ pr → (putOuts os pr ρ)[i]? = some (some d) → os[j]? = some (some d)
  | [], _, h, _ => nomatch h
  | (j', i') :: pr, nd, h, e => by
    simp only [List.map_cons, List.nodup_cons] at nd
    unfold putOuts at e
    rcases List.mem_cons.mp h with z | z
    · cases z
      have hl : i < (putOuts os pr ρ).length := by
        have := (List.getElem?_eq_some_iff.mp e).1
        simpa using this
      rw [List.getElem?_set_self hl, List.getD_eq_getElem?_getD] at e
      cases q : os[j]? with
      | none => rw [q] at e; cases e
      | some o => rw [q] at e; simp at e; rw [e]
    · have hi : i' ≠ i := fun y => nd.1 (by rw [y]; exact List.mem_map.mpr ⟨_, z, rfl⟩)
      rw [List.getElem?_set_ne hi] at e
      exact putOuts_at nd.2 z e
theorem HdRs.at : ∀ {hs : List Hd} {vs : List V} {j : Nat} {v : V}, HdRs K P0 O Hs σ H hs vs → vs[j]? = some v → ∃ h, hs[j]? = some h ∧ HdR K P0 O Hs σ H h v
  | [], _, _, _, r, e => by have r : _ = [] := r; rw [r] at e; simp at e
  | h :: hs, _, 0, v, ⟨w, ws, e0, r1, _⟩, e => by subst e0; simp at e; subst e; exact ⟨h, rfl, r1⟩
  | h :: hs, _, j + 1, v, ⟨w, ws, e0, _, r2⟩, e => by subst e0; simpa using HdRs.at r2 (by simpa using e)
theorem HdRs.len : ∀ {hs : List Hd} {vs : List V}, HdRs K P0 O Hs σ H hs vs → vs.length = hs.length
  | [], _, r => by have r : _ = [] := r; rw [r]; rfl
  | h :: hs, _, ⟨w, ws, e0, _, r2⟩ => by subst e0; rw [List.length_cons, List.length_cons, HdRs.len r2]
theorem dsOf_at : ∀ {hs : List Hd} {ds : List D}, dsOf hs ρ = .ok ds → ds.length = hs.length ∧ ∀ (j : Nat) h d, hs[j]? = some h → ds[j]? = some d → h.d ρ = .ok d
  | [], _, e => by cases e; exact ⟨rfl, fun j h d e => by simp at e⟩
  | h :: hs, _, e => by
    obtain ⟨d, e1, e⟩ := R.ok_of e
    obtain ⟨ds, e2, e⟩ := R.ok_of e
    cases e
    obtain ⟨l, g⟩ := dsOf_at e2
    refine ⟨by rw [List.length_cons, List.length_cons, l], fun j h' d' a b => ?_⟩
    cases j with
    | zero => simp at a b; subst a b; exact R.nox_of e1
    | succ j => exact g j h' d' (by simpa using a) (by simpa using b)
theorem placed_at : ∀ {hs : List Hd} {k : Nat}, placed pr k hs = true → ∀ (j : Nat) h, hs[j]? = some h → (∃ i, h = .ow i ∧ (k + j, i) ∈ pr) ∨ ((∀ i, h ≠ .ow i) ∧ (k + j) ∉ pr.map (·.1))
  | [], _, _, j, h, e => by simp at e
  | h0 :: hs, k, p, j, h, e => by
    cases j with
    | zero =>
      simp at e; subst e
      cases h0 with
      | ow i =>
        unfold placed at p
        rw [Bool.and_eq_true] at p
        exact .inl ⟨i, rfl, by simpa using p.1⟩
      | fr d =>
        unfold placed at p
        rw [Bool.and_eq_true] at p
        refine .inr ⟨fun i z => (by cases z), fun z => ?_⟩
        obtain ⟨q, hq, e⟩ := List.mem_map.mp z
        have := p.1
        simp only [Bool.not_eq_true', List.any_eq_false] at this
        exact this q hq (by simpa using e)
      | vl d =>
        unfold placed at p
        rw [Bool.and_eq_true] at p
        refine .inr ⟨fun i z => (by cases z), fun z => ?_⟩
        obtain ⟨q, hq, e⟩ := List.mem_map.mp z
        have := p.1
        simp only [Bool.not_eq_true', List.any_eq_false] at this
        exact this q hq (by simpa using e)
    | succ j =>
      have p2 : placed pr (k + 1) hs = true := by
        cases h0 <;> (unfold placed at p; rw [Bool.and_eq_true] at p; exact p.2)
      have := placed_at p2 j h (by simpa using e)
      rwa [show k + 1 + j = k + (j + 1) by omega] at this
end
theorem nodup_inj {pr : List (Nat × Nat)} (hn : (pr.map (·.2)).Nodup) {j j' i : Nat} (a : (j, i) ∈ pr) (b : (j', i) ∈ pr) : j = j' := by
  induction pr with
  | nil => cases a
  | cons p pr ih =>
    simp only [List.map_cons, List.nodup_cons] at hn
    rcases List.mem_cons.mp a with a | a <;> rcases List.mem_cons.mp b with b | b
    · rw [← a] at b; cases b; rfl
    · exact absurd (List.mem_map.mpr ⟨_, b, by rw [← a]⟩) hn.1
    · exact absurd (List.mem_map.mpr ⟨_, a, by rw [← b]⟩) hn.1
    · exact ih hn.2 a b
theorem nodup_inj1 {pr : List (Nat × Nat)} (hn : (pr.map (·.1)).Nodup) {j i i' : Nat} (a : (j, i) ∈ pr) (b : (j, i') ∈ pr) : i = i' := by
  induction pr with
  | nil => cases a
  | cons p pr ih =>
    simp only [List.map_cons, List.nodup_cons] at hn
    rcases List.mem_cons.mp a with a | a <;> rcases List.mem_cons.mp b with b | b
    · rw [← a] at b; cases b; rfl
    · exact absurd (List.mem_map.mpr ⟨_, b, by rw [← a]⟩) hn.1
    · exact absurd (List.mem_map.mpr ⟨_, a, by rw [← b]⟩) hn.1
    · exact ih hn.2 a b
section
variable {X : Cx} {P0 : Pr} {O Oc W U : List Nat} {E : EK} {XE : XK} {a b c e : Expr} {es : List Expr} {ma mb mc : EM} {ms : AM} {pos : Pos} {k np : Nat} {name : Str} {pr : List (Nat × Nat)}
theorem tM_callIO {g : Fn} (hE : ∀ c ds H, E c ds H → exE X.mg XE c ds H) (hO : O = pr.map (·.1)) (hn : (pr.map (·.2)).Nodup) (hn1 : (pr.map (·.1)).Nodup) (hw : ∀ p ∈ pr, p.2 ∈ W) (hl : ALen ms np) (σ : St) (H : Hp) (Q : VK) (h : tM X.K P0 Oc W E (cCallIO pr g ms) σ H Q) :
    tCall (spD X.K X.mg np O g) [] XE (tMs X.K P0 Oc W E ms) σ H Q := by
  obtain ⟨ρ, S, h⟩ := h
  refine ⟨ρ, S, ?_⟩
  cases em : ms ρ with
  | stk => unfold cCallIO at h; rw [em] at h; exact h.elim
  | er c ds => unfold cCallIO at h; rw [em] at h; exact h
  | ok p =>
    obtain ⟨hs, ρ1⟩ := p
    unfold cCallIO at h
    rw [em] at h
    intro vs H1 S1 k1 r1
    have q : Res E W σ H (if placed pr 0 hs = true then (do
      let ds ← (dsOf hs ρ1).nox
      let (h, os) ← g ds
      match h with
      | .ow _ => .stk
      | h => pure (h, putOuts os pr ρ1)) else .stk) _ := h
    have hp : placed pr 0 hs = true := by
      cases hp : placed pr 0 hs with
      | true => rfl
      | false => rw [hp] at q; exact q.elim
    rw [if_pos hp] at q
    obtain ⟨ds, e1, q⟩ := q.of_nox
    have pl := placed_at hp
    simp only [Nat.zero_add] at pl
    obtain ⟨dl, dg⟩ := dsOf_at e1
    have lv : vs.length = np := by rw [HdRs.len r1]; exact hl ρ hs ρ1 em
    have ld : ds.length = np := by rw [dl]; exact hl ρ hs ρ1 em
    rw [List.append_nil]
    -- the callee's own objects are own here
    have own : ∀ {j : Nat} {v : V}, j ∈ O → (vs.map some)[j]? = some (some v) → ∃ i, (j, i) ∈ pr ∧ i ∈ Oc ∧ i ∈ W ∧ σ[i]? = some (some v) ∧ hs[j]? = some (.ow i) := fun {j v} hj e => by
      obtain ⟨h, e2, r⟩ := HdRs.at r1 (map_get.mp e)
      rcases pl j h e2 with ⟨i, rfl, hi⟩ | ⟨_, hn'⟩
      · exact ⟨i, hi, r.1, hw _ hi, r.2, e2⟩
      · rw [hO] at hj; exact absurd hj hn'
    have oa : ∀ b, OA O (vs.map some) b → OA W σ b := fun b ⟨j, hj, e⟩ => let ⟨i, _, _, h2, h3, _⟩ := own hj e; ⟨i, h2, h3⟩
    have oaO : ∀ b, OA O (vs.map some) b → OA Oc σ b := fun b z => S1.oaw (oa b z)
    generalize hP1 : (fun b => FA P0 Oc σ b ∧ ¬ OA O (vs.map some) b : Pr) = P1
    have fa1 : ∀ b, FA P1 O (vs.map some) b → FA P0 Oc σ b := fun b z => by
      subst hP1
      rcases z with z | z
      · exact z.1
      · exact .inr (oaO b z)
    have fa2 : ∀ b, FA P0 Oc σ b → FA P1 O (vs.map some) b := fun b z => by
      subst hP1
      by_cases y : OA O (vs.map some) b
      · exact .inr y
      · exact .inl ⟨z, y⟩
    have S2 : Sim X.K P1 O [] (ds.map some) (vs.map some) H1 := by
      refine ⟨fun _ z => (nomatch z), by simp [lv, ld], fun b z => S1.dom b (fa1 b z), fun j d e nj => ?_, fun j d e hj => ?_, fun x y a hx hy e1 e2 => ?_, fun a z y => by subst hP1; exact y.2 z⟩
      · have e := map_get.mp e
        have hj : j < vs.length := by rw [lv, ← ld]; exact (List.getElem?_eq_some_iff.mp e).1
        have ev : vs[j]? = some vs[j] := List.getElem?_eq_getElem hj
        obtain ⟨h, e2, r⟩ := HdRs.at r1 ev
        refine ⟨vs[j], map_get.mpr ev, ?_⟩
        have hd := dg j h d e2 e
        rcases pl j h e2 with ⟨i, rfl, hi⟩ | ⟨hne, _⟩
        · exact absurd (by rw [hO]; exact List.mem_map.mpr ⟨_, hi, rfl⟩) nj
        · cases h with
          | fr d' => cases hd; exact r.1.less S1.dom fa1
          | vl d' => cases hd; exact Rep.less S1.dom r fa1
          | ow i => exact absurd rfl (hne i)
      · have e := map_get.mp e
        have hj' : j < vs.length := by rw [lv, ← ld]; exact (List.getElem?_eq_some_iff.mp e).1
        have ev : (vs.map some)[j]? = some (some vs[j]) := map_get.mpr (List.getElem?_eq_getElem hj')
        obtain ⟨i, h1, h2, h3, h4, h5⟩ := own hj ev
        have hd := look_some (dg j _ d h5 e)
        obtain ⟨w, h6, h7⟩ := S1.own i d hd h2
        rw [h4] at h6; cases h6
        exact ⟨_, ev, h7.less S1.dom fa1⟩
      · obtain ⟨i1, a1, b1, c1, d1, f1⟩ := own hx e1
        obtain ⟨i2, a2, b2, c2, d2, f2⟩ := own hy e2
        have ei := S1.sep i1 i2 a b1 b2 d1 d2
        subst ei
        have := nodup_inj hn a1 a2
        exact this
    refine ⟨lv, ds, P1, S2, ld, ?_⟩
    have q := q.keep k1
    cases eg : g ds with
    | stk => rw [eg] at q; exact q.elim
    | er c xs =>
      rw [eg] at q
      exact fun H' kp => hE c xs H' (q H' ⟨fun b o e n => kp.keep b o e fun z => n (oa b z), kp.some⟩)
    | ok p =>
      obtain ⟨hd, os⟩ := p
      rw [eg] at q
      intro v H2 k2 S3 r2
      have S3 : Sim X.K P1 O [] os (vs.map some) H2 := S3
      have k3 : Keep W σ H1 H2 := ⟨fun b o e n => k2.keep b o e fun z => n (oa b z), k2.some⟩
      have slot : ∀ {j i : Nat}, (j, i) ∈ pr → i ∈ Oc := fun {j i} z => S1.sub i (hw _ z)
      have S4 : Sim X.K P0 Oc W (putOuts os pr ρ1) σ H2 := by
        refine ⟨S1.sub, by rw [putOuts_len]; exact S1.len, fun b z => S3.dom b (fa2 b z), fun i d e n => ?_, fun i d e n => ?_, S1.sep, S1.sep0⟩
        · have ni : i ∉ pr.map (·.2) := fun z => by
            obtain ⟨⟨j, i'⟩, hq, z⟩ := List.mem_map.mp z
            cases z
            exact n (slot hq)
          rw [putOuts_ne ni] at e
          obtain ⟨v, h1, h2⟩ := S1.val i d e n
          exact ⟨v, h1, h2.of_same S1.dom fun b o e n => k2.keep b o e fun z => n (.inr (oaO b z))⟩
        · by_cases ni : i ∈ pr.map (·.2)
          · obtain ⟨⟨j, i'⟩, hq, z⟩ := List.mem_map.mp ni
            cases z
            have eo := putOuts_at hn hq e
            have hj : j ∈ O := by rw [hO]; exact List.mem_map.mpr ⟨_, hq, rfl⟩
            obtain ⟨w, h1, h2⟩ := S3.own j d eo hj
            obtain ⟨i2, a2, b2, c2, d2, f2⟩ := own hj h1
            have : i2 = i' := by
              have := nodup_inj1 hn1 a2 hq
              exact this
            subst this
            exact ⟨w, d2, h2.less S3.dom fa2⟩
          · rw [putOuts_ne ni] at e
            obtain ⟨w, h1, h2⟩ := S1.own i d e n
            refine ⟨w, h1, h2.mono S1.dom (fun b o e n => k2.keep b o e fun z => n (.inr (oaO b z))) (fun _ z => .inl z) fun a o e1 e2 => k2.keep a o e2 fun ⟨j, hj, ej⟩ => ?_⟩
            subst e1
            obtain ⟨i2, a2, b2, c2, d2, f2⟩ := own hj ej
            have := S1.sep i i2 a n b2 h1 d2
            subst this
            exact ni (List.mem_map.mpr ⟨_, a2, rfl⟩)
      cases hd with
      | ow j => exact q.elim
      | fr d => exact q v H2 S4 (k1.trans k3) ⟨r2.1.less S3.dom fa2, fun m a e => Classical.byContradiction fun z => k1.some a z (r2.2 m a e)⟩
      | vl d => exact q v H2 S4 (k1.trans k3) (Rep.less S3.dom r2 fa2)
theorem ce_callIO {g : Fn} {p : Pos} (G : Glo X.prog X.w X.K X.mg X.base name k np O g) (pr : List (Nat × Nat)) (o : Out2 X E XE) (hr : Room k X.A) (ha : CA X P0 Oc W E (e :: es) ms) (hl : ALen ms np) (hO : O = pr.map (·.1) := by rfl) (hn : (pr.map (·.2)).Nodup := by decide) (hn1 : (pr.map (·.1)).Nodup := by decide) (hw : ∀ p ∈ pr, p.2 ∈ W := by decide) (hg : Gl X name := by rfl) (hdb : (name == ("__debug__" : Str)) = false := by decide)
    (he : starEach (e :: es) X.env = (false, eval e X.env) :: starEach es X.env := by rfl) (hpl : (backTo pos (starEach es X.env)).any (·.1) = false := by rfl) : CEx X P0 Oc W E (.Call (.Name name p) (e :: es) [] pos) (cCallIO pr g ms) := by
  obtain ⟨f, fd, ps, hm, hk, hb, _, F⟩ := G.ex
  exact PE.imp (pe_call F hr hg hm hk hb .nil o.pass ha hdb he hpl) fun σ H Q h => tM_callIO o.ex hO hn hn1 hw hl σ H Q h
end
end Y

set_option Elab.async false
set_option linter.all false
set_option maxRecDepth 100000
namespace Y
open PySem PySem.Spec PyProof.Rows L2

def fnP (np n : Nat) (m : SM) : List D → R Hd := fun ds => do
  let (f, ρ) ← m (ds.map some ++ List.replicate (n - np) none)
  (retH np f ρ).nox
section
variable {P : Program} {w : World} {K : PySem.W.Frag} {mg : Str → Option Value} {base : Heap} {name : Str} {k np n : Nat} {O : List Nat}
theorem Glo.imp {g g' : Fn} (G : Glo P w K mg base name k np O g) (h : ∀ vs H Q E, spD K mg np O g' vs H Q E → spD K mg np O g vs H Q E) : Glo P w K mg base name k np O g' :=
  let ⟨f, fd, ps, h1, h2, h3, h4, F⟩ := G.ex
  ⟨f, fd, ps, h1, h2, h3, h4, F.imp h⟩
theorem Glo.mono {g : Fn} {k' : Nat} (G : Glo P w K mg base name k np O g) (h : k ≤ k' := by decide) : Glo P w K mg base name k' np O g :=
  let ⟨f, fd, ps, h1, h2, h3, h4, F⟩ := G.ex
  ⟨f, fd, ps, h1, h2, h3, h4, F.mono h⟩
theorem spD_pure {m : SM} {vs : List V} {H : Hp} {Q : VK} {E : XK} : spD K mg np [] (pureF (fnP np n m)) vs H Q E → spD K mg np [] (fnD np n [] m) vs H Q E := fun ⟨hl, ds, P0, S, hd, h⟩ => ⟨hl, ds, P0, S, hd, by
  unfold pureF fnP at h
  unfold fnD
  cases em : m (ds.map some ++ List.replicate (n - np) none) with
  | stk => rw [em] at h; exact h
  | er c xs => rw [em] at h; exact h
  | ok p =>
    obtain ⟨fl, ρ⟩ := p
    rw [em] at h
    cases er : (retH np fl ρ).nox with
    | stk => exact (show Res (exE mg E) [] (vs.map some) H ((retH np fl ρ).nox >>= fun h => Y.R.ok (h, outs [] np ρ)) _ by
        rw [er]
        have h : Res (exE mg E) [] (vs.map some) H ((retH np fl ρ).nox >>= fun h => Y.R.ok (h, [])) _ := h
        rw [er] at h
        exact h)
    | er c xs => cases e2 : retH np fl ρ <;> rw [e2] at er <;> cases er
    | ok hd' =>
      refine (show Res (exE mg E) [] (vs.map some) H ((retH np fl ρ).nox >>= fun h => Y.R.ok (h, outs [] np ρ)) _ from ?_)
      have h : Res (exE mg E) [] (vs.map some) H ((retH np fl ρ).nox >>= fun h => Y.R.ok (h, [])) _ := h
      rw [er] at h ⊢
      exact fun v H' kp S' r => h v H' kp (S'.move (Nat.zero_le _) (fun _ _ => rfl) (fun _ z => nomatch z) fun i d e => by simp at e) r⟩
theorem Glo.pure {m : SM} (G : Glo P w K mg base name k np [] (fnD np n [] m)) : Glo P w K mg base name k np [] (pureF (fnP np n m)) := G.imp fun vs H Q E h => spD_pure h
/-- a def of the text -/
structure Def (K : PySem.W.Frag) (mg : Str → Option Value) (x : Str) (st : Stmt) : Prop where
  ex : ∃ f fd, mg x = some (.ref f) ∧ Fun K x x st f fd
theorem glo_mk {x : Str} {st : Stmt} {N ps : List Str} {Oc W U : List Nat} {m : SM} (F : Def K mg x st) (S : FnScope N ps (defScope st))
    (hb : ∀ (f : Addr) (cdv : Value) (A : Around) (outer : List PySem.Env) (s : Shared) (H : Hp) (E : XK) (P0 : Pr), Room k (A.deeper (envOfC x (defScope st) s.heap.objs.size f cdv)) → CSs (cxOf (L2N.CX P w) P w K mg base N x (defScope st) f cdv A outer s H E) P0 Oc W U (exE mg E) (defBody st) m)
    (bi : ∀ (kV doc pm : Value) (an : Option Addr) (cdv ct : Value) (us : List Value), us.length = ps.length → bindArgs (PySem.W.fnOf x x (defArgs st) (defBody st) (defScope st) .none kV doc pm an cdv ct) ⟨us, []⟩ = Pure.pure (ps.zip us))
    (hp : ps.length = np := by rfl) (hn : N.length = n := by rfl) (hO : O = Oc.filter (fun i => decide (i < np)) := by rfl) (hW : ∀ i ∈ W, i ∈ Oc := by decide) (hU : ∀ i ∈ O, i ∈ U := by decide) : Glo P w K mg base x (k + 1) np O (fnD np n O m) := by
  obtain ⟨f, fd, hm, F⟩ := F.ex
  exact ⟨f, fd, ps, hm, F.kp, F.binds bi, hp, fnD_ok F S hp hn (fun i => by rw [hO, List.mem_filter, decide_eq_true_eq]) hW hU fun cdv A outer s H E P0 hr => hb f cdv A outer s H E P0 hr⟩
theorem law_fn {st : Stmt} {f : Addr} {fd : FuncData} {N : List Str} {Oc W : List Nat} {m : SM} (F : Fun K "law" "law" st f fd) (S : FnScope N ["script"] (defScope st))
    (hb : ∀ (f : Addr) (cdv : Value) (A : Around) (outer : List PySem.Env) (s : Shared) (H : Hp) (E : XK) (P0 : Pr), Room k (A.deeper (envOfC "law" (defScope st) s.heap.objs.size f cdv)) → CSs (cxOf (L2N.CX P w) P w K mg base N "law" (defScope st) f cdv A outer s H E) P0 Oc W [] (exE mg E) (defBody st) m)
    (hn : N.length = n := by rfl) (hO : [] = Oc.filter (fun i => decide (i < 1)) := by rfl) (hW : ∀ i ∈ W, i ∈ Oc := by decide) : FnOk P w K mg base (L2N.CX P w) (k + 1) f fd ["script"] (spD K mg 1 [] (pureF (fnP 1 n m))) :=
  (fnD_ok (O := []) F S rfl hn (fun i => by rw [hO, List.mem_filter, decide_eq_true_eq]; exact Iff.rfl) hW (fun _ h => by simp at h) fun cdv A outer s H E P0 hr => hb f cdv A outer s H E P0 hr).imp fun vs H Q E h => spD_pure h
theorem out2_body {N : List Str} {x : Str} {sc : Scope} {f : Addr} {cdv : Value} {A : Around} {outer : List PySem.Env} {s : Shared} {H : Hp} {E : XK} : Out2 (cxOf (L2N.CX P w) P w K mg base N x sc f cdv A outer s H E) (exE mg E) E :=
  ⟨L2N.passes_call (L2N.takes_of rfl rfl rfl rfl) (fun _ _ _ _ h => h), fun c ds H h => h⟩
theorem cx_none {H : Hp} {s : Shared} {e : Value} {s' : Shared} (h : L2N.CX P w [] H s (fun _ _ _ => False) e s') : False := by
  obtain ⟨_, _, _, _, _, _, _, _, _, _, _, _, z⟩ := h
  exact z.elim
end
end Y

set_option Elab.async false
set_option linter.all false
set_option maxRecDepth 100000
namespace Y
open PySem PySem.Spec PyProof.Rows L2
def tyN : D → String
  | .non => "NoneType" | .bl _ => "bool" | .int _ => "int" | .str _ => "str" | .tup _ => "tuple" | .lst _ => "list" | .arg _ => "list" | .dik _ _ => "dict" | .dit _ _ => "dict" | .ftu _ => "tuple" | .tab _ _ => "NoneType"
def isInt : D → Bool
  | .int _ => true | .bl _ => true | _ => false
def isBl : D → Bool
  | .bl _ => true | _ => false
def isStr : D → Bool
  | .str _ => true | _ => false
def isTup : D → Bool
  | .tup _ => true | .ftu _ => true | _ => false
abbrev IsK (T : String) (f : D → Bool) : Prop := ∀ d, kitB (tyN d) T = some (f d)
theorem isk_int : IsK "int" isInt := fun d => by cases d <;> simp only [tyN, isInt] <;> decide +kernel
theorem isk_bool : IsK "bool" isBl := fun d => by cases d <;> simp only [tyN, isBl] <;> decide +kernel
theorem isk_str : IsK "str" isStr := fun d => by cases d <;> simp only [tyN, isStr] <;> decide +kernel
theorem isk_tuple : IsK "tuple" isTup := fun d => by cases d <;> simp only [tyN, isTup] <;> decide +kernel
def noDit : D → Bool
  | .dit _ _ => false | .ftu _ => false | .tab _ _ => false | _ => true
def isFt : D → Bool
  | .ftu _ => true | _ => false
theorem tyX_of {K : PySem.W.Frag} {H : Hp} {P : Pr} {d : D} {v : V} (hd : (noDit d || isFt d) = true) (h : RepW K H d P v) : TyX K H v (.type (tyN d)) := by
  cases d with
  | non => have h : Rep K H .non P v := h; unfold Rep at h; subst h; exact .base .non
  | bl b => have h : Rep K H (.bl b) P v := h; unfold Rep at h; subst h; exact .base (.bl b)
  | int i => have h : Rep K H (.int i) P v := h; unfold Rep at h; subst h; exact .base (.int i)
  | str x => have h : Rep K H (.str x) P v := h; unfold Rep at h; subst h; exact .base (.str x)
  | tup ds =>
    have h : Rep K H (.tup ds) P v := h
    unfold Rep at h
    obtain ⟨a, vs, rfl, h1, _⟩ := h
    exact .base (.tup h1)
  | lst ds =>
    obtain ⟨a, vs, rfl, h1, _⟩ := h
    exact .base (.lst h1)
  | arg ns =>
    obtain ⟨a, rfl, h1⟩ := h
    rcases h1 with (h1 | ⟨o, h1⟩) | ⟨ob, its, n, h1, h2, _⟩
    · exact .base (.lst h1)
    · exact .base (.frz h1)
    · exact .kList h1 h2
  | dik ks ds =>
    obtain ⟨a, vs, rfl, _, h1, _⟩ := h
    rcases h1 with h1 | ⟨o, h1⟩
    · exact .base (.dK h1)
    · exact .fDict h1
  | dit ks ds => cases hd
  | tab _ _ => cases hd
  | ftu ds =>
    have h : Rep K H (.ftu ds) P v := h
    unfold Rep at h
    obtain ⟨a, vs, o, rfl, h1, _⟩ := h
    exact .fTuple h1
def cIsi (f : D → Bool) (m : EM) : EM := fun ρ => do
  let (h, ρ1) ← m ρ
  let d ← (h.d ρ1).nox
  if (noDit d || isFt d) = true then pure (.fr (.bl (f d)), ρ1) else .stk
section
variable {X : Cx} {P0 : Pr} {O W : List Nat} {E : EK} {a : Expr} {ma : EM} {pos : Pos}
theorem ce_isi {T : String} {x : Str} {f : D → Bool} {p q : Pos} (hk : IsK T f) (hm : X.mg "isinstance" = none) (hm2 : X.mg x = none) (h : CEx X P0 O W E a ma) (hv : bootBuiltins "isinstance" = some (.builtin "isinstance")) (hv2 : bootBuiltins x = some (.type T))
    (hg : Gl X "isinstance" := by rfl) (hg2 : Gl X x := by rfl) (hn : x ≠ "__name__" := by decide) (hdb : (x == ("__debug__" : Str)) = false := by decide)
    (he : starEach [a, .Name x q] X.env = (false, eval a X.env) :: starEach [.Name x q] X.env := by rfl) (hpl : (backTo pos (starEach [.Name x q] X.env)).any (·.1) = false := by rfl) (he2 : starEach [.Name x q] X.env = (false, eval (.Name x q) X.env) :: starEach [] X.env := by rfl) : CEx X P0 O W E (.Call (.Name "isinstance" p) [a, .Name x q] [] pos) (cIsi f ma) :=
  PE.imp (pe_callB call_isi hg hm hv (pa_cons h (pa_cons (pe_bltn hg2 hm2 hv2 (v := .ty T) rfl hn hdb) pa_nil he2) he) (by decide) (by decide) he hpl) fun σ H Q ⟨ρ, S, h⟩ => by
    refine ⟨ρ, S, h.of_bind.mono fun ⟨hd, ρ1⟩ q v H1 S1 k1 r1 => ?_⟩
    obtain ⟨d, e1, q⟩ := q.of_nox
    by_cases c : (noDit d || isFt d) = true
    · rw [if_pos c] at q
      exact ⟨v, .ty T, _, _, f d, rfl, .ty T, tyX_of c (HdR.d S1 r1 e1), kit_ty (hk d), (out_of (K := X.K) S1 k1 q).bl⟩
    · rw [if_neg c] at q
      exact q.elim
end
end Y

set_option Elab.async false
set_option linter.all false
set_option maxRecDepth 100000
namespace Y
open PySem PySem.Spec PyProof.Rows L2
def sExpr (m : EM) : SM := fun ρ => do
  let (_, ρ1) ← m ρ
  pure (.nx, ρ1)
section
variable {K : PySem.W.Frag} {X : Cx} {P0 : Pr} {O W U : List Nat} {E : EK} {e : Expr} {ma : EM} {pos : Pos}
theorem cs_expr (h : CEx X P0 O W E e ma) (hs : swapsWith e none pos.line X.env = pure false := by rfl) : CS X P0 O W U E (.Expr e pos) (sExpr ma) := PS.imp (ps_expr h hs) fun D σ H ⟨ρ, S, h⟩ =>
  ⟨ρ, S, (h.of_bind.down S.sub).mono fun ⟨hd, ρ1⟩ q v H1 S1 k1 r1 => q σ H1 S1 (Tr.of S.sub k1) rfl⟩
/-- what the top binds -/
theorem def_mk {h : Heap} {mg : Str → Option Value} {x : Str} {st : Stmt} {f : Addr} {od an : Option Addr} {sl : Array (Option Value)} {oc kV dc pm cd ct : Value} (Z : K.In h) (G : h.Ns mainGlobals mg)
    (a : PySem.W.nsIn K mainGlobals x = some (some (.ref f))) (l : K.lookup f = some ⟨oc, od, .func (PySem.W.fnOf x x (defArgs st) (defBody st) (defScope st) .none kV dc pm an cd ct), sl⟩) (c : PySem.W.codeIn K cd x = true) (k : PySem.W.keepIn K (.ref f) = true) : Def K mg x st :=
  ⟨⟨f, _, PySem.W.mg_of Z G a, fun_mk l c k⟩⟩
end
theorem bo_len : bootBuiltins "len" = some (.builtin "len") := by decide +kernel
theorem bo_max : bootBuiltins "max" = some (.builtin "max") := by decide +kernel
theorem bo_min : bootBuiltins "min" = some (.builtin "min") := by decide +kernel
theorem bo_sum : bootBuiltins "sum" = some (.builtin "sum") := by decide +kernel
theorem bo_all : bootBuiltins "all" = some (.builtin "all") := by decide +kernel
theorem bo_isinstance : bootBuiltins "isinstance" = some (.builtin "isinstance") := by decide +kernel
theorem bo_sorted : bootBuiltins "sorted" = some (.builtin "sorted") := by decide +kernel
theorem bo_tuple : bootBuiltins "tuple" = some (.type "tuple") := by decide +kernel
theorem bo_bool : bootBuiltins "bool" = some (.type "bool") := by decide +kernel
theorem bo_str : bootBuiltins "str" = some (.type "str") := by decide +kernel
theorem bo_int : bootBuiltins "int" = some (.type "int") := by decide +kernel
theorem bo_dict : bootBuiltins "dict" = some (.type "dict") := by decide +kernel
theorem bo_set : bootBuiltins "set" = some (.type "set") := by decide +kernel
theorem _root_.L2.Room.units65 {k : Nat} {A : Around} (r : Room k A) : A.units + 65 < cLine := by have := r.un; omega
end Y

set_option Elab.async false
set_option linter.all false
set_option maxRecDepth 100000
namespace Y
open PySem PySem.Spec PyProof.Rows L2
abbrev Good (g : List D → R Hd) (n : Nat) : Prop := ∀ ns : List Int, ns.length ≤ n → (∀ z ∈ ns, Builtin.Int.intBits z ≤ 1048576) → ∃ b, g [.arg ns] = .ok b ∧ (b = .fr (.bl true) ∨ b = .vl (.bl true))
def spL (K : PySem.W.Frag) (n : Nat) : Sp := fun vs H Q E => ∃ (a : Addr) (ns : List Int), vs = [.ref a] ∧ SqL K H a (ns.map V.int) ∧ ns.length ≤ n ∧ (∀ z ∈ ns, Builtin.Int.intBits z ≤ 1048576) ∧ ∀ H', Q (.bl true) H'
theorem spL_to {K : PySem.W.Frag} {mg : Str → Option Value} {g : List D → R Hd} {n : Nat} (hg : Good g n) {vs : List V} {H : Hp} {Q : VK} {E : XK} : spL K n vs H Q E → spD K mg 1 [] (pureF g) vs H Q E := fun ⟨a, ns, e, hS, h1, h2, q⟩ => by
  subst e
  obtain ⟨b, e, hb⟩ := hg ns h1 h2
  refine ⟨rfl, [.arg ns], fun _ => False, sim_args (fun b z => z.elim) (Reps.cons ?_ Reps.nil), rfl, ?_⟩
  · unfold Rep
    refine ⟨a, rfl, ?_⟩
    rcases hS with hS | hS
    · exact .inl ⟨fun z => z, hS⟩
    · exact .inr (.inr hS)
  · unfold pureF
    rw [e]
    intro v H' _ _ r
    have : v = .bl true := by
      rcases hb with rfl | rfl
      · have r := r.1; unfold Rep at r; exact r
      · have r : Rep K H' (.bl true) (FA (fun _ => False) [] ([V.ref a].map some)) v := r; unfold Rep at r; exact r
    rw [this]
    exact q H'
/-- the law as the head wants it -/
theorem law_all {P : Program} {w : World} {K : PySem.W.Frag} {mg : Str → Option Value} {h : Heap} {fa f2 : Addr} {st : Stmt} {k n : Nat} {g : List D → R Hd} (Z : K.In h) (G : h.Ns mainGlobals mg) (hfa : mg "law" = some (.ref fa)) (hg : Good g n)
    {od an : Option Addr} {sl : Array (Option Value)} {oc kV dc pm cd ct : Value}
    (ok : ∀ (base : Heap) {f : Addr} {fd : FuncData}, Fun K "law" "law" st f fd → FnOk P w K mg base (L2N.CX P w) k f fd ["script"] (spD K mg 1 [] (pureF g)))
    (hb : ∀ (kV dc pm : Value) (an : Option Addr) (cd ct : Value) (s : Shared) (u : Value), BindsTo s (PySem.W.fnOf "law" "law" (defArgs st) (defBody st) (defScope st) .none kV dc pm an cd ct) ⟨[u], []⟩ [("script", u)])
    (a : PySem.W.nsIn K mainGlobals "law" = some (some (.ref f2))) (l : K.lookup f2 = some ⟨oc, od, .func (PySem.W.fnOf "law" "law" (defArgs st) (defBody st) (defScope st) .none kV dc pm an cd ct), sl⟩) (c : PySem.W.codeIn K cd "law" = true) (kp : PySem.W.keepIn K (.ref f2) = true) :
    ∃ fd : FuncData, (∀ (s : Shared) (u : Value), BindsTo s fd ⟨[u], []⟩ [("script", u)]) ∧ ∀ base : Heap, K.In base → base.Ns mainGlobals mg → FnOk P w K mg base (L2N.CX P w) k fa fd ["script"] (spL K n) := by
  have e := hfa.symm.trans (PySem.W.mg_of Z G a)
  cases e
  exact ⟨_, fun s u => hb kV dc pm an cd ct s u, fun base _ _ => (ok base (fun_mk l c kp)).imp fun vs H Q E h => spL_to hg h⟩
end Y

set_option Elab.async false
set_option linter.all false
set_option maxRecDepth 100000
namespace Y
open PySem PySem.Spec PyProof.Rows L2
variable {ρ : Env}
@[simp] theorem e_look {i : Nat} : look i ρ = (match ρ[i]? with | some (some d) => .ok d | _ => .stk) := id rfl
@[simp] theorem e_var {i : Nat} : cVar i ρ = ((look i ρ).nox >>= fun d => R.ok (.vl d, ρ)) := id rfl
@[simp] theorem e_own {i : Nat} : cOwn i ρ = ((look i ρ).nox >>= fun _ => R.ok (.ow i, ρ)) := id rfl
@[simp] theorem e_c {d : D} : cC d ρ = .ok (.fr d, ρ) := id rfl
@[simp] theorem e_hfr {d : D} : Hd.d (.fr d) ρ = .ok d := id rfl
@[simp] theorem e_hvl {d : D} : Hd.d (.vl d) ρ = .ok d := id rfl
@[simp] theorem e_how {i : Nat} : Hd.d (.ow i) ρ = look i ρ := id rfl
@[simp] theorem e_vfr {d : D} : Hd.v (.fr d) = .ok d := id rfl
@[simp] theorem e_vvl {d : D} : Hd.v (.vl d) = .ok d := id rfl
@[simp] theorem e_vow {i : Nat} : Hd.v (.ow i) = .stk := id rfl
@[simp] theorem e_op {f : D → D → R D} {a b : EM} : cOp f a b ρ = (a ρ >>= fun p => b p.2 >>= fun q => (p.1.d q.2).nox >>= fun x => (q.1.d q.2).nox >>= fun y => (f x y).nox >>= fun z => R.ok (.fr z, q.2)) := id rfl
@[simp] theorem e_tru {m : EM} : cTru m ρ = (m ρ >>= fun p => (p.1.d p.2).nox >>= fun d => (truD d).nox >>= fun b => R.ok (b, p.2)) := id rfl
@[simp] theorem e_bl {m : EM} : cBl m ρ = (m ρ >>= fun p => p.1.v.nox >>= fun d => match d with | .bl b => R.ok (b, p.2) | _ => .stk) := id rfl
@[simp] theorem e_notT {m : BM} : cNotT m ρ = (m ρ >>= fun p => R.ok (!p.1, p.2)) := id rfl
@[simp] theorem e_andT {a b : BM} : cAndT a b ρ = (a ρ >>= fun p => if p.1 = true then b p.2 else R.ok (false, p.2)) := id rfl
@[simp] theorem e_orT {a b : BM} : cOrT a b ρ = (a ρ >>= fun p => if p.1 = true then R.ok (true, p.2) else b p.2) := id rfl
@[simp] theorem e_if {t : BM} {a b : EM} : cIf t a b ρ = (t ρ >>= fun p => if p.1 = true then a p.2 else b p.2) := id rfl
@[simp] theorem e_nil : cNil ρ = .ok ([], ρ) := id rfl
@[simp] theorem e_cons {a : EM} {as : AM} : cCons a as ρ = (a ρ >>= fun p => as p.2 >>= fun q => R.ok (p.1 :: q.1, q.2)) := id rfl
@[simp] theorem e_vs0 : vsOf [] = .ok [] := id rfl
@[simp] theorem e_vs1 {h : Hd} {hs : List Hd} : vsOf (h :: hs) = (h.v.nox >>= fun d => vsOf hs >>= fun ds => R.ok (d :: ds)) := id rfl
@[simp] theorem e_ds0 : dsOf [] ρ = .ok [] := id rfl
@[simp] theorem e_ds1 {h : Hd} {hs : List Hd} : dsOf (h :: hs) ρ = ((h.d ρ).nox >>= fun d => dsOf hs ρ >>= fun ds => R.ok (d :: ds)) := id rfl
@[simp] theorem e_and {a b : EM} : cAnd a b ρ = (a ρ >>= fun p => (p.1.d p.2).nox >>= fun d => (truD d).nox >>= fun k => if k = true then b p.2 else R.ok (p.1, p.2)) := id rfl
@[simp] theorem e_or {a b : EM} : cOr a b ρ = (a ρ >>= fun p => (p.1.d p.2).nox >>= fun d => (truD d).nox >>= fun k => if k = true then R.ok (p.1, p.2) else b p.2) := id rfl
@[simp] theorem e_not {m : EM} : cNot m ρ = (m ρ >>= fun p => (p.1.d p.2).nox >>= fun d => (truD d).nox >>= fun k => R.ok (.fr (.bl (!k)), p.2)) := id rfl
@[simp] theorem e_neg {m : EM} : cNeg m ρ = (m ρ >>= fun p => p.1.v.nox >>= fun d => match d with | .int i => R.ok (.fr (.int (-i)), p.2) | _ => .stk) := id rfl
@[simp] theorem e_tup {m : AM} : cTup m ρ = (m ρ >>= fun p => (vsOf p.1).nox >>= fun ds => if szOk ds.length = true then R.ok (.fr (.tup ds), p.2) else .stk) := id rfl
@[simp] theorem e_lst {m : AM} : cLst m ρ = (m ρ >>= fun p => (vsOf p.1).nox >>= fun ds => if szOk ds.length = true then R.ok (.fr (.lst ds), p.2) else .stk) := id rfl
@[simp] theorem e_call {f : List D → R D} {m : AM} : cCall f m ρ = (m ρ >>= fun p => (dsOf p.1 p.2).nox >>= fun ds => (f ds).nox >>= fun z => R.ok (.fr z, p.2)) := id rfl
@[simp] theorem e_ix {a b : EM} : cIx a b ρ = (a ρ >>= fun p => b p.2 >>= fun q => (p.1.d q.2).nox >>= fun x => (q.1.d q.2).nox >>= fun y => (ixD x y).nox >>= fun z => R.ok (.vl z, q.2)) := id rfl
@[simp] theorem e_nopart : cNoPart ρ = .ok (none, ρ) := id rfl
@[simp] theorem e_part {m : EM} : cPart m ρ = (m ρ >>= fun p => p.1.v.nox >>= fun d => match d with | .int i => R.ok (some i, p.2) | _ => .stk) := id rfl
@[simp] theorem e_slice {a : EM} {lo hi : OM} : cSlice a lo hi ρ = (a ρ >>= fun p => lo p.2 >>= fun q => hi q.2 >>= fun r => (p.1.d r.2).nox >>= fun d => (sliceD d q.1 r.1).nox >>= fun z => R.ok (.fr z, r.2)) := id rfl
@[simp] theorem e_iter {m : EM} : cIter m ρ = (m ρ >>= fun p => (p.1.d p.2).nox >>= fun d => (itD d).nox >>= fun ds => if szOk ds.length = true then R.ok ((ds, p.1.ws), p.2) else .stk) := id rfl
@[simp] theorem e_range {f : List D → R (List D)} {m : AM} : cRange f m ρ = (m ρ >>= fun p => (vsOf p.1).nox >>= fun ds => (f ds).nox >>= fun xs => if szOk xs.length = true then R.ok ((xs, []), p.2) else .stk) := id rfl
@[simp] theorem e_yes : cYes ρ = .ok (true, ρ) := id rfl
@[simp] theorem e_isi {f : D → Bool} {m : EM} : cIsi f m ρ = (m ρ >>= fun p => (p.1.d p.2).nox >>= fun d => if (noDit d || isFt d) = true then R.ok (.fr (.bl (f d)), p.2) else .stk) := id rfl
@[simp] theorem e_callF {g : List D → R Hd} {m : AM} : cCallF g m ρ = (m ρ >>= fun p => (vsOf p.1).nox >>= fun ds => g ds >>= fun h => match h with | .ow _ => .stk | h => R.ok (h, p.2)) := id rfl
@[simp] theorem e_callIO {pr : List (Nat × Nat)} {g : Fn} {m : AM} : cCallIO pr g m ρ = (m ρ >>= fun p => if placed pr 0 p.1 = true then ((dsOf p.1 p.2).nox >>= fun ds => g ds >>= fun r => match r.1 with | .ow _ => .stk | h => R.ok (h, putOuts r.2 pr p.2)) else .stk) := id rfl
@[simp] theorem e_tmN {i : Nat} {d : D} : tmName i d ρ = .ok (ρ.set i (some d)) := id rfl
@[simp] theorem e_tmT {is : List Nat} {ds : List D} : tmTup is (.tup ds) ρ = if ds.length = is.length then .ok (setAll ρ is ds) else .stk := id rfl
@[simp] theorem e_sa0 {ds : List D} : setAll ρ [] ds = ρ := by unfold setAll; rfl
@[simp] theorem e_sa1 {i : Nat} {is : List Nat} {d : D} {ds : List D} : setAll ρ (i :: is) (d :: ds) = setAll (ρ.set i (some d)) is ds := id rfl
@[simp] theorem e_comp {im : IM} {tm : GM} {t : BM} {e : EM} {vs : List Nat} : cComp im tm t e vs ρ = (im ρ >>= fun p => (cCompL tm t e vs p.1.2 p.1.1 (wipeE p.2 vs)).nox >>= fun q => R.ok (.fr (.lst q.1), q.2)) := id rfl
@[simp] theorem e_skip : sSkip ρ = .ok (.nx, ρ) := id rfl
@[simp] theorem e_seq {m n : SM} : sSeq m n ρ = (m ρ >>= fun p => match p.1 with | .nx => n p.2 | f => R.ok (f, p.2)) := by
  unfold sSeq; congr
@[simp] theorem e_ret {m : EM} : sRet m ρ = (m ρ >>= fun p => R.ok (.rt p.1, p.2)) := id rfl
@[simp] theorem e_sif {t : BM} {m n : SM} : sIf t m n ρ = (t ρ >>= fun p => if p.1 = true then m p.2 else n p.2) := id rfl
@[simp] theorem e_asg {m : EM} {tm : GM} : sAsg m tm ρ = (m ρ >>= fun p => p.1.v.nox >>= fun d => (tm d p.2).nox >>= fun r => R.ok (.nx, r)) := id rfl
@[simp] theorem e_sown {O W : List Nat} {m : EM} {i : Nat} : sOwn O W m i ρ = (m ρ >>= fun p => match p.1 with | .fr d => ((chkO O W ρ p.2).nox >>= fun _ => if d.ownable = true then R.ok (.nx, p.2.set i (some d)) else .stk) | _ => .stk) := by
  unfold sOwn; congr
@[simp] theorem e_app {i : Nat} {m : EM} : sAppend i m ρ = ((lstAt i ρ).nox >>= fun _ => m ρ >>= fun p => p.1.v.nox >>= fun d => (lstAt i p.2).nox >>= fun ds => if szOk (ds.length + 1) = true then R.ok (.nx, p.2.set i (some (.lst (ds ++ [d])))) else .stk) := id rfl
@[simp] theorem e_lat {i : Nat} : lstAt i ρ = (match ρ[i]? with | some (some (.lst ds)) => .ok ds | _ => .stk) := id rfl
@[simp] theorem e_six {i : Nat} {mk mv : EM} : sSetIx i mk mv ρ = (mv ρ >>= fun p => p.1.v.nox >>= fun d => (lstAt i p.2).nox >>= fun _ => mk p.2 >>= fun q => q.1.v.nox >>= fun k => match k with | .int z => ((lstAt i q.2).nox >>= fun ds => match ixN ds.length z with | some j => R.ok (.nx, q.2.set i (some (.lst (ds.set j d)))) | none => .stk) | _ => .stk) := by
  unfold sSetIx; congr
@[simp] theorem e_expr {m : EM} : sExpr m ρ = (m ρ >>= fun p => R.ok (.nx, p.2)) := id rfl
@[simp] theorem e_for {U : List Nat} {im : IM} {tm : GM} {body : SM} {vs : List Nat} : sFor U im tm body vs ρ = (im ρ >>= fun p => if (p.1.2.all fun w => U.contains w) = true then forL tm body vs p.1.2 p.1.1 p.2 else .stk) := id rfl
@[simp] theorem e_w0 : wipeE ρ [] = ρ := id rfl
@[simp] theorem e_w1 {i : Nat} {is : List Nat} : wipeE ρ (i :: is) = (wipeE ρ is).set i none := id rfl
@[simp] theorem e_po0 {os : Env} : putOuts os [] ρ = ρ := id rfl
@[simp] theorem e_po1 {os : Env} {j i : Nat} {pr : List (Nat × Nat)} : putOuts os ((j, i) :: pr) ρ = (putOuts os pr ρ).set i (os.getD j none) := id rfl
@[simp] theorem e_pl0 {pr : List (Nat × Nat)} {j : Nat} : placed pr j [] = true := id rfl
@[simp] theorem e_pl1 {pr : List (Nat × Nat)} {j i : Nat} {hs : List Hd} : placed pr j (.ow i :: hs) = (pr.contains (j, i) && placed pr (j + 1) hs) := id rfl
@[simp] theorem e_pl2 {pr : List (Nat × Nat)} {j : Nat} {d : D} {hs : List Hd} : placed pr j (.vl d :: hs) = ((!pr.any fun p => p.1 == j) && placed pr (j + 1) hs) := id rfl
@[simp] theorem e_pl3 {pr : List (Nat × Nat)} {j : Nat} {d : D} {hs : List Hd} : placed pr j (.fr d :: hs) = ((!pr.any fun p => p.1 == j) && placed pr (j + 1) hs) := id rfl
@[simp] theorem e_rt0 {np : Nat} : retH np .nx ρ = .ok (.fr .non) := id rfl
@[simp] theorem e_rt1 {np : Nat} {d : D} : retH np (.rt (.fr d)) ρ = .ok (.fr d) := id rfl
@[simp] theorem e_rt2 {np : Nat} {d : D} : retH np (.rt (.vl d)) ρ = .ok (.vl d) := id rfl
@[simp] theorem e_rt3 {np i : Nat} : retH np (.rt (.ow i)) ρ = if np ≤ i then ((look i ρ).nox >>= fun d => R.ok (.fr d)) else .stk := id rfl
theorem e_fnP {np n : Nat} {m : SM} {ds : List D} : fnP np n m ds = (m (ds.map some ++ List.replicate (n - np) none) >>= fun p => (retH np p.1 p.2).nox) := rfl
theorem e_fnD {np n : Nat} {O : List Nat} {m : SM} {ds : List D} : fnD np n O m ds = (m (ds.map some ++ List.replicate (n - np) none) >>= fun p => (retH np p.1 p.2).nox >>= fun h => R.ok (h, outs O np p.2)) := rfl
@[simp] theorem e_outs1 {O : List Nat} : outs O 1 ρ = [if O.contains 0 = true then ρ.getD 0 none else none] := id rfl
@[simp] theorem e_outs2 {O : List Nat} : outs O 2 ρ = [if O.contains 0 = true then ρ.getD 0 none else none, if O.contains 1 = true then ρ.getD 1 none else none] := id rfl
@[simp] theorem e_outs3 {O : List Nat} : outs O 3 ρ = [if O.contains 0 = true then ρ.getD 0 none else none, if O.contains 1 = true then ρ.getD 1 none else none, if O.contains 2 = true then ρ.getD 2 none else none] := id rfl
@[simp] theorem e_outs4 {O : List Nat} : outs O 4 ρ = [if O.contains 0 = true then ρ.getD 0 none else none, if O.contains 1 = true then ρ.getD 1 none else none, if O.contains 2 = true then ρ.getD 2 none else none, if O.contains 3 = true then ρ.getD 3 none else none] := id rfl
@[simp] theorem e_outs5 {O : List Nat} : outs O 5 ρ = [if O.contains 0 = true then ρ.getD 0 none else none, if O.contains 1 = true then ρ.getD 1 none else none, if O.contains 2 = true then ρ.getD 2 none else none, if O.contains 3 = true then ρ.getD 3 none else none, if O.contains 4 = true then ρ.getD 4 none else none] := id rfl
end Y

set_option Elab.async false
set_option linter.all false
set_option maxRecDepth 100000
namespace Y
open PySem PySem.Spec PyProof.Rows L2
@[simp] theorem d_add {i j : Int} : addD (.int i) (.int j) = .ok (.int (i + j)) := id rfl
@[simp] theorem d_addT {x y : List D} : addD (.tup x) (.tup y) = if szOk (x.length + y.length) = true then .ok (.tup (x ++ y)) else .stk := id rfl
@[simp] theorem d_addL {x y : List D} : addD (.lst x) (.lst y) = if szOk (x.length + y.length) = true then .ok (.lst (x ++ y)) else .stk := id rfl
@[simp] theorem d_addS {x y : Str} : addD (.str x) (.str y) = if szOk (x.length + y.length) = true then .ok (.str (x ++ y)) else .stk := id rfl
@[simp] theorem d_sub {i j : Int} : subD (.int i) (.int j) = .ok (.int (i - j)) := id rfl
@[simp] theorem d_mul {i j : Int} : mulD (.int i) (.int j) = if mulOk i j = true then .ok (.int (i * j)) else .stk := id rfl
@[simp] theorem d_fdiv {i j : Int} : fdivD (.int i) (.int j) = if smallPos j = true then .ok (.int (i / j)) else .stk := id rfl
@[simp] theorem d_mod {i j : Int} : modD (.int i) (.int j) = if 0 < j then .ok (.int (i % j)) else .stk := id rfl
@[simp] theorem d_and {i j : Int} : andD (.int i) (.int j) = .ok (.int (Builtin.bitAnd i j)) := id rfl
@[simp] theorem d_or {i j : Int} : orD (.int i) (.int j) = .ok (.int (Builtin.bitOr i j)) := id rfl
@[simp] theorem d_xor {i j : Int} : xorD (.int i) (.int j) = .ok (.int (Builtin.bitXor i j)) := id rfl
@[simp] theorem d_lt {i j : Int} : ltD (.int i) (.int j) = .ok (.bl (decide (i < j))) := id rfl
@[simp] theorem d_gt {i j : Int} : gtD (.int i) (.int j) = .ok (.bl (decide (j < i))) := id rfl
@[simp] theorem d_ge {i j : Int} : geD (.int i) (.int j) = .ok (.bl (decide (j ≤ i))) := id rfl
@[simp] theorem d_isN {x : D} : isD x .non = .ok (.bl (isNon x)) := by cases x <;> rfl
@[simp] theorem d_isB {a b : Bool} : isD (.bl a) (.bl b) = .ok (.bl (decide (a = b))) := id rfl
@[simp] theorem d_isnN {x : D} : isNotD x .non = .ok (.bl (!isNon x)) := by cases x <;> rfl
@[simp] theorem d_isnB {a b : Bool} : isNotD (.bl a) (.bl b) = .ok (.bl (!decide (a = b))) := id rfl
@[simp] theorem d_lenT {x : List D} : lenD [.tup x] = .ok (.int x.length) := id rfl
@[simp] theorem d_lenL {x : List D} : lenD [.lst x] = .ok (.int x.length) := id rfl
@[simp] theorem d_lenA {x : List Int} : lenD [.arg x] = .ok (.int x.length) := id rfl
@[simp] theorem d_lenS {x : Str} : lenD [.str x] = if szOk x.length = true then .ok (.int x.length) else .stk := id rfl
@[simp] theorem d_max {i j : Int} : max2D [.int i, .int j] = .ok (.int (max i j)) := id rfl
@[simp] theorem d_min {i j : Int} : min2D [.int i, .int j] = .ok (.int (min i j)) := id rfl
@[simp] theorem d_tupL {x : List D} : tupleD [.lst x] = .ok (.tup x) := id rfl
@[simp] theorem d_tupT {x : List D} : tupleD [.tup x] = .ok (.tup x) := id rfl
@[simp] theorem d_intI {i : Int} : intOfD [.int i] = .ok (.int i) := id rfl
@[simp] theorem d_intB {k : Bool} : intOfD [.bl k] = .ok (.int (if k then 1 else 0)) := id rfl
@[simp] theorem d_ixT {x : List D} {i : Int} : ixD (.tup x) (.int i) = match atI x i with | some d => .ok d | none => .stk := id rfl
@[simp] theorem d_ixL {x : List D} {i : Int} : ixD (.lst x) (.int i) = match atI x i with | some d => .ok d | none => .stk := id rfl
@[simp] theorem d_ixA {x : List Int} {i : Int} : ixD (.arg x) (.int i) = match atI x i with | some n => .ok (.int n) | none => .stk := id rfl
@[simp] theorem d_slT {x : List D} {a b : Option Int} : sliceD (.tup x) a b = .ok (.tup (cutD x a b)) := id rfl
@[simp] theorem d_slL {x : List D} {a b : Option Int} : sliceD (.lst x) a b = .ok (.lst (cutD x a b)) := id rfl
@[simp] theorem d_itL {x : List D} : itD (.lst x) = .ok x := id rfl
@[simp] theorem d_itT {x : List D} : itD (.tup x) = .ok x := id rfl
@[simp] theorem d_itA {x : List Int} : itD (.arg x) = .ok (x.map D.int) := id rfl
@[simp] theorem d_rng1 {j : Int} : rng1D [.int j] = if rngOk j = true then .ok ((List.range j.toNat).map fun i => D.int (i : Nat)) else .stk := by
  show (if rngOk j = true then R.ok ((List.range j.toNat).map fun i => D.int (0 + (i : Nat))) else .stk) = _
  simp
@[simp] theorem d_truB {b : Bool} : truD (.bl b) = .ok b := id rfl
@[simp] theorem d_truN : truD .non = .ok false := id rfl
@[simp] theorem d_truI {i : Int} : truD (.int i) = .ok (i != 0) := id rfl
@[simp] theorem d_truL {x : List D} : truD (.lst x) = .ok (!x.isEmpty) := id rfl
@[simp] theorem d_truT {x : List D} : truD (.tup x) = .ok (!x.isEmpty) := id rfl
theorem ints_map : ∀ xs : List Int, intsOf (xs.map .int) = some xs
  | [] => rfl
  | x :: xs => by simp [intsOf, ints_map xs]
theorem bls_map : ∀ xs : List Bool, blsOf (xs.map .bl) = some xs
  | [] => rfl
  | x :: xs => by simp [blsOf, bls_map xs]
@[simp] theorem d_sum {xs : List Int} : sumD [.lst (xs.map .int)] = .ok (.int xs.sum) := by
  show (match intsOf (xs.map .int) with | some ns => R.ok (D.int ns.sum) | none => .stk) = _
  rw [ints_map]
@[simp] theorem d_all {xs : List Bool} : allD [.lst (xs.map .bl)] = .ok (.bl (xs.all id)) := by
  show (match blsOf (xs.map .bl) with | some ns => R.ok (D.bl (ns.all id)) | none => .stk) = _
  rw [bls_map]
@[simp] theorem d_isNon {x : D} : isNon .non = true := id rfl
theorem szOk_of {n : Nat} (h : n ≤ 16777216) : szOk n = true := decide_eq_true (show n ≤ sizeLine from by unfold sizeLine; omega)
theorem smallPos_of {j : Int} (h : 0 < j) (h2 : j < 1073741824) : smallPos j = true := decide_eq_true ⟨h, h2⟩
theorem rngOk_of {j : Int} (h : -4611686018427387904 ≤ j) (h2 : j < 4611686018427387904) : rngOk j = true := decide_eq_true ⟨by omega, by omega⟩
theorem mulOk_l {i j : Int} (h : i.natAbs < 2 ^ 64) : mulOk i j = true := by
  unfold mulOk
  rw [decide_eq_true h]
  rfl
theorem mulOk_r {i j : Int} (h : j.natAbs < 2 ^ 64) : mulOk i j = true := by
  unfold mulOk
  rw [decide_eq_true h]
  simp
@[simp] theorem sz0 : szOk 0 = true := by decide
@[simp] theorem sz1 : szOk 1 = true := by decide
@[simp] theorem sz2 : szOk 2 = true := by decide
@[simp] theorem sz3 : szOk 3 = true := by decide
theorem atI_of {α : Type} {xs : List α} {i : Int} {j : Nat} {x : α} (hi : i = j) (h : xs[j]? = some x) : atI xs i = some x := by
  have hj : j < xs.length := (List.getElem?_eq_some_iff.mp h).1
  unfold atI ixN
  subst hi
  rw [if_pos (by omega), if_pos (by omega)]
  show xs[(j : Int).toNat]? = some x
  rw [Int.toNat_natCast, h]
theorem atI_lt {α : Type} {xs : List α} {i : Int} (h0 : 0 ≤ i) (h : i < xs.length) : atI xs i = some (xs[i.toNat]'(by omega)) :=
  atI_of (j := i.toNat) (by omega) (List.getElem?_eq_getElem (by omega))
def eqPs : List D → List D → Bool
  | [], [] => true
  | x :: xs, y :: ys => eqP x y && eqPs xs ys
  | _, _ => false
theorem eqPs_py : ∀ xs ys : List D, PyData.eqvAll (toPys xs) (toPys ys) = eqPs xs ys
  | [], [] => by simp [toPys, PyData.eqvAll, eqPs]
  | [], _ :: _ => by simp [toPys, PyData.eqvAll, eqPs]
  | _ :: _, [] => by simp [toPys, PyData.eqvAll, eqPs]
  | x :: xs, y :: ys => by simp [toPys, PyData.eqvAll, eqPs, eqP, eqPs_py xs ys]
@[simp] theorem eqP_int {i j : Int} : eqP (.int i) (.int j) = (i == j) := by simp [eqP, toPy, PyData.eqv]
@[simp] theorem eqP_bl {i j : Bool} : eqP (.bl i) (.bl j) = (i == j) := by simp [eqP, toPy, PyData.eqv]
@[simp] theorem eqP_str {i j : Str} : eqP (.str i) (.str j) = (i == j) := by simp [eqP, toPy, PyData.eqv]
@[simp] theorem eqP_tup {xs ys : List D} : eqP (.tup xs) (.tup ys) = eqPs xs ys := by simp [eqP, toPy, PyData.eqv, eqPs_py]
@[simp] theorem eqP_lst {xs ys : List D} : eqP (.lst xs) (.lst ys) = eqPs xs ys := by simp [eqP, toPy, PyData.eqv, eqPs_py]
@[simp] theorem eqPs_ints : ∀ {xs ys : List Int}, eqPs (xs.map .int) (ys.map .int) = decide (xs = ys)
  | [], [] => by simp [eqPs]
  | [], _ :: _ => by simp [eqPs]
  | _ :: _, [] => by simp [eqPs]
  | x :: xs, y :: ys => by
    have ih := eqPs_ints (xs := xs) (ys := ys)
    simp only [List.map_cons, eqPs, eqP_int, ih, List.cons.injEq]
    by_cases h : x = y <;> simp [h]
/-- a depth that the machine bears; no dict; texts that it bears -/
def Fit : Nat → D → Prop
  | _, .non => True
  | _, .bl _ => True
  | _, .int _ => True
  | _, .str x => PyData.strOk x = true
  | n + 1, .tup ds => ∀ d ∈ ds, Fit n d
  | n + 1, .lst ds => ∀ d ∈ ds, Fit n d
  | n + 1, .ftu ds => ∀ d ∈ ds, Fit n d
  | _, _ => False
theorem fits_py {n : Nat} : ∀ {ds : List D}, (∀ d ∈ ds, (toPy d).canLay0 = true ∧ (toPy d).depth ≤ n) → PyData.canLayAll0 (toPys ds) = true ∧ PyData.depthAll (toPys ds) ≤ n
  | [], _ => by simp [toPys, PyData.canLayAll0, PyData.depthAll]
  | d :: ds, h => by
    have h1 := h d (by simp)
    have h2 := fits_py (ds := ds) fun e he => h e (by simp [he])
    simp only [toPys, PyData.canLayAll0, PyData.depthAll, h1.1, h2.1, Bool.and_self, true_and]
    omega
theorem fit_py : ∀ {n : Nat} {d : D}, Fit n d → (toPy d).canLay0 = true ∧ (toPy d).depth ≤ n
  | n, .non, _ => by simp [toPy, PyData.canLay0, PyData.depth]
  | n, .bl _, _ => by simp [toPy, PyData.canLay0, PyData.depth]
  | n, .int _, _ => by simp [toPy, PyData.canLay0, PyData.depth]
  | n, .str x, h => by
    have h : PyData.strOk x = true := by cases n <;> exact h
    simp [toPy, PyData.canLay0, PyData.depth, h]
  | 0, .tup ds, h => h.elim
  | 0, .lst ds, h => h.elim
  | n + 1, .tup ds, h => by
    have h : ∀ d ∈ ds, Fit n d := h
    have := fits_py fun d hd => fit_py (h d hd)
    simp only [toPy, PyData.canLay0, PyData.depth, this.1, true_and]
    omega
  | n + 1, .lst ds, h => by
    have h : ∀ d ∈ ds, Fit n d := h
    have := fits_py fun d hd => fit_py (h d hd)
    simp only [toPy, PyData.canLay0, PyData.depth, this.1, true_and]
    omega
  | 0, .ftu ds, h => h.elim
  | n + 1, .ftu ds, h => by
    have h : ∀ d ∈ ds, Fit n d := h
    have := fits_py fun d hd => fit_py (h d hd)
    simp only [toPy, PyData.canLay0, PyData.depth, this.1, true_and]
    omega
  | n, .arg _, h => by cases n <;> exact h.elim
  | n, .dik _ _, h => by cases n <;> exact h.elim
  | n, .dit _ _, h => by cases n <;> exact h.elim
  | n, .tab _ _, h => by cases n <;> exact h.elim
theorem dOk_fit {n : Nat} {d : D} (h : Fit n d) (hn : n ≤ 64 := by decide) : dOk d = true := by
  have := fit_py h
  unfold dOk SeqAt.shaped
  rw [this.1, decide_eq_true (by omega)]
  rfl
theorem fit_bl {n : Nat} {i : Bool} : Fit n (.bl i) := by cases n <;> trivial
theorem eqD_of {n : Nat} {x y : D} (hx : Fit n x) (hy : Fit n y) (hn : n ≤ 64 := by decide) : eqD x y = .ok (.bl (eqP x y)) := by
  unfold eqD
  rw [dOk_fit hx hn, dOk_fit hy hn]
  rfl
theorem neD_of {n : Nat} {x y : D} (hx : Fit n x) (hy : Fit n y) (hn : n ≤ 64 := by decide) : neD x y = .ok (.bl (!eqP x y)) := by
  unfold neD
  rw [dOk_fit hx hn, dOk_fit hy hn]
  rfl
@[simp] theorem eqD_int {i j : Int} : eqD (.int i) (.int j) = .ok (.bl (decide (i = j))) := by
  rw [eqD_of (n := 0) (by unfold Fit; trivial) (by unfold Fit; trivial), eqP_int]
  by_cases h : i = j <;> simp [h]
@[simp] theorem neD_int {i j : Int} : neD (.int i) (.int j) = .ok (.bl (!decide (i = j))) := by
  rw [neD_of (n := 0) (by unfold Fit; trivial) (by unfold Fit; trivial), eqP_int]
  by_cases h : i = j <;> simp [h]
theorem eqPs_refl : ∀ {ds : List D}, (∀ d ∈ ds, eqP d d = true) → eqPs ds ds = true
  | [], _ => rfl
  | d :: ds, h => by simp [eqPs, h d (by simp), eqPs_refl (ds := ds) fun e he => h e (by simp [he])]
theorem eqP_refl : ∀ {n : Nat} {d : D}, Fit n d → eqP d d = true
  | n, .non, _ => by simp [eqP, toPy, PyData.eqv]
  | n, .bl _, _ => by simp
  | n, .int _, _ => by simp
  | n, .str x, h => by simp
  | 0, .tup ds, h => h.elim
  | 0, .lst ds, h => h.elim
  | n + 1, .tup ds, h => by
    have h : ∀ d ∈ ds, Fit n d := h
    rw [eqP_tup]
    exact eqPs_refl fun d hd => eqP_refl (h d hd)
  | n + 1, .lst ds, h => by
    have h : ∀ d ∈ ds, Fit n d := h
    rw [eqP_lst]
    exact eqPs_refl fun d hd => eqP_refl (h d hd)
  | 0, .ftu ds, h => h.elim
  | n + 1, .ftu ds, h => by
    have h : ∀ d ∈ ds, Fit n d := h
    rw [show eqP (.ftu ds) (.ftu ds) = eqPs ds ds from eqP_tup]
    exact eqPs_refl fun d hd => eqP_refl (h d hd)
  | n, .arg _, h => by cases n <;> exact h.elim
  | n, .dik _ _, h => by cases n <;> exact h.elim
  | n, .dit _ _, h => by cases n <;> exact h.elim
  | n, .tab _ _, h => by cases n <;> exact h.elim
theorem eqD_refl {n : Nat} {x : D} (hx : Fit n x) (hn : n ≤ 64 := by decide) : eqD x x = .ok (.bl true) := by rw [eqD_of hx hx hn, eqP_refl hx]
def ChkL (O W : List Nat) : Nat → Env → Env → Prop
  | _, _, [] => True
  | j, x :: xs, y :: ys => (y = none ∨ (y = x ∧ j ∉ W) ∨ (∃ d, y = some d ∧ ((j ∈ O ∧ d.shallow = true) ∨ d.nl = true))) ∧ ChkL O W (j + 1) xs ys
  | _, [], _ :: _ => False
theorem ChkL.at {O W : List Nat} : ∀ {ρ ρ' : Env} {k j : Nat} {d : D}, ChkL O W k ρ ρ' → ρ'[j]? = some (some d) → (ρ[j]? = some (some d) ∧ k + j ∉ W) ∨ (k + j ∈ O ∧ d.shallow = true) ∨ d.nl = true
  | _, [], _, _, _, _, e => by simp at e
  | [], _ :: _, _, _, _, h, _ => h.elim
  | x :: xs, y :: ys, k, 0, d, h, e => by
    simp at e
    subst e
    rcases h.1 with h | ⟨h, w⟩ | ⟨d', h, w⟩
    · cases h
    · exact .inl ⟨by simp [h], w⟩
    · cases h; exact .inr w
  | x :: xs, y :: ys, k, j + 1, d, h, e => by
    have := ChkL.at (j := j) h.2 (by simpa using e)
    rw [show k + (j + 1) = k + 1 + j by omega]
    simpa using this
@[simp] theorem e_wsf {d : D} : Hd.ws (.fr d) = [] := id rfl
@[simp] theorem e_wsv {d : D} : Hd.ws (.vl d) = [] := id rfl
@[simp] theorem e_wso {i : Nat} : Hd.ws (.ow i) = [i] := id rfl
def shAt (i : Nat) (ρ : Y.Env) : Bool := match ρ[i]? with | some (some d) => d.shallow | _ => true
@[simp] theorem chkO_w1 {O : List Nat} {i : Nat} {ρ : Y.Env} (hi : i ∈ O) (h : shAt i ρ = true) : chkO O [i] ρ ρ = .ok () := by
  unfold chkO
  rw [if_pos]
  intro j d e
  by_cases c : j = i
  · subst c
    unfold shAt at h
    rw [e] at h
    exact .inr (.inl ⟨hi, h⟩)
  · exact .inl ⟨e, by simpa using c⟩
@[simp] theorem shL {ds : List D} : D.shallow (.lst ds) = nls ds := id rfl
@[simp] theorem nls0 : nls [] = true := by simp [nls]
@[simp] theorem nls1 {d : D} {ds : List D} : nls (d :: ds) = (d.nl && nls ds) := by simp [nls]
@[simp] theorem nlI {i : Int} : D.nl (.int i) = true := by simp [D.nl]
@[simp] theorem nlB {i : Bool} : D.nl (.bl i) = true := by simp [D.nl]
@[simp] theorem nlS {i : Str} : D.nl (.str i) = true := by simp [D.nl]
@[simp] theorem nlN : D.nl .non = true := by simp [D.nl]
@[simp] theorem nlT {ds : List D} : D.nl (.tup ds) = nls ds := by simp [D.nl]
@[simp] theorem owL {ds : List D} : D.ownable (.lst ds) = true := id rfl
theorem nls_all : ∀ {ds : List D}, (∀ d ∈ ds, d.nl = true) → nls ds = true
  | [], _ => by simp
  | d :: ds, h => by simp [h d (by simp), nls_all fun e he => h e (List.mem_cons_of_mem _ he)]
@[simp] theorem nls_ints {xs : List Int} : nls (xs.map D.int) = true := nls_all fun d h => by
  obtain ⟨x, _, rfl⟩ := List.mem_map.mp h
  simp
/-- one turn of a comprehension; of a for -/
def turnC (tm : GM) (t : BM) (e : EM) (vs : List Nat) (x : D) (ρ : Env) : R (Option D × Env) :=
  tm x ρ >>= fun ρ1 => t ρ1 >>= fun p => if p.1 = true then (e p.2 >>= fun q => q.1.v >>= fun d => R.ok (some d, wipeE q.2 vs)) else R.ok (none, wipeE p.2 vs)
def turnF (tm : GM) (body : SM) (vs : List Nat) (x : D) (ρ : Env) : R (Fl × Env) :=
  (tm x ρ).nox >>= fun ρ1 => body ρ1 >>= fun p => match p.1 with | .nx => R.ok (.nx, wipeE p.2 vs) | .ct => R.ok (.nx, wipeE p.2 vs) | f => R.ok (f, p.2)
theorem comp_cons {tm : GM} {t : BM} {e : EM} {vs ws : List Nat} {x : D} {xs ys : List D} {ρ ρ' ρf : Env} {o : Option D} (h : turnC tm t e vs x ρ = .ok (o, ρ')) (hw : ∀ w ∈ ws, ρ'[w]? = ρ[w]?) (h2 : cCompL tm t e vs ws xs ρ' = .ok (ys, ρf)) : cCompL tm t e vs ws (x :: xs) ρ = .ok (o.toList ++ ys, ρf) := by
  have ck : chk ws ρ ρ' = .ok () := by unfold chk; rw [if_pos hw]
  unfold turnC at h
  obtain ⟨ρ1, e1, h⟩ := R.ok_of h
  obtain ⟨⟨k, ρ2⟩, e3, h⟩ := R.ok_of h
  unfold cCompL
  rw [e1]
  simp only [R.bind_ok]
  rw [e3]
  cases k with
  | false =>
    have h : R.ok (none, wipeE ρ2 vs) = R.ok (o, ρ') := h
    cases h
    simp only [R.bind_ok, Bool.false_eq_true, if_false]
    rw [ck]
    exact h2
  | true =>
    have h : (e ρ2 >>= fun q => q.1.v >>= fun d => R.ok (some d, wipeE q.2 vs)) = R.ok (o, ρ') := h
    obtain ⟨⟨hd, ρ3⟩, e4, h⟩ := R.ok_of h
    obtain ⟨d, e5, h⟩ := R.ok_of h
    cases h
    simp only [R.bind_ok, if_true]
    rw [e4]
    simp only [R.bind_ok]
    rw [show hd.v = _ from e5]
    simp only [R.bind_ok]
    rw [ck]
    simp only [R.bind_ok]
    rw [h2]
    rfl
theorem for_cons {tm : GM} {body : SM} {vs ws : List Nat} {x : D} {xs : List D} {ρ ρ' : Env} {r : R (Fl × Env)} (h : turnF tm body vs x ρ = .ok (.nx, ρ')) (hw : ∀ w ∈ ws, ρ'[w]? = ρ[w]?) (h2 : forL tm body vs ws xs ρ' = r) : forL tm body vs ws (x :: xs) ρ = r := by
  have ck : chk ws ρ ρ' = .ok () := by unfold chk; rw [if_pos hw]
  unfold turnF at h
  obtain ⟨ρ1, e1, h⟩ := R.ok_of h
  obtain ⟨⟨f, ρ2⟩, e3, h⟩ := R.ok_of h
  unfold forL
  rw [e1]
  simp only [R.bind_ok]
  rw [e3]
  cases f with
  | nx =>
    have h : R.ok (Fl.nx, wipeE ρ2 vs) = R.ok (Fl.nx, ρ') := h
    cases h
    simp only [R.bind_ok]
    rw [ck]
    exact h2
  | ct =>
    have h : R.ok (Fl.nx, wipeE ρ2 vs) = R.ok (Fl.nx, ρ') := h
    cases h
    simp only [R.bind_ok]
    rw [ck]
    exact h2
  | bk => cases h
  | rt _ => cases h
section
variable {α : Type}
/-- the yields of a comprehension and the state behind it -/
def yields {S : Type} (next : S → α → S) (out : S → α → Option D) : List α → S → List D × S
  | [], s => ([], s)
  | x :: xs, s => ((out s x).toList ++ (yields next out xs (next s x)).1, (yields next out xs (next s x)).2)
/-- a comprehension that changes nothing: f is what it yields -/
theorem comp_map {tm : GM} {t : BM} {e : EM} {vs ws : List Nat} {ρ : Env} (F f : α → D) : ∀ (xs : List α),
    (∀ x ∈ xs, turnC tm t e vs (F x) ρ = .ok (some (f x), ρ)) → cCompL tm t e vs ws (xs.map F) ρ = .ok (xs.map f, ρ)
  | [], _ => rfl
  | x :: xs, h => comp_cons (h x (by simp)) (fun _ _ => rfl) (comp_map F f xs fun y hy => h y (by simp [hy]))
/-- .. with a test p, yields f -/
theorem comp_filter {tm : GM} {t : BM} {e : EM} {vs ws : List Nat} {ρ : Env} (F : α → D) (p : α → Bool) (f : α → D) : ∀ (xs : List α),
    (∀ x ∈ xs, turnC tm t e vs (F x) ρ = .ok (if p x = true then some (f x) else none, ρ)) → cCompL tm t e vs ws (xs.map F) ρ = .ok ((xs.filter p).map f, ρ)
  | [], _ => rfl
  | x :: xs, h => by
    have := comp_cons (ws := ws) (h x (by simp)) (fun _ _ => rfl) (comp_filter F p f xs fun y hy => h y (by simp [hy]))
    rw [List.map_cons, this]
    cases hp : p x with
    | false => rw [List.filter_cons_of_neg (by simp [hp])]; rfl
    | true => rw [List.filter_cons_of_pos hp]; rfl
/-- for: something that holds of what stands -/
theorem for_inv {tm : GM} {body : SM} {vs ws : List Nat} (F : α → D) (I : Env → Prop) : ∀ (xs : List α) (ρ : Env), I ρ →
    (∀ ρ x, I ρ → x ∈ xs → ∃ ρ', turnF tm body vs (F x) ρ = .ok (.nx, ρ') ∧ I ρ' ∧ (∀ w ∈ ws, ρ'[w]? = ρ[w]?)) →
    ∃ ρ', forL tm body vs ws (xs.map F) ρ = .ok (.nx, ρ') ∧ I ρ'
  | [], ρ, hs, _ => ⟨ρ, rfl, hs⟩
  | x :: xs, ρ, hs, h => by
    obtain ⟨ρ1, e1, e3, hw⟩ := h ρ x hs (by simp)
    obtain ⟨ρ', e4, h4⟩ := for_inv (body := body) (tm := tm) (ws := ws) F I xs ρ1 e3 fun s y hs hy => h s y hs (by simp [hy])
    exact ⟨ρ', for_cons e1 hw e4, h4⟩
/-- for: by the turn's number -/
theorem for_idx {tm : GM} {body : SM} {vs ws : List Nat} (F : α → D) : ∀ (xs : List α) (rho : Nat → Env),
    (∀ i (h : i < xs.length), (∀ w ∈ ws, (rho (i + 1))[w]? = (rho i)[w]?) ∧ turnF tm body vs (F xs[i]) (rho i) = .ok (.nx, rho (i + 1))) → forL tm body vs ws (xs.map F) (rho 0) = .ok (.nx, rho xs.length)
  | [], rho, _ => rfl
  | x :: xs, rho, h => by
    have h0 := h 0 (by simp)
    have ih := for_idx F xs (fun i => rho (i + 1)) fun i hi => h (i + 1) (by simp; omega)
    exact for_cons h0.2 h0.1 ih
theorem for_rng {tm : GM} {body : SM} {vs ws : List Nat} {n : Nat} (F : Nat → D) (rho : Nat → Env) (h : ∀ i, i < n → (∀ w ∈ ws, (rho (i + 1))[w]? = (rho i)[w]?) ∧ turnF tm body vs (F i) (rho i) = .ok (.nx, rho (i + 1))) : forL tm body vs ws ((List.range n).map F) (rho 0) = .ok (.nx, rho n) := by
  have := for_idx (tm := tm) (body := body) (vs := vs) (ws := ws) F (List.range n) rho fun i hi => by
    rw [List.getElem_range]
    exact h i (by simpa using hi)
  rwa [List.length_range] at this
/-- a comprehension whose turns change what stands: something of each yield -/
theorem comp_ex {S β : Type} {tm : GM} {t : BM} {e : EM} {vs ws : List Nat} (F : α → D) (G : β → D) (rho : S → Env) (P : β → Prop) : ∀ (xs : List α) (s : S),
    (∀ s x, x ∈ xs → ∃ y s', turnC tm t e vs (F x) (rho s) = .ok (some (G y), rho s') ∧ P y ∧ (∀ w ∈ ws, (rho s')[w]? = (rho s)[w]?)) →
    ∃ (ys : List β) (s' : S), cCompL tm t e vs ws (xs.map F) (rho s) = .ok (ys.map G, rho s') ∧ ys.length = xs.length ∧ ∀ y ∈ ys, P y
  | [], s, _ => ⟨[], s, rfl, rfl, by simp⟩
  | x :: xs, s, h => by
    obtain ⟨y, s1, e1, p1, w1⟩ := h s x (by simp)
    obtain ⟨ys, s2, e2, l2, p2⟩ := comp_ex F G rho P xs s1 fun s y hy => h s y (by simp [hy])
    exact ⟨y :: ys, s2, comp_cons e1 w1 e2, by simp [l2], by simpa using ⟨p1, p2⟩⟩
end
end Y

set_option Elab.async false
set_option linter.all false
set_option maxRecDepth 100000
namespace Y
open PySem PySem.Spec PyProof.Rows L2
def rgD (a b : Int) : List D := (List.range (b - a).toNat).map fun i => D.int (a + (i : Nat))
def rgB (a b : Int) : Bool := rngOk a && rngOk b && decide ((b - a).toNat ≤ 16777216)
def cRg1 (l : Bool) (m : EM) : EM := fun ρ => do
  let (h, ρ1) ← m ρ
  let d ← h.v.nox
  match d with
  | .int n => if rgB 0 n = true then pure (.fr (if l then .lst (rgD 0 n) else .tup (rgD 0 n)), ρ1) else .stk
  | _ => .stk
section
variable {K : PySem.W.Frag} {X : Cx} {P0 : Pr} {O W U : List Nat} {E : EK} {a b e : Expr} {es : List Expr} {ma mb : EM} {ms : AM} {pos : Pos}
theorem rgB_ok {a b : Int} (h : rgB a b = true) : RgOk a b := by
  unfold rgB rngOk at h
  simp only [Bool.and_eq_true, decide_eq_true_eq] at h
  obtain ⟨⟨h1, h2⟩, h3⟩ := h
  exact ⟨by omega, by omega, by omega, by omega, by have e : (2 : Nat) ^ 24 = 16777216 := by decide
                                                    omega⟩
theorem reps_rg {H : Hp} {P : Pr} {a b : Int} : Reps K H (rgD a b) P (rgV a b) := by
  unfold rgD rgV
  induction (List.range (b - a).toNat) with
  | nil => exact Reps.nil
  | cons x xs ih => exact Reps.cons (by unfold Rep; rfl) ih
theorem out_lst {P : Pr} {H : Hp} {ds : List D} {vs : List V} {Q : VK} (hm : ∀ b, P b → isMut (H b)) (o : Out K P H (.lst ds) Q) (r : ∀ H' P', Reps K H' ds P' vs) : ∀ q, H q = none → Q (.ref q) (upd H q (.lst vs)) := fun q hq => o _ _ (fun b u eb => by rw [upd_ne (ne_of_none eb hq)]; exact eb) (by
    unfold Rep
    exact ⟨q, vs, rfl, fun z => (hm q z).some hq, upd_same, r _ _⟩) fun _ a e => by cases e; exact hq
theorem out_tup {P : Pr} {H : Hp} {ds : List D} {vs : List V} {Q : VK} (o : Out K P H (.tup ds) Q) (r : ∀ H' P', Reps K H' ds P' vs) : ∀ q, H q = none → Q (.ref q) (upd H q (.tup vs)) := fun q hq => o _ _ (fun b u eb => by rw [upd_ne (ne_of_none eb hq)]; exact eb) (by
    unfold Rep
    exact ⟨q, vs, rfl, upd_same, r _ _⟩) fun m => by cases m
theorem tM_rg1 {l : Bool} (σ : St) (H : Hp) (Q : VK) (h : tM X.K P0 O W E (cRg1 l ma) σ H Q) : tRg1 (tM X.K P0 O W E ma) σ H fun a b H1 => RgOk a b ∧ ∀ q, H1 q = none → Q (.ref q) (upd H1 q (if l then .lst (rgV a b) else .tup (rgV a b))) := by
  obtain ⟨ρ, S, h⟩ := h
  refine ⟨ρ, S, h.of_bind.mono fun ⟨hd, ρ1⟩ q v H1 S1 k1 r1 => ?_⟩
  obtain ⟨d, e1, q⟩ := q.of_nox
  have rd := r1.v e1
  cases d <;> first | (exact q.elim) | skip
  rename_i n
  unfold Rep at rd
  subst rd
  refine ⟨n, rfl, ?_⟩
  by_cases c : rgB 0 n = true
  · have q : Res E W σ H (if rgB 0 n = true then R.ok (Hd.fr (if l then .lst (rgD 0 n) else .tup (rgD 0 n)), ρ1) else .stk) _ := q
    rw [if_pos c] at q
    refine ⟨rgB_ok c, ?_⟩
    have o := out_of S1 k1 q
    cases l with
    | true => exact out_lst S1.dom o fun _ _ => reps_rg
    | false => exact out_tup o fun _ _ => reps_rg
  · have q : Res E W σ H (if rgB 0 n = true then R.ok (Hd.fr (if l then .lst (rgD 0 n) else .tup (rgD 0 n)), ρ1) else .stk) _ := q
    rw [if_neg c] at q
    exact q.elim
theorem ce_lrg1 {p p2 pos : Pos} (hc : X.calm = true) (hm : X.mg "list" = none) (hm2 : X.mg "range" = none) (ha : CEx X P0 O W E a ma) (hg : Gl X "list" := by rfl) (hg2 : Gl X "range" := by rfl) (na : starEach [a] X.env = (false, eval a X.env) :: starEach [] X.env := by rfl)
    (na2 : starEach [.Call (.Name "range" p) [a] [] p2] X.env = (false, eval (.Call (.Name "range" p) [a] [] p2) X.env) :: starEach [] X.env := by rfl) {q : Pos} : CEx X P0 O W E (.Call (.Name "list" q) [.Call (.Name "range" p) [a] [] p2] [] pos) (cRg1 true ma) :=
  PE.imp (pe_listRg hc hg hm (prg_1 hg2 hm2 ha na) na2) fun σ H Q h => tM_rg1 σ H Q h
def sortI (ns : List Int) : List Int := ns.mergeSort (fun a b => decide (a ≤ b))
theorem sortI_perm (ns : List Int) : (sortI ns).Perm ns := List.mergeSort_perm _ _
theorem sortI_pw (ns : List Int) : (sortI ns).Pairwise (· ≤ ·) := by
  have := List.pairwise_mergeSort (le := fun a b : Int => decide (a ≤ b)) (fun a b c h1 h2 => by simp at *; omega) (fun a b => by simp; omega) ns
  exact this.imp fun h => by simpa using h
theorem sortI_of {ns ms : List Int} (p : ms.Perm ns) (h : ms.Pairwise (· ≤ ·)) : ms = sortI ns :=
  List.Perm.eq_of_pairwise (le := fun a b : Int => a ≤ b) (fun a b _ _ h1 h2 => by omega) h (sortI_pw ns) (p.trans (sortI_perm ns).symm)
def sortedD : List D → R D
  | [.lst ds] => match intsOf ds with | some ns => .ok (.lst ((sortI ns).map D.int)) | none => .stk
  | _ => .stk
theorem cd_sortedI : CallR X (.builtin "sorted") (rDs X.K sortedD) := by
  intro pins s σ H xs us Q I r ⟨P, ds, dz, hm, rs, e, out⟩
  unfold sortedD at e
  split at e
  · split at e
    · rename_i ns ei
      cases e
      obtain ⟨v, rfl, r1⟩ := rs.get1
      obtain ⟨a, vs, rfl, h1, h2⟩ := r1.lst
      rw [ints_rep ei h2] at h1
      exact cr_sortedI pins s σ H _ us Q I r ⟨a, ns, rfl, SqL.of h1, fun ns' p pp pw hp => by
        rw [sortI_of pp pw]
        exact out_lst hm out (fun _ _ => reps_ints _) p hp⟩
    · cases e
  · cases e
@[simp] theorem d_sortI {xs : List Int} : sortedD [.lst (xs.map D.int)] = .ok (.lst ((sortI xs).map D.int)) := by
  show (match intsOf (xs.map .int) with | some ns => R.ok (D.lst ((sortI ns).map D.int)) | none => .stk) = _
  rw [ints_map]
def cPop (i : Nat) : EM := fun ρ => do
  let ds ← (lstAt i ρ).nox
  match ds[ds.length - 1]? with
  | some d => pure (.vl d, ρ.set i (some (.lst ds.dropLast)))
  | none => .stk
theorem Keep.ownW {i : Nat} {l : Addr} {o : HO} {σ : St} {H H1 : Hp} (k : Keep W σ H H1) (hi : i ∈ W) (ha : σ[i]? = Option.some (Option.some (V.ref l))) : Keep W σ H (upd H1 l o) where
  keep := fun b u e n => by
    rw [upd_ne fun (z : b = l) => n ⟨i, hi, by rw [z]; exact ha⟩]
    exact k.keep b u e n
  some := fun b e => by
    by_cases hb : b = l
    · rw [hb, upd_same]; intro z; cases z
    · rw [upd_ne hb]; exact k.some b e
theorem Reps.drop1 {H : Hp} {P : Pr} : ∀ {ds : List D} {vs : List V}, Reps K H ds P vs → Reps K H ds.dropLast P vs.dropLast
  | [], _, h => by rw [h.nil_iff]; exact Reps.nil
  | [d], _, h => by
    obtain ⟨v, ws, rfl, h1, h2⟩ := h.cons_iff
    rw [h2.nil_iff]
    exact Reps.nil
  | d :: e :: ds, _, h => by
    obtain ⟨v, ws, rfl, h1, h2⟩ := h.cons_iff
    obtain ⟨w, us, rfl, h3, h4⟩ := h2.cons_iff
    exact Reps.cons h1 (Reps.drop1 h2)
theorem Reps.erase {H : Hp} {P : Pr} : ∀ {ds : List D} {vs : List V} (k : Nat), Reps K H ds P vs → Reps K H (ds.eraseIdx k) P (vs.eraseIdx k)
  | [], _, k, h => by rw [h.nil_iff]; simp; exact Reps.nil
  | d :: ds, _, 0, h => by
    obtain ⟨v, ws, rfl, h1, h2⟩ := h.cons_iff
    exact h2
  | d :: ds, _, k + 1, h => by
    obtain ⟨v, ws, rfl, h1, h2⟩ := h.cons_iff
    exact Reps.cons h1 (Reps.erase k h2)
theorem tM_pop {i : Nat} (hi : i ∈ O) (hw : i ∈ W) (σ : St) (H : Hp) (Q : VK) (h : tM K P0 O W E (cPop i) σ H Q) : tBM0 K "list" rPop (tVar i) σ H Q := by
  obtain ⟨ρ, S, h⟩ := h
  unfold cPop at h
  obtain ⟨ds, e0, h⟩ := h.of_nox
  obtain ⟨l, vs, h1, h2, h4⟩ := S.lst hi (lstAt_ok e0)
  refine ⟨.ref l, h1, .inl ⟨rfl, _, SqL.of h2⟩, ?_⟩
  cases ed : ds[ds.length - 1]? with
  | none => simp only [ed] at h; exact h.elim
  | some d =>
    simp only [ed] at h
    obtain ⟨y, ey, ry⟩ := h4.get ed
    refine ⟨l, vs, y, rfl, rfl, h2, by rw [h4.length]; exact ey, ?_⟩
    refine h y _ (S.lstW hi h1 h2 (Reps.drop1 h4)) ((Keep.refl (W := W) (σ := σ) (H := H)).ownW hw h1) ?_
    exact ry.mono d S.dom (fun b o e n => by rw [upd_ne fun z => n (.inr ⟨i, hi, by rw [z]; exact h1⟩)]; exact e) fun b z => .inl z
theorem ce_pop {i : Nat} {x : Str} {p ap cp : Pos} (hi : i ∈ O := by decide) (hw : i ∈ W := by decide) (hx : X.N[i]? = some x := by rfl) (hv : Vis X.env.scope x := by first | exact Or.inl rfl | exact Or.inr (Or.inl rfl) | exact Or.inr (Or.inr rfl)) (hd : (x == ("__debug__" : Str)) = false := by decide) (hcd : (x == ("__classdict__" : Str)) = false := by decide)
    (hbase : attributeBase (.Name x p) "pop" X.env (eval (.Name x p) X.env) = eval (.Name x p) X.env := by rfl) (hline : (ap.endLine == cp.line) = true := by rfl) : CEx X P0 O W E (.Call (.Attribute (.Name x p) "pop" ap) [] [] cp) (cPop i) :=
  PE.imp (pe_bm0 PySem.F.plainAttrs_list PySem.F.slot_list_pop PySem.F.type_list_pop mt_pop (pe_var (i := i) hx hv hd hcd) hbase hline) (tM_pop hi hw)
end
end Y

set_option Elab.async false
set_option linter.all false
set_option maxRecDepth 100000
set_option maxHeartbeats 4000000
namespace Y
open PySem PySem.Spec PyProof.Rows L2
def ltL : List Int → List Int → Bool
  | [], [] => false
  | [], _ :: _ => true
  | _ :: _, [] => false
  | x :: xs, y :: ys => if x = y then ltL xs ys else decide (x < y)
theorem ltL_asym : ∀ {a b : List Int}, ltL a b = true → ltL b a = false
  | [], [], h => by simp [ltL] at h
  | [], _ :: _, _ => rfl
  | _ :: _, [], h => by simp [ltL] at h
  | x :: xs, y :: ys, h => by
    unfold ltL at h ⊢
    by_cases e : x = y
    · rw [if_pos e] at h
      rw [if_pos e.symm]
      exact ltL_asym h
    · rw [if_neg e, decide_eq_true_eq] at h
      rw [if_neg fun z => e z.symm, decide_eq_false_iff_not]
      omega
theorem ltL_tr : ∀ {a b c : List Int}, ltL b a = false → ltL c b = false → ltL c a = false
  | a, b, [], h1, h2 => by
    cases b with
    | nil => exact h1
    | cons => simp [ltL] at h2
  | [], b, z :: zs, _, _ => rfl
  | x :: xs, [], z :: zs, h1, _ => by simp [ltL] at h1
  | x :: xs, y :: ys, z :: zs, h1, h2 => by
    unfold ltL at h1 h2 ⊢
    by_cases e1 : y = x
    · rw [if_pos e1] at h1
      by_cases e2 : z = y
      · rw [if_pos e2] at h2
        rw [if_pos (e2.trans e1)]
        exact ltL_tr h1 h2
      · rw [if_neg e2, decide_eq_false_iff_not] at h2
        rw [if_neg (by omega), decide_eq_false_iff_not]
        omega
    · rw [if_neg e1, decide_eq_false_iff_not] at h1
      by_cases e2 : z = y
      · rw [if_neg (by omega), decide_eq_false_iff_not]
        omega
      · rw [if_neg e2, decide_eq_false_iff_not] at h2
        rw [if_neg (by omega), decide_eq_false_iff_not]
        omega
theorem ltL_eq : ∀ {a b : List Int}, ltL a b = false → ltL b a = false → a = b
  | [], [], _, _ => rfl
  | [], _ :: _, h, _ => by simp [ltL] at h
  | _ :: _, [], _, h => by simp [ltL] at h
  | x :: xs, y :: ys, h1, h2 => by
    unfold ltL at h1 h2
    by_cases e : x = y
    · rw [if_pos e] at h1
      rw [if_pos e.symm] at h2
      rw [e, ltL_eq h1 h2]
    · rw [if_neg e, decide_eq_false_iff_not] at h1
      rw [if_neg fun z => e z.symm, decide_eq_false_iff_not] at h2
      omega
theorem ltL_swo {β : Type} (k : β → List Int) : SrtO.Swo fun v u => ltL (k v) (k u) := ⟨fun _ _ h => ltL_asym h, fun _ _ _ h1 h2 => ltL_tr h1 h2⟩
def sortL (xs : List (List Int)) : List (List Int) := xs.mergeSort fun a b => !ltL b a
theorem sortL_perm (xs : List (List Int)) : (sortL xs).Perm xs := List.mergeSort_perm _ _
theorem sortL_pw (xs : List (List Int)) : (sortL xs).Pairwise fun a b => ltL b a = false := by
  have := List.pairwise_mergeSort (le := fun a b : List Int => !ltL b a) (fun a b c h1 h2 => by
    simp only [Bool.not_eq_true'] at *
    exact ltL_tr h1 h2) (fun a b => by
    cases e : ltL b a with
    | false => rfl
    | true => simp [ltL_asym e]) xs
  exact this.imp fun h => by simpa using h
theorem sortL_of {xs ys : List (List Int)} (p : ys.Perm xs) (h : ys.Pairwise fun a b => ltL b a = false) : ys = sortL xs :=
  List.Perm.eq_of_pairwise (le := fun a b : List Int => ltL b a = false) (fun a b _ _ h1 h2 => ltL_eq h2 h1) h (sortL_pw xs) (p.trans (sortL_perm xs).symm)
def TupV (h : Heap) (v : Value) (ns : List Int) : Prop := ∃ a o its n, v = .ref a ∧ h.get? a = some o ∧ o.cls = .type "tuple" ∧ o.data = .seq its n ∧ IntsAre its.toList ns
theorem TupV.at {h g : Heap} {v : Value} {ns : List Int} (p : TupV h v ns) (k : ∀ b o, h.get? b = some o → o.cls = .type "tuple" → g.get? b = some o) : TupV g v ns :=
  let ⟨a, o, its, n, e, ho, c, d, i⟩ := p
  ⟨a, o, its, n, e, k _ _ ho c, c, d, i⟩
section
variable {prog : Program} {w : World} {A : Around} {E : Value → Shared → Prop} {s : Shared}
/-- two tuples' items in turn -/
theorem lexI {b fin : Bool} {Q : Bool → Shared → Prop} : ∀ {xs ys : List Value} {ns ms : List Int} (i : Nat), IntsAre xs ns → IntsAre ys ms → ((ns.length < ms.length ↔ fin = true) → True) →
    (∀ r, (∀ k, ns.take k = ms.take k → k = min ns.length ms.length → r = fin) → (¬ (ns.take (min ns.length ms.length) = ms.take (min ns.length ms.length)) → r = ltL ns ms) → Q r s) → PySem.W.KatLex prog w A b fin Q (xs.zip ys) i s
  | _, _, _, _, i, .nil, _, _, q => PySem.W.kat_nil (q fin (fun _ _ _ => rfl) fun z => by simp at z)
  | _, _, _, _, i, .cons n t r, .nil, _, q => PySem.W.kat_nil (q fin (fun _ _ _ => rfl) fun z => by simp at z)
  | _, _, _, _, i, .cons n t r1, .cons m u r2, _, q => by
    rw [List.zip_cons_cons]
    refine PySem.W.kat_cons (SeqAt.EqAt.int_int n t m u prog w _ _ ?_)
    refine PySem.W.kat_go (fun e1 => ?_) (fun e1 => ?_)
    · obtain rfl : n = m := by simpa using e1
      refine PySem.W.kat_yes (lexI (i + 1) r1 r2 (fun _ => trivial) fun r h1 h2 => q r (fun k hk hm => ?_) fun hn => ?_)
      · rw [List.length_cons, List.length_cons, Nat.succ_min_succ] at hm
        subst hm
        exact h1 _ (by simpa using hk) rfl
      · rw [h2 fun z => hn (by rw [List.length_cons, List.length_cons, Nat.succ_min_succ, List.take_succ_cons, List.take_succ_cons, z])]
        simp [ltL]
    · have ne : ¬ n = m := by simpa using e1
      have fin' : Q (decide (n < m)) s := q _ (fun k hk hm => by
        rw [List.length_cons, List.length_cons, Nat.succ_min_succ] at hm
        subst hm
        simp only [List.take_succ_cons, List.cons.injEq] at hk
        exact absurd hk.1 ne) fun _ => by simp [ltL, ne]
      refine PySem.W.kat_no ?_
      cases hb : (b && i == 0) with
      | true => exact oneLt_int fin'
      | false => exact PySem.W.kat_one _ _ (PyProof.Rows.lt_int fin')
theorem ltL_fin : ∀ {ns ms : List Int}, ns.take (min ns.length ms.length) = ms.take (min ns.length ms.length) → ltL ns ms = decide (ns.length < ms.length)
  | [], [], _ => rfl
  | [], _ :: _, _ => by simp [ltL]
  | _ :: _, [], _ => by simp [ltL]
  | x :: xs, y :: ys, h => by
    rw [List.length_cons, List.length_cons, Nat.succ_min_succ, List.take_succ_cons, List.take_succ_cons, List.cons.injEq] at h
    unfold ltL
    rw [if_pos h.1, ltL_fin h.2, List.length_cons, List.length_cons]
    simp
theorem tup_cmp {vs : List Value} {k : Value → List Int} {c : Bool} (hp : ∀ v ∈ vs, TupV s.heap v (k v)) : SrtO.Cmp prog w A s (tuples' c) (fun p => p.1 ∈ vs) (SrtO.lt2 fun v u => ltL (k v) (k u)) := by
  intro p q mp mq
  have g1 := hp _ mp
  have g2 := hp _ mq
  show wpAny (model prog w) A (keyLt' (tuples' c) p.1 q.1) (fun r s' => s' = s ∧ r = ltL (k p.1) (k q.1)) (fun _ _ => False) s
  generalize k p.1 = ns at g1 ⊢
  generalize k q.1 = ms at g2 ⊢
  obtain ⟨a, o, xs, n, e, ho, hc, hd, hi⟩ := g1
  obtain ⟨a', o', ys, n', e', ho', hc', hd', hi'⟩ := g2
  rw [e, e']
  refine PySem.W.kat_lt ho hd ho' hd' (lexI 0 hi hi' (fun _ => trivial) fun r h1 h2 => ⟨rfl, ?_⟩)
  by_cases z : ns.take (min ns.length ms.length) = ms.take (min ns.length ms.length)
  · rw [h1 _ z rfl, ltL_fin z, ← hi.length, ← hi'.length, Array.length_toList, Array.length_toList]
  · exact h2 z
theorem tup_firsts {h : Heap} {k : Value → List Int} : ∀ {vs : List Value}, (∀ v ∈ vs, TupV h v (k v) ∧ k v ≠ []) → ∃ fs : List Value, PySem.W.KatTups h vs fs ∧ fs.length = vs.length ∧ ∀ f ∈ fs, ∃ x t, f = Value.int x t
  | [], _ => ⟨[], trivial, rfl, fun _ z => nomatch z⟩
  | v :: vs, hp => by
    obtain ⟨fs, t1, t2, t3⟩ := tup_firsts (vs := vs) fun u hu => hp u (by simp [hu])
    obtain ⟨⟨a, o, xs, n, e, ho, hc, hd, hi⟩, ne⟩ := hp v (by simp)
    generalize k v = ns at hi ne
    obtain ⟨m, t, us, ms, e1⟩ : ∃ m t us ms, xs.toList = Value.int m t :: us ∧ ns = m :: ms := by
      generalize xs.toList = l at hi
      cases hi with
      | nil => exact absurd rfl ne
      | cons m t r => exact ⟨m, t, _, _, rfl, rfl⟩
    refine ⟨.int m t :: fs, ⟨⟨a, o, xs, n, e, ho, hc, hd, ?_⟩, t1⟩, by simp [t2], fun f hf => ?_⟩
    · rw [← Array.getElem?_toList, e1.1]
      rfl
    · rcases List.mem_cons.mp hf with rfl | hf
      · exact ⟨m, t, rfl⟩
      · exact t3 f hf
theorem tup_sortable {a : Addr} {vs : List Value} {k : Value → List Int} (h0 : 0 < vs.length) (hp : ∀ v ∈ vs, TupV s.heap v (k v) ∧ k v ≠ []) (ha : ∀ o, s.heap.get? a = some o → o.cls ≠ .type "tuple") : SrtO.SortableO prog w A s a vs fun v u => ltL (k v) (k u) := by
  intro g kp
  have hq : ∀ v ∈ vs, TupV g v (k v) ∧ k v ≠ [] := fun v hv => ⟨(hp v hv).1.at fun b o e c => kp b o (fun z => by subst z; exact ha o e c) e, (hp v hv).2⟩
  obtain ⟨fs, t1, t2, t3⟩ := tup_firsts hq
  refine ⟨tuples' true, fun Q E done => ?_, tup_cmp fun v hv => (hq v hv).1⟩
  refine PySem.W.kat_kind (T := .type "int") t1 (by omega) (fun f hf => ?_) (by rfl) ?_
  · obtain ⟨x, t, rfl⟩ := t3 f hf
    exact PySem.W.Looks.now
  · rw [show (Value.type "int" != Value.type "tuple") = true by decide +kernel]
    exact done
end
/-- sorted(xs), xs a list of tuples of whole numbers (none empty where there are two) -/
def rSortTs (K : PySem.W.Frag) : List V → Hp → VK → Prop := fun vs H Q => ∃ (a : Addr) (xs : List V) (k : V → List Int), vs = [V.ref a] ∧ SqL K H a xs ∧ (∀ x ∈ xs, ∃ t, x = V.ref t ∧ H t = some (.tup ((k x).map V.int)) ∧ (2 ≤ xs.length → k x ≠ [])) ∧
  ∀ ys p, ys.Pairwise (fun x y => ltL (k y) (k x) = false) → ys.Perm xs → H p = none → Q (.ref p) (upd H p (.lst ys))
theorem ints_vals : ∀ {ns : List Int} {us : List Value}, Vals (ns.map V.int) us → IntsAre us ns
  | [], _, .nil => .nil
  | n :: ns, _, .cons r t => by
    obtain ⟨u, rfl⟩ := r
    exact .cons n u (ints_vals t)
section
variable {X : Cx}
theorem cr_sortTs : CallR X (.builtin "sorted") (rSortTs X.K) := by
  intro pins s σ H vs us Q I r ⟨a, xs, k, e0, hs, hx, q⟩
  subst e0
  obtain ⟨its, rv, hl, hz⟩ := I.list hs
  obtain ⟨u, e3, ru⟩ := vals1 r
  subst e3
  obtain rfl : u = Value.ref a := ru
  obtain ⟨e1, e2⟩ := refs_back rv fun x m => (hx x m).imp fun t h => h.1
  have tv : ∀ v ∈ its, TupV s.heap v (k (backV v)) ∧ (2 ≤ xs.length → k (backV v) ≠ []) := fun v hv => by
    obtain ⟨t, rfl⟩ := e2 v hv
    have hm : V.ref t ∈ xs := by rw [e1]; exact List.mem_map.mpr ⟨_, hv, rfl⟩
    obtain ⟨t', e, ht, ne⟩ := hx _ hm
    cases e
    obtain ⟨_, its2, r2, o, ho, hc, n, hd⟩ := I.hok _ _ ht
    exact ⟨⟨t, o, _, n, rfl, ho, hc, hd, by rw [List.toList_toArray]; exact ints_vals r2⟩, ne⟩
  have zl : its.length = xs.length := by rw [rv.length]
  refine SrtO.sorted_ord (ltL_swo fun v => k (backV v)) hl.isList (by rw [zl]; exact hz) (fun h2 g b hb kk => ?_) fun out hs1 hs2 => ?_
  · refine tup_sortable (s := { s with heap := g }) (by omega) (fun v hv => ⟨(tv v hv).1.at fun c o e _ => (kk c o e).2, (tv v hv).2 (by omega)⟩) fun o e => ?_
    have e' : some o = some (seqObj "list" its.toArray 0) := e.symm.trans hb
    cases e'
    exact fun c => absurd (Value.type.inj c) (by decide)
  · obtain ⟨n, hn⟩ := PyProof.Rows.sortedAll_at s.heap its out.toArray
    have h3 : ∀ u ∈ out, ∃ b, u = Value.ref b := fun u hu => e2 u (hs2.perm.mem_iff.mp hu)
    have pm : (out.map backV).Perm xs := by rw [e1]; exact hs2.perm.map backV
    refine ⟨.ref (s.heap.objs.size + 1), upd H (s.heap.objs.size + 1) (.lst (out.map backV)), I.laid (t' := s.toks) (fun _ _ e => PyProof.Rows.sortedAll_old e) (Nat.le_succ _) ⟨by rw [pm.length_eq]; exact hz, out, n, vals_back h3, hn⟩, rfl, q _ _ ?_ pm (I.hok.fresh (Nat.le_succ _))⟩
    exact List.pairwise_map.mpr hs1
end
end Y

set_option Elab.async false
set_option linter.all false
set_option maxRecDepth 100000
namespace Y
open PySem PySem.Spec PyProof.Rows L2
theorem ltC_cons {x y : Nat} {xs ys : List Nat} : ltCps (x :: xs) (y :: ys) = true ↔ x < y ∨ (x = y ∧ ltCps xs ys = true) := by simp [ltCps]
theorem ltC_asym : ∀ {a b : List Nat}, ltCps a b = true → ltCps b a = false
  | [], [], h => by simp [ltCps] at h
  | [], _ :: _, _ => by simp [ltCps]
  | _ :: _, [], h => by simp [ltCps] at h
  | x :: xs, y :: ys, h => by
    rw [← Bool.not_eq_true, ltC_cons]
    rcases ltC_cons.mp h with h2 | ⟨rfl, h2⟩
    · rintro (z | ⟨z, _⟩) <;> omega
    · have := ltC_asym h2
      rintro (z | ⟨_, z⟩)
      · omega
      · rw [this] at z; cases z
theorem ltC_tr : ∀ {a b c : List Nat}, ltCps a b = true → ltCps b c = true → ltCps a c = true
  | [], _ :: _, _ :: _, _, _ => by simp [ltCps]
  | [], [], _, h, _ => by simp [ltCps] at h
  | _ :: _, [], _, h, _ => by simp [ltCps] at h
  | _, _ :: _, [], _, h => by simp [ltCps] at h
  | x :: xs, y :: ys, z :: zs, h1, h2 => by
    rw [ltC_cons] at *
    rcases h1 with h1 | ⟨rfl, h1⟩
    · rcases h2 with h2 | ⟨rfl, h2⟩
      · exact .inl (by omega)
      · exact .inl h1
    · rcases h2 with h2 | ⟨rfl, h2⟩
      · exact .inl h2
      · exact .inr ⟨rfl, ltC_tr h1 h2⟩
theorem ltC_tot : ∀ {a b : List Nat}, ltCps a b = false → ltCps b a = false → a = b
  | [], [], _, _ => rfl
  | [], _ :: _, h, _ => by simp [ltCps] at h
  | _ :: _, [], _, h => by simp [ltCps] at h
  | x :: xs, y :: ys, h1, h2 => by
    rw [← Bool.not_eq_true, ltC_cons] at h1 h2
    have e : x = y := by omega
    subst e
    rw [ltC_tot (a := xs) (b := ys) (Bool.not_eq_true _ ▸ fun z => h1 (.inr ⟨rfl, z⟩)) (Bool.not_eq_true _ ▸ fun z => h2 (.inr ⟨rfl, z⟩))]
theorem ltC_ntr {a b c : List Nat} (h1 : ltCps b a = false) (h2 : ltCps c b = false) : ltCps c a = false := by
  cases e : ltCps c a with
  | false => rfl
  | true =>
    cases e2 : ltCps a b with
    | true => rw [ltC_tr e e2] at h2; cases h2
    | false => rw [ltC_tot e2 h1] at e; rw [e] at h2; cases h2
def ltStr (x y : Str) : Bool := ltCps x.cps.toList y.cps.toList
theorem ltStr_tot {x y : Str} (h1 : ltStr x y = false) (h2 : ltStr y x = false) : x = y := by
  have e := ltC_tot h1 h2
  cases x; cases y
  simp at e
  rw [e]
def sortS (xs : List Str) : List Str := xs.mergeSort fun a b => !ltStr b a
theorem sortS_perm (xs : List Str) : (sortS xs).Perm xs := List.mergeSort_perm _ _
theorem sortS_pw (xs : List Str) : (sortS xs).Pairwise fun a b => ltStr b a = false := by
  have := List.pairwise_mergeSort (le := fun a b : Str => !ltStr b a) (fun a b c h1 h2 => by
    simp only [Bool.not_eq_true'] at *
    exact ltC_ntr h1 h2) (fun a b => by
    cases e : ltStr b a with
    | false => rfl
    | true =>
      have := ltC_asym e
      simp [ltStr, this]) xs
  exact this.imp fun h => by simpa using h
theorem sortS_of {xs ys : List Str} (p : ys.Perm xs) (h : ys.Pairwise fun a b => ltStr b a = false) : ys = sortS xs :=
  List.Perm.eq_of_pairwise (le := fun a b : Str => ltStr b a = false) (fun a b _ _ h1 h2 => ltStr_tot h2 h1) h (sortS_pw xs) (p.trans (sortS_perm xs).symm)
theorem rising_pw : ∀ {ys : List Str}, sortedS ys = true → ys.Pairwise fun a b => ltStr b a = false
  | [], _ => List.Pairwise.nil
  | [x], _ => List.pairwise_singleton _ _
  | x :: y :: r, h => by
    simp only [sortedS, risingS, Bool.and_eq_true, Bool.not_eq_true'] at h
    have ih := rising_pw (ys := y :: r) h.2
    refine List.pairwise_cons.mpr ⟨fun z hz => ?_, ih⟩
    rcases List.mem_cons.mp hz with rfl | hz
    · exact h.1
    · exact ltC_ntr h.1 ((List.pairwise_cons.mp ih).1 z hz)
def rSortSt (K : PySem.W.Frag) : List V → Hp → VK → Prop := fun vs H Q => ∃ (a : Addr) (xs : List Str), vs = [V.ref a] ∧ SqL K H a (xs.map V.str) ∧ ∀ p, H p = none → Q (.ref p) (upd H p (.lst ((sortS xs).map V.str)))
theorem cr_sortSt {X : Cx} : CallR X (.builtin "sorted") (rSortSt X.K) := by
  intro pins s σ H vs us Q I r ⟨a, xs, e0, hs, q⟩
  subst e0
  obtain ⟨its, rv, hl, hz⟩ := I.list hs
  rw [Vals.ref1 r]
  refine sorted_strsAny hl.isList rv.strs (by rw [← rv.length]; exact hz) fun out ys h1 h2 h3 => ?_
  obtain ⟨n, hn⟩ := PyProof.Rows.sortedAll_at s.heap its out
  have ey := sortS_of h2 (rising_pw h3)
  subst ey
  have zl : ((sortS xs).map V.str).length ≤ sizeLine := by rw [List.length_map, h2.length_eq]; rw [List.length_map] at hz; exact hz
  exact ⟨.ref _, upd H (s.heap.objs.size + 1) (.lst ((sortS xs).map V.str)), I.laid (t' := s.toks) (fun _ _ => PyProof.Rows.sortedAll_old) (Nat.le_succ _) ⟨zl, out.toList, n, vals_of_strs h1, hn⟩, rfl, q _ (I.hok.fresh (Nat.le_succ _))⟩
def intTup : D → Option (List Int)
  | .tup ds => intsOf ds
  | _ => none
def tupsOf : List D → Option (List (List Int))
  | [] => some []
  | d :: ds => match intTup d, tupsOf ds with
    | some n, some ns => some (n :: ns)
    | _, _ => none
def sortOk (xs : List (List Int)) : Bool := decide (xs.length < 2) || xs.all fun x => !x.isEmpty
def sortD : List D → R D
  | [.lst ds] => match intsOf ds with
    | some ns => .ok (.lst ((sortI ns).map D.int))
    | none => match strsOf ds with
    | some ss => .ok (.lst ((sortS ss).map D.str))
    | none => match tupsOf ds with
      | some xs => if sortOk xs = true then .ok (.lst ((sortL xs).map fun x => D.tup (x.map D.int))) else .stk
      | none => .stk
  | _ => .stk
def intV : V → Int
  | .int i => i
  | _ => 0
def keyV (H : Hp) : V → List Int
  | .ref t => match H t with
    | some (.tup ws) => ws.map intV
    | _ => []
  | _ => []
theorem ints_back (ns : List Int) : (ns.map V.int).map intV = ns := by
  rw [List.map_map]
  induction ns with
  | nil => rfl
  | cons x xs ih => simp [intV] at ih ⊢; exact ih
theorem reps_strs {K : PySem.W.Frag} {H : Hp} {P : Pr} : ∀ ns : List Str, Reps K H (ns.map D.str) P (ns.map V.str)
  | [] => Reps.nil
  | n :: ns => Reps.cons (by unfold Rep; rfl) (reps_strs ns)
section
variable {K : PySem.W.Frag} {X : Cx}
theorem tups_rep {H : Hp} {P : Pr} : ∀ {ds : List D} {xs : List (List Int)} {vs : List V}, tupsOf ds = some xs → Reps K H ds P vs → vs.map (keyV H) = xs ∧ ∀ v ∈ vs, ∃ t, v = V.ref t ∧ H t = some (.tup ((keyV H v).map V.int))
  | [], xs, vs, e, h => by simp [tupsOf] at e; subst e; rw [h.nil_iff]; simp
  | d :: ds, xs, vs, e, h => by
    obtain ⟨v, ws, rfl, h1, h2⟩ := h.cons_iff
    unfold tupsOf at e
    cases e1 : intTup d with
    | none => rw [e1] at e; simp at e
    | some n =>
      cases e2 : tupsOf ds with
      | none => rw [e1, e2] at e; simp at e
      | some ns =>
        rw [e1, e2] at e
        simp at e
        subst e
        obtain ⟨i1, i2⟩ := tups_rep e2 h2
        cases d <;> simp [intTup] at e1
        rename_i ds'
        unfold Rep at h1
        obtain ⟨t, us, rfl, ht, hr⟩ := h1
        rw [ints_rep e1 hr] at ht
        have kt : keyV H (.ref t) = n := by
          show (match H t with | some (.tup ws) => ws.map intV | _ => []) = n
          rw [ht]
          exact ints_back n
        refine ⟨by rw [List.map_cons, kt, i1], fun v hv => ?_⟩
        rcases List.mem_cons.mp hv with rfl | hv
        · exact ⟨t, rfl, by rw [kt]; exact ht⟩
        · exact i2 v hv
theorem cd_sort : CallR X (.builtin "sorted") (rDs X.K sortD) := by
  intro pins s σ H xs us Q I r ⟨P, ds, dz, hm, rs, e, out⟩
  unfold sortD at e
  split at e
  · split at e
    · rename_i ds0 _ ns ei
      refine cd_sortedI pins s σ H xs us Q I r ⟨P, _, dz, hm, rs, ?_, out⟩
      show (match intsOf ds0 with | some ns => R.ok (D.lst ((sortI ns).map D.int)) | none => .stk) = _
      rw [ei]
      exact e
    · split at e
      · rename_i ss es
        cases e
        obtain ⟨v, rfl, r1⟩ := rs.get1
        obtain ⟨a, vs, rfl, h1, h2⟩ := r1.lst
        rw [strs_rep es h2] at h1
        exact cr_sortSt pins s σ H _ us Q I r ⟨a, ss, rfl, SqL.of h1, fun p hp => out_lst hm out (fun _ _ => reps_strs _) p hp⟩
      split at e
      · rename_i nss et
        split at e
        · rename_i ok
          cases e
          obtain ⟨v, rfl, r1⟩ := rs.get1
          obtain ⟨a, vs, rfl, h1, h2⟩ := r1.lst
          obtain ⟨k1, k2⟩ := tups_rep et h2
          have lv : vs.length = nss.length := by rw [← k1, List.length_map]
          refine cr_sortTs pins s σ H _ us Q I r ⟨a, vs, keyV H, rfl, SqL.of h1, fun x hx => ?_, fun ys p pw pm hp => ?_⟩
          · obtain ⟨t, e1, e2⟩ := k2 x hx
            refine ⟨t, e1, e2, fun h2' => ?_⟩
            unfold sortOk at ok
            rw [decide_eq_false (by omega), Bool.false_or, List.all_eq_true] at ok
            have := ok (keyV H x) (by rw [← k1]; exact List.mem_map.mpr ⟨x, hx, rfl⟩)
            intro z
            rw [z] at this
            simp at this
          · have sm : Same H (upd H p (.lst ys)) := fun b o eb => by rw [upd_ne (ne_of_none eb hp)]; exact eb
            have es : ys.map (keyV H) = sortL nss := sortL_of (by rw [← k1]; exact pm.map _) (List.pairwise_map.mpr pw)
            refine out _ _ sm ?_ fun _ b eb => by cases eb; exact hp
            unfold Rep
            refine ⟨p, ys, rfl, fun z => (hm p z).some hp, upd_same, ?_⟩
            rw [← es, List.map_map]
            have : ∀ (zs : List V) (P' : Pr), (∀ z ∈ zs, z ∈ vs) → Reps X.K (upd H p (.lst ys)) (zs.map ((fun x => D.tup (x.map D.int)) ∘ keyV H)) P' zs := fun zs P' => by
              induction zs with
              | nil => intro _; exact Reps.nil
              | cons z zs ih =>
                intro hz
                obtain ⟨t, e1, e2⟩ := k2 z (hz z (by simp))
                refine Reps.cons ?_ (ih fun y hy => hz y (by simp [hy]))
                show Rep X.K _ (D.tup ((keyV H z).map D.int)) P' z
                unfold Rep
                exact ⟨t, _, e1, sm _ _ e2, reps_ints _⟩
            exact this ys _ fun z hz => pm.mem_iff.mp hz
        · cases e
      · cases e
  · cases e
end
theorem tups_map : ∀ xs : List (List Int), tupsOf (xs.map fun x => D.tup (x.map D.int)) = some xs
  | [] => rfl
  | x :: xs => by
    simp only [List.map_cons, tupsOf, intTup, ints_map, tups_map xs]
@[simp] theorem d_sortN {xs : List Int} : sortD [.lst (xs.map D.int)] = .ok (.lst ((sortI xs).map D.int)) := by
  show (match intsOf (xs.map .int) with | some ns => R.ok (D.lst ((sortI ns).map D.int)) | none => _) = _
  rw [ints_map]
theorem sortD_tups {x : List Int} {xs : List (List Int)} (h : sortOk (x :: xs) = true) : sortD [.lst ((x :: xs).map fun x => D.tup (x.map D.int))] = .ok (.lst ((sortL (x :: xs)).map fun x => D.tup (x.map D.int))) := by
  have e : intsOf ((x :: xs).map fun x => D.tup (x.map D.int)) = none := rfl
  have e2 : strsOf ((x :: xs).map fun x => D.tup (x.map D.int)) = none := rfl
  unfold sortD
  simp only [e, e2, tups_map, h, if_true]
end Y

set_option Elab.async false
set_option linter.all false
set_option maxRecDepth 100000
namespace Y
open PySem PySem.Spec PyProof.Rows L2
def whileN (t : BM) (body : SM) (vs : List Nat) : Nat → Y.Env → R (Fl × Y.Env)
  | 0, _ => .stk
  | n + 1, ρ => do
    let (k, ρ1) ← t ρ
    if k = true then do
      let (f, ρ2) ← body ρ1
      match f with
      | .bk => pure (.nx, ρ2)
      | .rt h => pure (.rt h, ρ2)
      | _ => whileN t body vs n (wipeE ρ2 vs)
    else pure (.nx, ρ1)
open Classical in
noncomputable def sWhile (t : BM) (body : SM) (vs : List Nat) : SM := fun ρ => if h : ∃ n, whileN t body vs n ρ ≠ .stk then whileN t body vs h.choose ρ else .stk
theorem whileN_up {t : BM} {body : SM} {vs : List Nat} : ∀ {n : Nat} {ρ : Y.Env}, whileN t body vs n ρ ≠ .stk → whileN t body vs (n + 1) ρ = whileN t body vs n ρ
  | 0, ρ, h => absurd rfl h
  | n + 1, ρ, h => by
    unfold whileN at h
    conv => lhs; unfold whileN
    conv => rhs; unfold whileN
    cases e : t ρ with
    | stk => rfl
    | er c ds => rfl
    | ok p =>
      obtain ⟨k, ρ1⟩ := p
      rw [e] at h
      simp only [R.bind_ok] at h ⊢
      cases k with
      | false => rfl
      | true =>
        simp only [if_true] at h ⊢
        cases e2 : body ρ1 with
        | stk => rfl
        | er c ds => rfl
        | ok q =>
          obtain ⟨f, ρ2⟩ := q
          rw [e2] at h
          simp only [R.bind_ok] at h ⊢
          cases f with
          | bk => rfl
          | rt _ => rfl
          | nx => exact whileN_up h
          | ct => exact whileN_up h
theorem whileN_le {t : BM} {body : SM} {vs : List Nat} {n : Nat} {ρ : Y.Env} (h : whileN t body vs n ρ ≠ .stk) : ∀ m, whileN t body vs (n + m) ρ = whileN t body vs n ρ
  | 0 => rfl
  | m + 1 => by
    have ih := whileN_le h m
    rw [← Nat.add_assoc, whileN_up (by rw [ih]; exact h), ih]
section
variable {X : Cx} {P0 : Pr} {O W U : List Nat} {E : EK} {c : Expr} {pos : Pos} {m : SM}
theorem cs_while {t : BM} {vs : List Nat} {xs : List Stmt} (hp : PassesOwn (model X.prog X.w) X.A X.env X.xe) (hc : CT X P0 O W E c t) (hb : CSs X P0 O W U E xs m) : CS X P0 O W U E (.While c xs [] pos) (sWhile t m vs) := PS.imp (ps_while hp hc hb) fun D σ H ⟨ρ, S, h⟩ => by
  let Post : Fl × Y.Env → Prop := fun a => ∀ σ' H', Sim X.K P0 O W a.2 σ' H' → Tr O U σ H σ' H' → σ'.length = σ.length → Fin X.K P0 O H D σ' H' a.1
  have h : Res E O σ H (sWhile t m vs ρ) Post := h
  unfold sWhile at h
  by_cases hx : ∃ n, whileN t m vs n ρ ≠ .stk
  · rw [dif_pos hx] at h
    refine ⟨fun k σx Hx => ∃ ρx, Sim X.K P0 O W ρx σx Hx ∧ Tr O U σ H σx Hx ∧ σx.length = σ.length ∧ Res E O σx Hx (whileN t m vs k ρx) Post, ⟨_, ρ, S, .refl, rfl, h⟩, ?_⟩
    rintro k σx Hx ⟨ρx, Sx, tx, lx, qx⟩
    cases k with
    | zero => exact qx.elim
    | succ k =>
      unfold whileN at qx
      refine ⟨ρx, Sx, (qx.of_bind.down Sx.sub).mono fun ⟨b, ρ1⟩ q1 H1 S1 k1 => ?_⟩
      have t1 : Tr O U σx Hx σx H1 := Tr.of Sx.sub k1
      cases b with
      | false =>
        refine (if_neg Bool.false_ne_true).mpr ?_
        exact q1 σx H1 S1 (tx.trans t1) lx
      | true =>
        refine (if_pos rfl).mpr ⟨fun σ' H' => ∃ ρ', Sim X.K P0 O W ρ' σ' H' ∧ Tr O U σ H σ' H' ∧ σ'.length = σ.length ∧ Res E O σ' H' (whileN t m vs k ρ') Post, fun σ' H' n => ⟨k, Nat.lt_succ_self k, n⟩, ρ1, S1, ?_⟩
        have q1 : Res E O σx Hx (m ρ1 >>= fun p => match p.1 with | .bk => pure (.nx, p.2) | .rt h => pure (.rt h, p.2) | _ => whileN t m vs k (wipeE p.2 vs)) Post := q1
        refine (Res.keepT q1.of_bind t1).mono fun ⟨f, ρ2⟩ q2 σ3 H3 S3 t3 l3 => ?_
        have t4 : Tr O U σx Hx σ3 H3 := t1.trans t3
        have t5 : Tr O U σ H σ3 H3 := tx.trans t4
        have l5 : σ3.length = σ.length := l3.trans lx
        cases f with
        | nx => exact ⟨wipeE ρ2 vs, S3.wipe vs, t5, l5, Res.keepT q2 t4⟩
        | ct => exact ⟨wipeE ρ2 vs, S3.wipe vs, t5, l5, Res.keepT q2 t4⟩
        | bk => exact q2 σ3 H3 S3 t5 l5
        | rt hd =>
          intro v r
          exact q2 σ3 H3 S3 t5 l5 v (r.back fun b e => (tx.trans t1).some b e)
  · rw [dif_neg hx] at h
    exact h.elim
end
end Y

set_option Elab.async false
set_option linter.all false
set_option maxRecDepth 100000
namespace Y
open PySem PySem.Spec PyProof.Rows L2
section
variable {X : Cx} {P0 : Pr} {O W U : List Nat} {E : EK} {a e : Expr} {ma mb : EM} {pos : Pos}
theorem ce_globI {x : Str} {i : Int} (h : ∃ t, X.mg x = some (.int i t)) (hg : Gl X x := by rfl) (hd : (x == ("__debug__" : Str)) = false := by decide) : CEx X P0 O W E (.Name x pos) (cC (.int i)) :=
  h.elim fun t ht => ce_glob (v := .int i) (fun _ _ => by unfold Rep; rfl) rfl ⟨t, rfl⟩ ht hg hd
theorem ce_globS {x : Str} {i : Str} (h : ∃ t, X.mg x = some (.str i t)) (hg : Gl X x := by rfl) (hd : (x == ("__debug__" : Str)) = false := by decide) : CEx X P0 O W E (.Name x pos) (cC (.str i)) :=
  h.elim fun t ht => ce_glob (v := .str i) (fun _ _ => by unfold Rep; rfl) rfl ⟨t, rfl⟩ ht hg hd
def joinD : D → D → R D
  | .str a, .lst ds => match strsOf ds with
    | some ys => if (ys.map (·.length)).sum + ys.length * a.length ≤ 16777216 then .ok (.str (Txt.join a ys)) else .stk
    | none => .stk
  | .str a, .tup ds => match strsOf ds with
    | some ys => if (ys.map (·.length)).sum + ys.length * a.length ≤ 16777216 then .ok (.str (Txt.join a ys)) else .stk
    | none => .stk
  | _, _ => .stk
def cJoin (a b : EM) : EM := fun ρ => do
  let (h1, ρ1) ← a ρ
  let x ← h1.v.nox
  match x with
  | .str s => do
    let (h2, ρ2) ← b ρ1
    let y ← (h2.d ρ2).nox
    let z ← (joinD (.str s) y).nox
    pure (.fr z, ρ2)
  | _ => .stk
theorem ce_join {apos : Pos} (ha : CEx X P0 O W E a ma) (hb : CEx X P0 O W E e mb) (hs : starEach [e] X.env = [(false, eval e X.env)] := by rfl) (hbase : attributeBase a "join" X.env (eval a X.env) = eval a X.env := by rfl) (hline : (apos.endLine == pos.line) = true := by rfl) :
    CEx X P0 O W E (.Call (.Attribute a "join" apos) [e] [] pos) (cJoin ma mb) := PE.imp (pe_join ha hb hs hbase hline) fun σ H Q ⟨ρ, S, h⟩ => by
  refine ⟨ρ, S, h.of_bind.mono fun ⟨h1, ρ1⟩ q v H1 S1 k1 r1 => ?_⟩
  obtain ⟨d, e1, q⟩ := q.of_nox
  have rd := r1.v e1
  cases d <;> first | (exact q.elim) | skip
  rename_i s
  unfold Rep at rd
  subst rd
  have q : Res E W σ H (mb ρ1 >>= fun p => (p.1.d p.2).nox >>= fun y => (joinD (.str s) y).nox >>= fun z => R.ok (Hd.fr z, p.2)) _ := q
  refine ⟨⟨s, rfl⟩, ρ1, S1, (q.of_bind.keep k1).mono fun ⟨h2, ρ2⟩ q2 w H2 S2 k2 r2 => ?_⟩
  obtain ⟨y, e2, q2⟩ := q2.of_nox
  obtain ⟨z, e3, q2⟩ := q2.of_nox
  have rw2 := HdR.d S2 r2 e2
  have o := out_of (K := X.K) S2 (k1.trans k2) q2
  unfold joinD at e3
  cases y <;> first | (cases e3; done) | skip
  · rename_i ds
    have rt : Rep X.K H2 (.tup ds) _ w := rw2
    unfold Rep at rt
    obtain ⟨b, ws, rfl, t1, t2⟩ := rt
    simp only at e3
    cases es : strsOf ds with
    | none => rw [es] at e3; cases e3
    | some ys =>
      rw [es] at e3
      simp only at e3
      by_cases c : (ys.map (·.length)).sum + ys.length * s.length ≤ 16777216
      · rw [if_pos c] at e3
        cases e3
        rw [strs_rep es t2] at t1
        exact ⟨s, b, ys, rfl, rfl, .inr (SqT.of t1), c, o.flat (by unfold Rep; rfl) rfl⟩
      · rw [if_neg c] at e3; cases e3
  · rename_i ds
    obtain ⟨b, ws, rfl, t1, t2⟩ := rw2
    simp only at e3
    cases es : strsOf ds with
    | none => rw [es] at e3; cases e3
    | some ys =>
      rw [es] at e3
      simp only at e3
      by_cases c : (ys.map (·.length)).sum + ys.length * s.length ≤ 16777216
      · rw [if_pos c] at e3
        cases e3
        rw [strs_rep es t2] at t1
        exact ⟨s, b, ys, rfl, rfl, .inl (SqL.of t1), c, o.flat (by unfold Rep; rfl) rfl⟩
      · rw [if_neg c] at e3; cases e3
end
end Y

set_option Elab.async false
set_option linter.all false
set_option maxRecDepth 100000
namespace Y
open PySem PySem.Spec PyProof.Rows L2
def intAt (i : Nat) (ρ : Y.Env) : R Int := match ρ[i]? with
  | some (some (.int n)) => .ok n
  | _ => .stk
theorem intAt_ok {i : Nat} {ρ : Y.Env} {n : Int} (h : intAt i ρ = .ok n) : ρ[i]? = some (some (.int n)) := by
  unfold intAt at h
  split at h
  · rename_i e; cases h; exact e
  · cases h
def sAug (f : Int → Int → Int) (i : Nat) (m : EM) : SM := fun ρ => do
  let n ← (intAt i ρ).nox
  let (h, ρ1) ← m ρ
  let d ← h.v.nox
  match d with
  | .int k => pure (.nx, ρ1.set i (some (.int (f n k))))
  | _ => .stk
section
variable {X : Cx} {P0 : Pr} {O W U : List Nat} {E : EK} {e : Expr} {ma : EM} {pos : Pos}
theorem cs_aug {op : Operator} {f : Int → Int → Int} {i : Nat} {x : Str} {p : Pos} (hN : X.N.Nodup) (hp : PIp X op (ipI f)) (h : CEx X P0 O W E e ma) (ho : i ∉ O := by decide) (hu : ∀ i ∈ U, i ∈ O := by decide) (hi : X.N[i]? = some x := by rfl) (hx : Loc X.env.scope x := by first | exact Or.inl rfl | exact Or.inr rfl)
    (hf : X.fn x = true ∨ X.env.scope.names.lookup x = some .local := by first | exact .inl rfl | exact .inr rfl) : CS X P0 O W U E (.AugAssign (.Name x p) op e pos) (sAug f i ma) := PS.imp (ps_aug hN hi hx h hp hf) fun D σ H ⟨ρ, S, h⟩ => by
  obtain ⟨n, e0, h⟩ := h.of_nox
  obtain ⟨v0, g1, g2⟩ := S.val i _ (intAt_ok e0) ho
  unfold Rep at g2
  subst g2
  refine ⟨_, g1, ρ, S, (h.of_bind.down S.sub).mono fun ⟨hd, ρ1⟩ q v H1 S1 k1 r1 => ?_⟩
  obtain ⟨d, e1, q⟩ := q.of_nox
  have rd := r1.v e1
  cases d <;> first | (exact q.elim) | skip
  rename_i k
  unfold Rep at rd
  subst rd
  refine ⟨n, k, rfl, rfl, ?_⟩
  exact q _ H1 (S1.set ho (by unfold Rep; rfl)) ((Tr.of S.sub k1).trans (Tr.slots (is := [i]) (by simpa using ho) hu fun j hj => List.getElem?_set_ne fun z => hj (by simp [z]))) (by simp)
end
variable {ρ : Y.Env}
@[simp] theorem e_aug {f : Int → Int → Int} {i : Nat} {m : EM} : sAug f i m ρ = ((intAt i ρ).nox >>= fun n => m ρ >>= fun p => p.1.v.nox >>= fun d => match d with | .int k => R.ok (.nx, p.2.set i (some (.int (f n k)))) | _ => .stk) := by
  unfold sAug; congr
@[simp] theorem e_iat {i : Nat} : intAt i ρ = (match ρ[i]? with | some (some (.int n)) => .ok n | _ => .stk) := id rfl
end Y

set_option Elab.async false
set_option linter.all false
set_option maxRecDepth 100000
namespace Y
open PySem PySem.Spec PyProof.Rows L2
section
variable {X : Cx}
end
end Y

set_option Elab.async false
set_option linter.all false
set_option maxRecDepth 100000
namespace Y
open PySem PySem.Spec PyProof.Rows L2
section
variable {K : PySem.W.Frag} {X : Cx} {P0 : Pr} {O W U : List Nat} {E : EK} {e : Expr} {ma : EM} {pos : Pos}
end
variable {ρ : Y.Env}
end Y

set_option Elab.async false
set_option linter.all false
set_option maxRecDepth 100000
namespace Y
open PySem PySem.Spec PyProof.Rows L2
variable {ρ : Y.Env}
@[simp] theorem e_rg1 {l : Bool} {m : EM} : cRg1 l m ρ = (m ρ >>= fun p => p.1.v.nox >>= fun d => match d with | .int n => (if rgB 0 n = true then R.ok (.fr (if l = true then .lst (rgD 0 n) else .tup (rgD 0 n)), p.2) else .stk) | _ => .stk) := by
  unfold cRg1; congr
@[simp] theorem e_pop {i : Nat} : cPop i ρ = ((lstAt i ρ).nox >>= fun ds => match ds[ds.length - 1]? with | some d => R.ok (.vl d, ρ.set i (some (.lst ds.dropLast))) | none => .stk) := by
  unfold cPop; congr
@[simp] theorem e_join {a b : EM} : cJoin a b ρ = (a ρ >>= fun p => p.1.v.nox >>= fun x => match x with | .str s => (b p.2 >>= fun q => (q.1.d q.2).nox >>= fun y => (joinD (.str s) y).nox >>= fun z => R.ok (.fr z, q.2)) | _ => .stk) := by
  unfold cJoin; congr
theorem rgB_of {n : Nat} (h : n ≤ 16777216) : rgB 0 n = true := by
  unfold rgB
  rw [rngOk_of (by omega) (by omega), rngOk_of (by omega) (by omega)]
  simp; omega
theorem rgD_nat {n : Nat} : rgD 0 n = (List.range n).map fun k : Nat => D.int (k : Nat) := by unfold rgD; simp
end Y

set_option Elab.async false
set_option linter.all false
set_option maxRecDepth 100000
namespace Y
open PySem PySem.Spec PyProof.Rows L2
inductive Kd where
  | l (a : Addr) | t (a : Addr) | s (z : Str)
def strV (z : Str) : List V := z.cps.toList.map fun c => V.str ⟨#[c]⟩
def Kd.has (K : PySem.W.Frag) (H : Hp) : Kd → List V → Prop
  | .l a, xs => SqL K H a xs
  | .t a, xs => SqT K H a xs
  | .s z, xs => xs = strV z
def Kd.val : Kd → V
  | .l a => .ref a
  | .t a => .ref a
  | .s z => .str z
def Kd.lo : Kd → Nat → Prop
  | .l a, n => a < n
  | .t a, n => a < n
  | .s _, _ => True
/-- the iterator it over it, i items told -/
def Kd.at (it : Addr) (tk : Tok) : Kd → Nat → Heap → Prop
  | .l a, i, h => h.IsListIter it a i
  | .t a, i, h => h.IsTupleIter it a i
  | .s z, i, h => h.IsStrIter it (strIterType z) z tk i
theorem vals_at : ∀ {xs : List V} {us : List Value} {j : Nat} {u : Value}, Vals xs us → us[j]? = some u → ∃ x, xs[j]? = some x ∧ RelV x u
  | _, _, _, _, .nil, e => by simp at e
  | x :: xs, _, 0, _, .cons r _, e => by simp at e; subst e; exact ⟨x, rfl, r⟩
  | x :: xs, _, j + 1, _, .cons _ t, e => by simpa using vals_at (j := j) t (by simpa using e)
section
variable {X : Cx} {pins : List (Addr × Obj)} {σ : St} {H : Hp} {s : Shared}
theorem Kd.inj {k : Kd} {xs ys : List V} (I : Inv X pins σ H s) (h : k.has X.K H xs) (h2 : k.has X.K H ys) : xs = ys := by
  cases k with
  | l a => exact I.list_inj h h2
  | t a => exact I.tuple_inj h h2
  | s z => exact Eq.trans h (Eq.symm h2)
/-- what an iterator over it draws -/
structure Kd.Drw (X : Cx) (A : Around) (k : Kd) (it : Addr) (tk : Tok) (xs : List V) (fp : List Addr) (P : Nat → Value → Prop) (S : Nat → Heap → Prop) : Prop where
  dr : Draws X.prog X.w A it fp xs.length P S
  mem : it ∈ fp
  lo : ∀ b ∈ fp, b = it ∨ ∃ a, b = a ∧ (k = .l a ∨ k = .t a)
  back : ∀ j h, S j h → k.at it tk j h
  item : ∀ j v, P j v → ∃ x, xs[j]? = some x ∧ RelV x v
end
theorem ad {a b : Nat} (h : ¬ a = b) : @Ne Addr a b := h
/-- five cells that lie apart, from n on -/
structure Cells5 (n : Nat) (k1 k2 : Kd) : Prop where
  lo1 : k1.lo n
  lo2 : k2.lo n
theorem Kd.lo_ne {k : Kd} {n : Nat} (h : k.lo n) (a : Nat) (e : k = .l a ∨ k = .t a) : a < n := by
  rcases e with rfl | rfl <;> exact h
theorem sep5 {X : Cx} {A : Around} {k1 k2 : Kd} {n : Nat} {t1 t2 : Tok} {xs ys : List V} {fp1 fp2 : List Addr} {P1 P2 : Nat → Value → Prop} {S1 S2 : Nat → Heap → Prop} (c : Cells5 n k1 k2)
    (d1 : Kd.Drw X A k1 n t1 xs fp1 P1 S1) (d2 : Kd.Drw X A k2 (n + 1) t2 ys fp2 P2 S2) : ZipSep2 (n + 4) (n + 2) (n + 3) n (n + 1) fp1 fp2 := by
  have o1 : ∀ b : Nat, b ∈ fp1 → b ≤ n := fun b hb => by
    rcases d1.lo b hb with rfl | ⟨a, rfl, e⟩
    · exact Nat.le_refl _
    · exact Nat.le_of_lt (Kd.lo_ne c.lo1 _ e)
  have o2 : ∀ b : Nat, b ∈ fp2 → b = n + 1 ∨ b < n := fun b hb => by
    rcases d2.lo b hb with rfl | ⟨a, rfl, e⟩
    · exact .inl rfl
    · exact .inr (Kd.lo_ne c.lo2 _ e)
  exact ⟨ad (by omega), ad (by omega), ad (by omega), ad (by omega), d1.mem, fun z => by have := o1 (n + 4) z; omega, fun z => by have := o1 (n + 3) z; omega, ad (by omega), d2.mem,
    fun z => by have := o2 (n + 4) z; omega, fun z => by have := o2 (n + 3) z; omega, fun z => by have := o2 n z; omega, fun z => by have := o1 (n + 1) z; omega⟩
section
variable {X : Cx} {pins : List (Addr × Obj)} {σ : St} {H : Hp} {s : Shared}
theorem Kd.begins {k : Kd} {xs : List V} {u : Value} (I : Inv X pins σ H s) (h : k.has X.K H xs) (r : RelV k.val u) : ∃ (o : Obj) (G : Heap → Prop) (tk : Tok), Begins u o G ∧ G s.heap ∧ k.lo s.heap.objs.size ∧ ∀ n h', h'.get? n = some o → k.at n tk 0 h' := by
  cases k with
  | l a =>
    obtain ⟨its, rv, p, _⟩ := I.list h
    cases r
    exact ⟨_, _, 0, begins_list a its.toArray, p.isList, p.lt, fun n h' e => ⟨_, e, rfl, rfl⟩⟩
  | t a =>
    obtain ⟨its, rv, p, _⟩ := I.tuple h
    cases r
    have p : s.heap.IsTuple a its.toArray := p
    obtain ⟨o, e, _⟩ := id p
    exact ⟨_, _, 0, begins_tuple a its.toArray, p, Heap.lt_size e, fun n h' e => ⟨_, e, rfl, rfl⟩⟩
  | s z =>
    obtain ⟨tk, rfl⟩ := r
    exact ⟨_, _, tk, begins_text z tk, trivial, trivial, fun n h' e => ⟨_, e, rfl, rfl⟩⟩
end
def kdOf : D → V → Option Kd
  | .lst _, .ref a => some (.l a)
  | .arg _, .ref a => some (.l a)
  | .tup _, .ref a => some (.t a)
  | .str z, _ => some (.s z)
  | .ftu _, .ref a => some (.t a)
  | _, _ => none
section
variable {K : PySem.W.Frag} {P0 : Pr} {O W : List Nat} {ρ ρ' : Env} {σ σ' : St} {H H' Hs : Hp} {h h2 : Hd} {d d2 : D} {v : V}
/-- a datum that is walked: its kind and the items' values -/
theorem RepW.kd {ds : List D} {P : Pr} (r : RepW K H d P v) (e : itD d = .ok ds) : ∃ k vs, v = Kd.val k ∧ k.has K H vs ∧ Reps K H ds P vs ∧ kdOf d v = some k := by
  cases d <;> simp only [itD, R.ok.injEq, reduceCtorEq] at e
  · subst e
    rename_i z
    obtain rfl := r.str
    refine ⟨.s z, strV z, rfl, rfl, ?_, rfl⟩
    unfold strV
    generalize z.cps.toList = l
    induction l with
    | nil => exact Reps.nil
    | cons c l ih => exact Reps.cons (by unfold Rep; rfl) ih
  · subst e
    obtain ⟨a, vs, rfl, t1, t2⟩ := r.tup
    exact ⟨.t a, vs, rfl, SqT.of t1, t2, rfl⟩
  · subst e
    obtain ⟨a, vs, rfl, t1, t2⟩ := r.lst
    exact ⟨.l a, vs, rfl, SqL.of t1, t2, rfl⟩
  · subst e
    obtain ⟨a, rfl, t1⟩ := r.arg
    exact ⟨.l a, _, rfl, t1, reps_ints _, rfl⟩
  · subst e
    obtain ⟨a, vs, o, rfl, t1, _, t2⟩ := r.ftu
    exact ⟨.t a, vs, rfl, SqT.fz t1, t2, rfl⟩
/-- .. from what holds of it -/
theorem Hold.kd {ds : List D} {k : Kd} (S : Sim K P0 O W ρ σ H) (o : Hold K O h d v P0 ρ σ H) (e : itD d = .ok ds) (ek : kdOf d v = some k) : ∃ vs, k.has K H vs ∧ Reps K H ds (FA P0 O σ) vs := by
  obtain ⟨k', vs, _, h1, h2, h3⟩ := (o.rep S).kd e
  rw [ek] at h3; cases h3
  exact ⟨vs, h1, h2⟩
end
section
variable {X : Cx} {P0 : Pr} {O W : List Nat} {E : EK} {a b c e tg : Expr} {es : List Expr} {ma mb mc : EM} {ms : AM} {pos : Pos}
end
section
variable {ρ : Y.Env}
end
abbrev fp2 (n : Nat) : List Addr := [n + 1, n]
section
variable {X : Cx} {P0 : Pr} {O W : List Nat} {E : EK} {a b c e tg : Expr} {es : List Expr} {ma mb mc : EM} {ms : AM} {pos : Pos}
section
variable {K : PySem.W.Frag} {ρ ρ' : Env} {σ σ' : St} {H H' Hs : Hp} {h h2 : Hd} {d d2 : D} {v : V}
end
end
section
variable {ρ : Y.Env}
end
end Y

set_option Elab.async false
set_option linter.all false
set_option maxRecDepth 100000
namespace Y
open PySem PySem.Spec PyProof.Rows L2
abbrev veB : List Value := [.type "ValueError", .type "Exception", .type "BaseException", .type "object"]
structure ErrT (K : PySem.W.Frag) (mg : Str → Option Value) (x : Str) : Prop where
  ex : ∃ C, mg x = some (.ref C) ∧ PySem.W.excIn K C veB "ValueError.__new__" = true ∧ PySem.W.keepIn K (.ref C) = true ∧ PySem.W.subIn K (.ref C) (.type "BaseException") = some true ∧ PySem.W.typeIn K (.ref C) = some (.type "type")
def sRaise (c : Str) : SM := fun _ => .er c []
section
variable {K : PySem.W.Frag} {X : Cx} {P0 : Pr} {O W U : List Nat} {E : EK} {XE : XK} {e : Expr} {ma : EM} {pos : Pos}
theorem cs_raise {x m : Str} {j : Nat} {p p2 q pos : Pos} (T : ErrT X.K X.mg x) (hc : X.calm = true) (tk : L2N.Takes X fun cls d _ H => XE cls d H) (hg : Gl X x := by rfl) (hdb : (x == ("__debug__" : Str)) = false := by decide) :
    CS X P0 O W U (exE X.mg XE) (.Raise (some (.Call (.Name x p) [.Constant (.str m) j p2] [] q)) none pos) (sRaise x) := by
  obtain ⟨C, gC, q, kC, b, t⟩ := T.ex
  refine PS.imp (L2N.ps_raise hc tk (L2N.pmk_own PySem.F.excBase_ValueError q gC kC (raises_own b t) hg hdb)) fun D σ H ⟨ρ, S, h⟩ => ?_
  obtain ⟨_, C', e1, e2⟩ := h H (Keep.refl)
  rw [gC] at e1; cases e1
  exact e2
end
@[simp] theorem e_raise {c : Str} {ρ : Y.Env} : sRaise c ρ = .er c [] := id rfl
end Y

set_option Elab.async false
set_option linter.all false
set_option maxRecDepth 100000
namespace Y
open PySem PySem.Spec PyProof.Rows L2
abbrev setO0 (w : World) : Obj := { cls := .type "set", dict := none, data := .set #[] 0 (.fresh 0 0 (!w.params.followText "set-order")) }
section
variable {P : Program} {w : World} {A : Around} {E : Value → Shared → Prop} {s : Shared}
set_option maxHeartbeats 3200000 in
theorem set_ofL {l : Addr} {ys : Array Value} (ns : List Int) {Q : Value → Shared → Prop} (hh : A.handled = none) (hl : s.heap.IsList l ys) (hi : IntsAre ys.toList ns) (hb : ns.length + 1 < scanBound)
    (q : ∀ (h' : Heap) (tk c : Nat), SetR w h' s.heap.objs.size (fun j => decide (j ∈ ns)) c → c ≤ ns.length → (∀ b o, s.heap.get? b = some o → h'.get? b = some o) → Q (.ref s.heap.objs.size) { s with heap := h', toks := tk }) :
    wpAny (model P w) A (call (.type "set") [.ref l]) Q E s := by
  have zy : ys.size = ns.length := by
    have z := IntsAre.length hi
    rwa [Array.length_toList] at z
  obtain ⟨_, _, z0⟩ := F.called_set.mro
  have z1 := F.called_set.made
  have z2 := F.called_set.sub
  refine wpAny_call (codeAny_of_tree (show wpAny _ _ (callAny (.type "set") _) _ _ _ from ?_))
  refine wpAny_pure ⟨Code.quiet_builtin _ (by decide +kernel), codeAny_builtin (F.entry_type_call) (?_)⟩
  rw [Around.under_plain (weight_type_call_type "set" [.ref l] []) (rfl)]
  have z3 := F.called_set.notType
  have z4 := F.called_set.canCreate
  have z5 := F.typeCall_set_1 (.ref l)
  repeat (any_goals (first | wp_step | assumption))
  refine codeAny_mono (code_set_led1 (.ref l) (E := E) (Q₁ := fun obj t => obj = .ref s.heap.objs.size ∧ t = { s with heap := s.heap.push (setO0 w) }) ⟨rfl, rfl⟩) fun r t hr => ?_
  cases r with
  | error e => exact hr
  | ok fl =>
    cases fl with
    | ret obj =>
      obtain ⟨e1, e2⟩ := hr
      subst e1 e2
      have gS : (s.heap.push (setO0 w)).get? s.heap.objs.size = some (setO0 w) := Heap.get?_push_size _ rfl
      have tS : Shared.TypeIs { s with heap := s.heap.push (setO0 w) } (.ref s.heap.objs.size) "set" := ⟨_, gS, rfl⟩
      have z6 := F.called_set.init.lookup
      have z7 := F.called_set.init.bind (.ref s.heap.objs.size)
      repeat (any_goals (first | wp_step | assumption))
      refine codeAny_mono (codeAny_call_builtin (R := wants (fun r t => r = .none ∧ ∃ h' tk c, t = { s with heap := h', toks := tk } ∧ SetR w h' s.heap.objs.size (fun j => decide (j ∈ ns)) c ∧ c ≤ ns.length ∧ ∀ b o, s.heap.get? b = some o → h'.get? b = some o) E) F.called_set.init.plain F.entry_set_init (check_set_init_1 tS ?_)) fun r2 t2 hr2 => ?_
      · obtain ⟨⟨cls, od, data, os⟩, ho, ec, m, ed⟩ := hl
        simp only at ec ed
        subst ec ed
        have ho1 : (s.heap.push (setO0 w)).get? l = some { cls := .type "list", dict := od, data := .seq ys m, slots := os } := Heap.get?_push_of_some _ ho
        have z8 := F.sub_list_set
        have z9 := F.sub_list_frozenset
        have za : (Value.type "list" == Value.type "dict") = false := by decide
        have hl1 : (s.heap.push (setO0 w)).IsList l ys := ⟨_, ho1, rfl, m, rfl⟩
        unfold Builtin.«set.__init__» noKeywords Builtin.Frozenset.updateFrom
        generalize hp : pyIter = p
        wp_walk
        subst hp
        refine wpAny_pyIter_list hl1 (wpAny_bind (wpAny_runValue ?_))
        have ls : l < s.heap.objs.size := Heap.lt_size ho
        have h3 : A.in1.in1.in1.handled = none := by simp [hh]
        have zp : (s.heap.push (setO0 w)).objs.size = s.heap.objs.size + 1 := Heap.size_push ..
        have ne : l ≠ (s.heap.push (setO0 w)).objs.size := by rw [zp]; exact Nat.ne_of_lt (Nat.lt_succ_of_lt ls)
        have nf : s.heap.objs.size ∉ [(s.heap.push (setO0 w)).objs.size, l] := by
          rw [zp]
          intro z
          rcases List.mem_cons.mp z with z | z
          · exact Nat.ne_of_lt (Nat.lt_succ_self _) z
          · exact Nat.ne_of_gt ls (by simpa using z)
        have hv : ∀ (i : Nat) (v : Value), ys[i]? = some v → ∃ k t, ns[i]? = some k ∧ v = .int k t := fun i v e => by
          have lt : i < ns.length := by rw [← zy]; exact (Array.getElem?_eq_some_iff.mp e).1
          obtain ⟨t, e2⟩ := IntsAre.int_at hi i v (by rw [Array.getElem?_toList]; exact e)
          exact ⟨ns[i], t, List.getElem?_eq_getElem lt, by rw [e2, List.getD_eq_getElem?_getD, List.getElem?_eq_getElem lt]; rfl⟩
        refine set_update_ints ((Walks.list h3 _ l ne ys).toS) s.heap.objs.size nf ns zy hb hv (ys.size - 0) 0 _ (by omega) (Nat.zero_le _) ⟨⟨_, Heap.get?_push_size _ rfl, rfl, rfl⟩, (hl1.push _)⟩ ?ha ?hb
        case ha =>
          have g2 : ((s.heap.push (setO0 w)).push { cls := .type "list_iterator", data := .fields #[.ref l, .int 0 0] }).get? s.heap.objs.size = some (setO0 w) := Heap.get?_push_of_some _ gS
          exact ⟨0, Nat.le_refl 0, setR_new_at g2⟩
        case hb =>
          intro t c mv lc hS
          obtain ⟨h', g2, d2, tk2, o2⟩ := t
          have e1 : g2 = s.gens := mv.gens
          have e2 : d2 = s.drawn := mv.drawn
          have e3 : o2 = s.os := mv.os
          subst e1 e2 e3
          refine wpAny_pure (show wpAny _ _ (ret Value.none) _ _ _ from ?_)
          rw [zy] at lc
          refine wpAny_pure ⟨rfl, h', tk2, c, rfl, hS, lc, fun b o e => ?_⟩
          have b0 : b < s.heap.objs.size := Heap.lt_size e
          refine mv.heap b o (fun z => ?_) (Heap.get?_push_of_some _ (Heap.get?_push_of_some _ (e)))
          rcases List.mem_cons.mp z with z | z
          · exact Nat.ne_of_lt b0 z
          · have z : b = (s.heap.push (setO0 w)).objs.size := by simpa using z
            rw [zp] at z
            exact Nat.ne_of_lt (Nat.lt_succ_of_lt b0) z
      · cases r2 with
        | error e => exact hr2
        | ok fl2 =>
          cases fl2 with
          | ret r =>
            obtain ⟨e1, h', tk, c, e2, hS, lc, hk⟩ := hr2
            subst e1 e2
            repeat (any_goals (first | wp_step | assumption))
            exact q _ _ _ hS lc hk
          | _ => exact hr2.elim
    | _ => exact hr.elim
end
end Y

set_option Elab.async false
set_option linter.all false
set_option maxRecDepth 100000
namespace Y
open PySem PySem.Spec PyProof.Rows L2
def dedupI : List Int → List Int
  | [] => []
  | x :: xs => if x ∈ xs then dedupI xs else x :: dedupI xs
@[simp] theorem mem_dedupI : ∀ {xs : List Int} {k : Int}, k ∈ dedupI xs ↔ k ∈ xs
  | [], k => by simp [dedupI]
  | x :: xs, k => by
    unfold dedupI
    split
    · rename_i h
      rw [mem_dedupI, List.mem_cons]
      exact ⟨.inr, fun z => z.elim (fun z => z ▸ h) id⟩
    · rw [List.mem_cons, mem_dedupI, List.mem_cons]
theorem nodup_dedupI : ∀ {xs : List Int}, (dedupI xs).Nodup
  | [] => by simp [dedupI]
  | x :: xs => by
    unfold dedupI
    split
    · exact nodup_dedupI
    · rename_i h
      exact List.nodup_cons.mpr ⟨fun z => h (mem_dedupI.mp z), nodup_dedupI⟩
theorem dedupI_le : ∀ {xs : List Int}, (dedupI xs).length ≤ xs.length
  | [] => by simp [dedupI]
  | x :: xs => by
    have := dedupI_le (xs := xs)
    unfold dedupI
    split <;> simp <;> omega
theorem card_eq {xs ys : List Int} (h1 : xs.Nodup) (h2 : ys.Nodup) (h : ∀ k, k ∈ xs ↔ k ∈ ys) : xs.Perm ys := (List.perm_ext_iff_of_nodup h1 h2).mpr h
def setI (xs : List Int) : List Int := sortI (dedupI xs)
theorem setI_mem {xs : List Int} {k : Int} : k ∈ setI xs ↔ k ∈ xs := by rw [setI, (sortI_perm _).mem_iff, mem_dedupI]
theorem setI_nodup {xs : List Int} : (setI xs).Nodup := (sortI_perm _).nodup_iff.mpr nodup_dedupI
theorem setI_lt {xs : List Int} : (setI xs).Pairwise (· < ·) := by
  have h1 : (setI xs).Pairwise (· ≤ ·) := sortI_pw _
  have h2 : (setI xs).Pairwise (· ≠ ·) := setI_nodup
  exact h1.imp₂ (fun a b h1 h2 => by omega) h2
theorem setI_of {xs ys : List Int} (h : ys.Pairwise (· < ·)) (m : ∀ k, k ∈ ys ↔ k ∈ xs) : ys = setI xs :=
  List.Perm.eq_of_pairwise (le := fun a b : Int => a < b) (fun a b _ _ h1 h2 => by omega) h setI_lt (card_eq (h.imp fun h => by omega) setI_nodup fun k => by rw [m, setI_mem])
theorem setI_len {xs : List Int} : (setI xs).length = (dedupI xs).length := (sortI_perm _).length_eq
def rSetOf (K : PySem.W.Frag) (w : World) : List V → Hp → VK → Prop := fun vs H Q => ∃ (l : Addr) (ns : List Int), vs = [V.ref l] ∧ (SqL K H l (ns.map V.int) ∨ SqT K H l (ns.map V.int)) ∧ ns.length ≤ 4000 ∧
  ∀ p, H p = none → Q (.ref p) (upd H p (SetO w p (fun j => decide (j ∈ ns)) (dedupI ns).length))
section
variable {X : Cx}
theorem setR_card {w : World} {h : Heap} {a : Addr} {ns : List Int} {c : Nat} (R : SetR w h a (fun j => decide (j ∈ ns)) c) : c = (dedupI ns).length := by
  obtain ⟨o, es, ep, t, ho, hx, hd, g, nd, hm, hb, hf, hn, _⟩ := R
  have := (card_eq nd (nodup_dedupI (xs := ns)) fun k => by rw [mem_dedupI, ← hm k]; simp).length_eq
  rw [← hn, ← this]
  simp
theorem cr_setOf (hc : X.calm = true) : CallR X (.type "set") (rSetOf X.K X.w) := by
  intro pins s σ H vs us Q I r ⟨l, ns, e0, hq, hz, q⟩
  subst e0
  rw [Vals.ref1 r]
  have fin : ∀ (h' : Heap) (tk c : Nat), SetR X.w h' s.heap.objs.size (fun j => decide (j ∈ ns)) c → (∀ b o, s.heap.get? b = some o → h'.get? b = some o) → EP X pins σ Q (.ref s.heap.objs.size) { s with heap := h', toks := tk } := fun h' tk c R k => by
    rw [setR_card R] at R
    exact ⟨.ref _, upd H s.heap.objs.size (SetO X.w s.heap.objs.size (fun j => decide (j ∈ ns)) (dedupI ns).length), I.laid (t' := tk) k (Nat.le_refl _) (setO_new R), rfl, q _ (I.hok.fresh (Nat.le_refl _))⟩
  have hb : ns.length + 1 < scanBound := by unfold scanBound; omega
  rcases hq with hq | hq
  · obtain ⟨its, rv, p, _⟩ := I.list hq
    exact set_ofL ns (I.ok.hd hc) p.isList (by simpa using rv.ints) hb fun h' tk c R _ k => fin h' tk c R k
  · obtain ⟨its, rv, p, _⟩ := I.tuple hq
    exact call_set_tupI ns (I.ok.hd hc) p (by simpa using rv.ints) hb fun h' tk c R _ k => fin h' tk c R k
end
def seqI : D → Option (List Int)
  | .lst ds => intsOf ds
  | .tup ds => intsOf ds
  | .arg ns => some ns
  | _ => none
def cSetSort (m : EM) : EM := fun ρ => do
  let (h, ρ1) ← m ρ
  let d ← (h.d ρ1).nox
  match seqI d with
  | some ns => if ns.length ≤ 4000 ∧ (dedupI ns).length < 64 then pure (.fr (.lst ((setI ns).map D.int)), ρ1) else .stk
  | none => .stk
section
variable {K : PySem.W.Frag} {X : Cx} {P0 : Pr} {O W : List Nat} {E : EK} {a e : Expr} {ma : EM} {pos : Pos}
theorem RepW.seqI {H : Hp} {d : D} {P : Pr} {v : V} {ns : List Int} (r : RepW K H d P v) (e : seqI d = some ns) : ∃ l, v = .ref l ∧ (SqL K H l (ns.map V.int) ∨ SqT K H l (ns.map V.int)) := by
  cases d <;> simp only [Y.seqI, reduceCtorEq, Option.some.injEq] at e
  · obtain ⟨l, vs, rfl, t1, t2⟩ := r.tup
    rw [ints_rep e t2] at t1
    exact ⟨l, rfl, .inr (SqT.of t1)⟩
  · obtain ⟨l, vs, rfl, t1, t2⟩ := r.lst
    rw [ints_rep e t2] at t1
    exact ⟨l, rfl, .inl (SqL.of t1)⟩
  · subst e
    obtain ⟨l, rfl, t1⟩ := r.arg
    exact ⟨l, rfl, .inl t1⟩
theorem ce_setSort {p p2 q : Pos} (hc : X.calm = true) (hm : X.mg "sorted" = none) (hm2 : X.mg "set" = none) (ha : CEx X P0 O W E a ma) (hg : Gl X "sorted" := by rfl) (hg2 : Gl X "set" := by rfl)
    (na : starEach [a] X.env = (false, eval a X.env) :: starEach [] X.env := by rfl) (n2 : starEach [.Call (.Name "set" p2) [a] [] q] X.env = (false, eval (.Call (.Name "set" p2) [a] [] q) X.env) :: starEach [] X.env := by rfl) :
    CEx X P0 O W E (.Call (.Name "sorted" p) [.Call (.Name "set" p2) [a] [] q] [] pos) (cSetSort ma) :=
  PE.imp (pe_callB (cr_sortedSet hc) hg hm bo_sorted (pa_cons (pe_callTy (cr_setOf hc) hg2 hm2 bo_set (pa_cons ha pa_nil na) (by decide) (by decide) na rfl) pa_nil n2) (by decide) (by decide) n2 rfl) fun σ H Q ⟨ρ, S, h⟩ => by
    refine ⟨ρ, S, h.of_bind.mono fun ⟨h1, ρ1⟩ q v H1 S1 k1 r1 => ?_⟩
    obtain ⟨d, e1, q⟩ := q.of_nox
    have rw1 := r1.d S1 e1
    have q : Res E W σ H (match seqI d with | some ns => if ns.length ≤ 4000 ∧ (dedupI ns).length < 64 then R.ok (Hd.fr (.lst ((setI ns).map D.int)), ρ1) else .stk | none => .stk) _ := q
    cases es : seqI d with
    | none => rw [es] at q; exact q.elim
    | some ns =>
      rw [es] at q
      simp only at q
      by_cases c : ns.length ≤ 4000 ∧ (dedupI ns).length < 64
      · rw [if_pos c] at q
        obtain ⟨l, rfl, hl⟩ := rw1.seqI es
        refine ⟨l, ns, rfl, hl, c.1, fun p hp => ?_⟩
        refine ⟨p, _, _, rfl, upd_same, c.2, fun ms p' pw mm lm hp' => ?_⟩
        have em : ms = setI ns := setI_of pw fun k => by rw [mm]; simp
        subst em
        have hpn : H1 p' = none := by
          by_cases z : p' = p
          · rw [z, upd_same] at hp'; cases hp'
          · rwa [upd_ne z] at hp'
        have sm : Same H1 (upd (upd H1 p (SetO X.w p (fun j => decide (j ∈ ns)) (dedupI ns).length)) p' (.lst ((setI ns).map V.int))) := fun b o e => by
          rw [upd_ne (ne_of_none e hpn), upd_ne (ne_of_none e hp)]; exact e
        refine out_of (K := X.K) S1 k1 q _ _ sm ?_ fun _ a e => by cases e; exact hpn
        unfold Rep
        exact ⟨p', _, rfl, fun z => (S1.dom p' z).some hpn, upd_same, reps_ints _⟩
      · rw [if_neg c] at q
        exact q.elim
end
variable {ρ : Y.Env}
@[simp] theorem e_setSort {m : EM} : cSetSort m ρ = (m ρ >>= fun p => (p.1.d p.2).nox >>= fun d => match seqI d with | some ns => if ns.length ≤ 4000 ∧ (dedupI ns).length < 64 then R.ok (.fr (.lst ((setI ns).map D.int)), p.2) else .stk | none => .stk) := id rfl
@[simp] theorem seqI_l {ns : List Int} : seqI (.lst (ns.map D.int)) = some ns := ints_map ns
@[simp] theorem seqI_t {ns : List Int} : seqI (.tup (ns.map D.int)) = some ns := ints_map ns
end Y

set_option Elab.async false
set_option linter.all false
set_option maxRecDepth 100000
namespace Y
open PySem PySem.Spec PyProof.Rows L2
section
variable {K : PySem.W.Frag} {X : Cx} {P0 : Pr} {O W U : List Nat} {E : EK} {a b e : Expr} {sts : List Stmt} {ma mb : EM} {pos : Pos}
theorem cs_stk : CSs X P0 O W U E sts (fun _ => .stk) := ⟨fun pins s σ H D I ⟨ρ, S, h⟩ => h.elim⟩
def indexD : D → D → R D
  | .lst ds, y => if (dOk (.lst ds) && dOk y) = true then (match ds.findIdx? fun z => eqP z y with | some j => .ok (.int j) | none => .stk) else .stk
  | .str x, .str y => (match Builtin.Str.occurrences x y 0 x.length 1 with | i :: _ => .ok (.int (i : Nat)) | [] => .stk)
  | _, _ => .stk
def cIndex (a b : EM) : EM := fun ρ => do
  let (h1, ρ1) ← a ρ
  let x0 ← (h1.d ρ1).nox
  match x0 with
  | .str x => do
    let (h2, ρ2) ← b ρ1
    let y ← (h2.d ρ2).nox
    let z ← (indexD (.str x) y).nox
    pure (.fr z, ρ2)
  | .lst _ => do
    let (h2, ρ2) ← b ρ1
    let x ← (h1.d ρ2).nox
    let y ← (h2.d ρ2).nox
    let z ← (indexD x y).nox
    pure (.fr z, ρ2)
  | _ => .stk
theorem dps_find {y : D} : ∀ {ds : List D} {j : Nat}, (ds.findIdx? fun z => eqP z y) = some j → (∃ z, (toPys ds)[j]? = some z ∧ PyData.eqv z (toPy y) = true) ∧ ∀ (m : Nat) (z : PyData), m < j → (toPys ds)[m]? = some z → PyData.eqv z (toPy y) = false
  | [], j, h => by simp at h
  | d :: ds, j, h => by
    rw [List.findIdx?_cons] at h
    by_cases c : eqP d y = true
    · rw [if_pos c] at h
      cases h
      exact ⟨⟨toPy d, by unfold toPys; rfl, c⟩, fun m z hm => by omega⟩
    · rw [if_neg c] at h
      cases e : ds.findIdx? fun z => eqP z y with
      | none => rw [e] at h; cases h
      | some i =>
        rw [e] at h
        cases h
        obtain ⟨⟨z, e1, e2⟩, e3⟩ := dps_find e
        refine ⟨⟨z, by unfold toPys; simpa using e1, e2⟩, fun m z hm hz => ?_⟩
        unfold toPys at hz
        cases m with
        | zero => simp at hz; subst hz; exact Bool.not_eq_true _ ▸ c
        | succ m => exact e3 m z (by have hm : m + 1 < i + 1 := hm; omega) (by simpa using hz)
theorem ce_index {apos : Pos} (hu : X.A.units + 65 < cLine) (ha : CEx X P0 O W E a ma) (hb : CEx X P0 O W E b mb) (hs : starEach [b] X.env = (false, eval b X.env) :: starEach [] X.env := by rfl) (hs2 : starEach [b] X.env = [(false, eval b X.env)] := by rfl) (hpl : (backTo pos (starEach [] X.env)).any (·.1) = false := by rfl)
    (hbase : attributeBase a "index" X.env (eval a X.env) = eval a X.env := by rfl) (hline : (apos.endLine == pos.line) = true := by rfl) (hfew : Few X pos [b] := by rfl) : CEx X P0 O W E (.Call (.Attribute a "index" apos) [b] [] pos) (cIndex ma mb) :=
  PE.imp (PE.or (pe_bm PySem.F.plainAttrs_list PySem.F.slot_list_index PySem.F.type_list_index (mt_indexD hu) ha (pa_cons hb pa_nil hs) hbase hfew hline hs hpl)
    (pe_m1 PySem.F.slot_str_index PySem.F.type_str_index mt_sindex ha hb hs2 hbase hline)) fun σ H Q ⟨ρ, S, h⟩ => by
    unfold cIndex at h
    cases em : ma ρ with
    | stk => rw [em] at h; exact h.elim
    | er c ds =>
      rw [em] at h
      exact .inl ⟨ρ, S, by rw [em]; exact h⟩
    | ok p =>
      obtain ⟨h1, ρ1⟩ := p
      rw [em] at h
      obtain ⟨x0, e0, h⟩ := Res.of_nox (show Res E W σ H ((h1.d ρ1).nox >>= _) _ from h)
      cases x0 <;> first | (exact h.elim) | skip
      · rename_i x
        refine .inr ⟨ρ, S, ?_⟩
        rw [em]
        intro v H1 S1 k1 r1
        obtain rfl := (r1.d S1 e0).str
        have h : Res E W σ H (mb ρ1 >>= fun q => (q.1.d q.2).nox >>= fun y => (indexD (.str x) y).nox >>= fun z => R.ok (Hd.fr z, q.2)) _ := h
        refine ⟨⟨x, rfl⟩, ρ1, S1, (h.of_bind.keep k1).mono fun ⟨h2, ρ2⟩ q w H2 S2 k2 r2 => ?_⟩
        obtain ⟨y, e2, q⟩ := q.of_nox
        obtain ⟨z, e3, q⟩ := q.of_nox
        have rw2 := r2.d S2 e2
        cases y <;> simp only [indexD, reduceCtorEq] at e3
        rename_i y
        obtain rfl := rw2.str
        split at e3
        · rename_i i rest eo
          cases e3
          exact ⟨x, y, i, rest, rfl, rfl, eo, (out_of (K := X.K) S2 (k1.trans k2) q).flat (by unfold Rep; rfl) rfl⟩
        · cases e3
      · rename_i ds0 _
        refine .inl ⟨ρ, S, ?_⟩
        rw [em]
        intro v H1 S1 k1 r1
        obtain ⟨l, vs, rfl, t1, t2⟩ := (r1.d S1 e0).lst
        have h : Res E W σ H (mb ρ1 >>= fun q => (h1.d q.2).nox >>= fun x => (q.1.d q.2).nox >>= fun y => (indexD x y).nox >>= fun z => R.ok (Hd.fr z, q.2)) _ := h
        refine ⟨.inl ⟨rfl, _, SqL.of t1⟩, ρ1, S1, (h.of_bind.keep k1).mono fun ⟨h2, ρ2⟩ q w H2 S2 k2 r2 => ?_⟩
        obtain ⟨x, e1, q⟩ := q.of_nox
        obtain ⟨y, e2, q⟩ := q.of_nox
        obtain ⟨z, e3, q⟩ := q.of_nox
        have rw1 := (r1.keep S1 k2).d S2 e1
        have rw2 := r2.d S2 e2
        have o := out_of (K := X.K) S2 (k1.trans k2) q
        cases x <;> simp only [indexD, reduceCtorEq] at e3
        · obtain ⟨_, _, e, _⟩ := rw1
        · rename_i ds _
          split at e3
          · rename_i c
            rw [Bool.and_eq_true] at c
            split at e3
            · rename_i j ej
              cases e3
              obtain ⟨⟨z, g1, g2⟩, g3⟩ := dps_find ej
              exact ⟨l, w, toPy y, toPys ds, j, z, rfl, rfl, by have q := rw1.dp c.1; unfold toPy at q; exact q, rw2.dp c.2, by have q := c.1; unfold dOk toPy at q; exact q, c.2, g1, g2, g3, o.flat (by unfold Rep; rfl) rfl⟩
            · cases e3
          · cases e3
end
variable {ρ : Y.Env}
@[simp] theorem e_index {a b : EM} : cIndex a b ρ = (a ρ >>= fun p => (p.1.d p.2).nox >>= fun x0 => match x0 with
    | .str x => (b p.2 >>= fun q => (q.1.d q.2).nox >>= fun y => (indexD (.str x) y).nox >>= fun z => R.ok (.fr z, q.2))
    | .lst _ => (b p.2 >>= fun q => (p.1.d q.2).nox >>= fun x => (q.1.d q.2).nox >>= fun y => (indexD x y).nox >>= fun z => R.ok (.fr z, q.2))
    | _ => .stk) := by
  unfold cIndex; congr
end Y

set_option Elab.async false
set_option linter.all false
set_option maxRecDepth 100000
namespace Y
open PySem PySem.Spec PyProof.Rows L2
theorem chkO_ws {O W : List Nat} {ρ : Y.Env} (h : (W.all fun i => O.contains i && shAt i ρ) = true) : chkO O W ρ ρ = .ok () := by
  unfold chkO
  rw [if_pos]
  intro j d e
  by_cases c : j ∈ W
  · have := List.all_eq_true.mp h j c
    rw [Bool.and_eq_true] at this
    obtain ⟨h1, h2⟩ := this
    unfold shAt at h2
    rw [e] at h2
    exact .inr (.inl ⟨by simpa using h1, h2⟩)
  · exact .inl ⟨e, c⟩
end Y

set_option Elab.async false
set_option linter.all false
set_option maxRecDepth 100000
namespace Y
open PySem PySem.Spec PyProof.Rows L2
section
variable {X : Cx} {P0 : Pr} {O W : List Nat} {E : EK} {XE : XK} {e : Expr} {es : List Expr} {ms : AM} {pos : Pos} {k np : Nat} {name : Str}
end
end Y

set_option Elab.async false
set_option linter.all false
set_option maxRecDepth 100000
namespace Y.HR
open PySem PySem.Spec PyProof.Rows L2 _root_.HT PySem.W PySem.SeqAt PySem.AutoSeq1 PySem.MeetsSeq PySem.MeetsSeq2 PySem.MeetsSeq3
section
variable {prog : Program} {w : World} {A : Around} {E : Value → Shared → Prop} {s : Shared}
theorem sliceApplied_rev {sl : Addr} {vk : Value} {n : Nat} {Q : Int × Int × Nat → Shared → Prop} (hs : s.heap.IsSliceOf sl .none .none vk) (pk : IsPart vk (some (-1)))
    (h : Q ((n : Int) - 1, -1, n) s) : wpAny (model prog w) A (Builtin.Slice.sliceApplied (.ref sl) (pure (n : Int))) Q E s := by
  obtain ⟨os, hos, hcs, hds⟩ := id hs
  unfold Builtin.Slice.sliceApplied Builtin.Slice.sliceFields
  refine wpAny_bind (wpAny_bind (wpAny_field hos hds (x := .none) rfl (wpAny_bind (wpAny_field hos hds (x := .none) rfl (wpAny_bind (wpAny_field hos hds (x := vk) rfl (wpAny_pure ?_)))))))
  refine wpAny_bind (slicePart_ pk ?_)
  show wpAny _ _ (if ((-1 : Int) == 0) = true then _ else _) _ _ s
  rw [if_neg (by decide)]
  refine wpAny_bind (slicePart_none (wpAny_bind (slicePart_none (wpAny_bind (wpAny_pure ?_)))))
  show wpAny _ _ (pure ((n : Int) - 1, (-1 : Int), Builtin.Slice.slicePlaces ((n : Int) - 1) (-1) (-1))) _ _ s
  have e : Builtin.Slice.slicePlaces ((n : Int) - 1) (-1) (-1) = n := by
    unfold Builtin.Slice.slicePlaces
    have h1 : ¬ ((-1 : Int) > 0) := by omega
    simp only [h1, if_false]
    rw [show (- -1 : Int) = 1 by decide, Int.ediv_one]
    split <;> omega
  rw [e]
  exact wpAny_pure h
theorem fm_congr {α β : Type} {f g : α → Option β} : ∀ l : List α, (∀ m ∈ l, f m = g m) → l.filterMap f = l.filterMap g
  | [], _ => rfl
  | x :: l, h => by
    have ih := fm_congr l fun m hm => h m (by simp [hm])
    rw [List.filterMap_cons, List.filterMap_cons, h x (by simp), ih]
theorem pick_rev (xs : Array Value) : ((List.range xs.size).filterMap fun (m : Nat) => xs[((xs.size : Int) - 1 + (m : Int) * -1).toNat]?).toArray = xs.toList.reverse.toArray := by
  have e : ((List.range xs.size).filterMap fun (m : Nat) => xs[((xs.size : Int) - 1 + (m : Int) * -1).toNat]?) = ((List.range xs.size).map fun k => xs.size - 1 - k).filterMap (xs[·]?) := by
    rw [List.filterMap_map]
    refine fm_congr _ fun m hm => ?_
    have := List.mem_range.mp hm
    show _ = xs[xs.size - 1 - m]?
    have : ((xs.size : Int) - 1 + (m : Int) * -1).toNat = xs.size - 1 - m := by omega
    rw [this]
  rw [e, krv_range, List.filterMap_reverse, krv_all]
theorem getItem_tuple_rev {t sl : Addr} {items : Array Value} {vk : Value} {Q : Value → Shared → Prop} (ht : IsTup s.heap t items) (hs : s.heap.IsSliceOf sl .none .none vk) (pk : IsPart vk (some (-1)))
    (h : Q (.ref s.heap.objs.size) { s with heap := s.heap.push { cls := .type "tuple", data := .seq items.toList.reverse.toArray } })
    (hsz : items.size ≤ sizeLine) : wpAny (model prog w) A (getItem (.ref t) (.ref sl)) Q E s := by
  have htake : sizeOk (.seq items.toList.reverse.toArray) := by
    show items.toList.reverse.toArray.size ≤ sizeLine
    rw [List.size_toArray, List.length_reverse, Array.length_toList]
    exact hsz
  obtain ⟨os, hos, hcs, hds⟩ := id hs
  have hTs : s.TypeIs (.ref sl) "slice" := ⟨os, hos, hcs⟩
  unfold getItem
  try with_reducible refine wpAny_holding ?_
  first | refine wpAny_bind (wpAny_pure ?_) | skip
  refine wpAny_bind (wpAny_sequenceKey ht.typeIs (by decide) ?_)
  refine wpAny_bind (wpAny_callSpecial?_slot (name := Str.ofString "__getitem__") ht.typeIs PyProof.Rows.slot_tuple_getitem
    (wpAny_call_entry PyProof.Rows.slot_tuple_getitem ht.typeIs entry_tuple_getitem ?_ (args_tuple_getitem _ _)))
  show wpAny _ _ (Builtin.Tuple.tupleItemsOf (.ref t) >>= _) _ _ s
  refine wpAny_bind (tupleItemsOf_ ht ?_)
  refine wpAny_bind (wpAny_typeOf hTs ?_)
  rw [if_pos (by decide)]
  refine wpAny_bind (sliceApplied_rev hs pk ?_)
  have hno : ¬ ((((items.size : Int) - 1) == 0 && (-1 : Int) == 1 && items.size == items.size) = true) := by simp
  show wpAny _ _ (if (((items.size : Int) - 1) == 0 && (-1 : Int) == 1 && items.size == items.size) = true then _ else _) _ _ s
  rw [if_neg hno, pick_rev]
  first
    | exact wpAny_bind (m := Builtin.Tuple.tupleExact _) (wpAny_newObj_type (wpAny_pure ⟨_, rfl, wpAny_pure h⟩) htake)
    | exact wpAny_bind (m := Builtin.Tuple.tupleExact _) (wpAny_newObj_type (wpAny_bind (wpAny_pure (wpAny_pure ⟨_, rfl, wpAny_pure h⟩))) htake)
    | exact wpAny_bind (wpAny_bind (m := Builtin.Tuple.tupleExact _) (wpAny_newObj_type (wpAny_pure (wpAny_pure ⟨_, rfl, wpAny_pure h⟩)) htake))
    | exact wpAny_bind (wpAny_bind (m := Builtin.Tuple.tupleExact _) (wpAny_newObj_type (wpAny_pure ⟨_, rfl, wpAny_pure h⟩) htake))
end
end Y.HR
namespace Y
open PySem PySem.Spec PyProof.Rows L2
def RvR (X : Cx) (r : V → Hp → VK → Prop) : Prop :=
  ∀ (pins : List (Addr × Obj)) (s : Shared) (σ : St) (H : Hp) (x : V) (v vk : Value) (sl : Addr) (Q : VK), Inv X pins σ H s → RelV x v → s.heap.IsSliceOf sl .none .none vk → IsPart vk (some (-1)) → r x H Q →
    ∃ T id, typeLookup (.type T) "__getitem__" = pure (some (.builtin id)) ∧ s.TypeIs v T ∧ wpAny (model X.prog X.w) X.A (getItem v (.ref sl)) (EP X pins σ Q) X.xe s
theorem RvR.or {X : Cx} {r r' : V → Hp → VK → Prop} (h : RvR X r) (h' : RvR X r') : RvR X (fun x H Q => r x H Q ∨ r' x H Q) := by
  intro pins s σ H x v vk sl Q I rx hs pk q
  rcases q with q | q
  · exact h pins s σ H x v vk sl Q I rx hs pk q
  · exact h' pins s σ H x v vk sl Q I rx hs pk q
section
variable {X : Cx} {e k : Expr} {te : TE} {p2 pos : Pos}
def rRvT (K : PySem.W.Frag) : V → Hp → VK → Prop := fun x H Q => ∃ a xs, x = .ref a ∧ SqT K H a xs ∧ ∀ p, H p = none → Q (.ref p) (upd H p (.tup xs.reverse))
theorem rv_tup : RvR X (rRvT X.K) := by
  intro pins s σ H x v vk sl Q I rx hs pk h
  obtain ⟨a, xs, rfl, hx, q⟩ := h
  cases rx
  obtain ⟨its, r, ht, hz⟩ := I.tuple hx
  have hlen : its.toArray.size = xs.length := by rw [List.size_toArray]; exact r.length.symm
  refine ⟨"tuple", _, PyProof.Rows.slot_tuple_getitem.lookup, ht.typeIs, ?_⟩
  refine HR.getItem_tuple_rev ht hs pk ?_ (by rw [hlen]; exact hz)
  refine ⟨.ref s.heap.objs.size, _, I.laid (t' := s.toks) (o := .tup xs.reverse) (fun b ob q => Heap.get?_push_of_some _ q) (Nat.le_refl _) ?_, rfl, q _ (I.hok.fresh (Nat.le_refl _))⟩
  exact ⟨by rw [List.length_reverse]; exact hz, _, r.reverse, IsTup.new _ _⟩
def rRvL (K : PySem.W.Frag) : V → Hp → VK → Prop := fun x H Q => ∃ a xs, x = .ref a ∧ SqL K H a xs ∧ ∀ p, H p = none → Q (.ref p) (upd H p (.lst xs.reverse))
theorem rv_list : RvR X (rRvL X.K) := by
  intro pins s σ H x v vk sl Q I rx hs pk h
  obtain ⟨a, xs, rfl, hx, q⟩ := h
  cases rx
  obtain ⟨its, r, ht, hz⟩ := I.list hx
  have hlen := r.length
  refine ⟨"list", _, slot_list_getitem.lookup, ht.isList.typeIs, ?_⟩
  refine wpAny_getItem_list_slice ht.isList hs .none .none pk (by simp) ?_ (by rw [List.size_toArray] <;> omega)
  rw [PySem.W.krv_pick]
  refine ⟨.ref s.heap.objs.size, _, I.laid (t' := s.toks) (o := .lst xs.reverse) (fun b ob q => Heap.get?_push_of_some _ q) (Nat.le_refl _) ?_, rfl, q _ (I.hok.fresh (Nat.le_refl _))⟩
  exact ⟨by rw [List.length_reverse]; exact hz, _, 0, r.reverse, Heap.get?_push_size _ rfl⟩
def tRv (r : V → Hp → VK → Prop) (te : TE) (tk : TO) : TE := fun σ H Q => te σ H fun x H1 => tk σ H1 fun l H2 => l = some (-1) ∧ r x H2 Q
theorem pe_rev {r : V → Hp → VK → Prop} {tk : TO} (hr : RvR X r) (he : PE X e te) (hk : PO X (some k) tk) : PE X (.Subscript e (.Slice none none (some k) p2) pos) (tRv r te tk) := by
  refine ⟨fun pins s σ H Q I h => ?_⟩
  refine Subscript_ (thn (he.run pins s σ H _ I h) fun v s1 ⟨x, H1, I1, r1, q1⟩ => ?_)
  refine wpAny_Slice ?_
  rw [evalPart_none]
  refine wpAny_pure ?_
  refine wpAny_pure ?_
  refine thn (hk.run pins s1 σ H1 _ I1 q1) fun vk s3 ⟨l, H3, I3, pk, e3, q3⟩ => ?_
  subst e3
  have I4 : Inv X pins σ H3 { s3 with heap := s3.heap.push { cls := .type "slice", data := .fields #[.none, .none, vk] } } := I3.kept (t' := s3.toks) fun b ob q => Heap.get?_push_of_some _ q
  obtain ⟨T, id, hT, ht, hg⟩ := hr pins { s3 with heap := s3.heap.push { cls := .type "slice", data := .fields #[.none, .none, vk] } } σ H3 x v vk s3.heap.objs.size Q I4 r1 (Heap.IsSliceOf.new ..) pk q3
  show wpAny (model X.prog X.w) X.A (subscriptTail e (.Slice none none (some k) p2) v (.ref s3.heap.objs.size)) (EP X pins σ Q) X.xe { s3 with heap := s3.heap.push { cls := .type "slice", data := .fields #[.none, .none, vk] } }
  exact tail_any (ops := [v, .ref s3.heap.objs.size]) ht hT hg (by with_unfolding_all rfl)
theorem Reps.revs {K : PySem.W.Frag} {H : Hp} {P : Pr} : ∀ {ds : List D} {vs : List V}, Reps K H ds P vs → Reps K H ds.reverse P vs.reverse
  | [], _, h => by rw [h.nil_iff]; exact Reps.nil
  | d :: ds, _, h => by
    obtain ⟨v, ws, rfl, h1, h2⟩ := h.cons_iff
    rw [List.reverse_cons, List.reverse_cons]
    exact (Reps.revs h2).append (Reps.cons h1 Reps.nil)
def revD : D → R D
  | .tup ds => .ok (.tup ds.reverse)
  | .lst ds => .ok (.lst ds.reverse)
  | _ => .stk
def cRev (a : EM) (k : OM) : EM := fun ρ => do
  let (h, ρ1) ← a ρ
  let (l, ρ2) ← k ρ1
  let d ← (h.d ρ2).nox
  let z ← (if l = some (-1) then revD d else .stk).nox
  pure (.fr z, ρ2)
variable {P0 : Pr} {O W : List Nat} {E : EK} {ma : EM} {mk : OM}
theorem ce_rev (ha : CEx X P0 O W E e ma) (hk : CO X P0 O W E (some k) mk) : CEx X P0 O W E (.Subscript e (.Slice none none (some k) p2) pos) (cRev ma mk) := PE.imp (pe_rev (rv_list.or rv_tup) ha hk) fun σ H Q ⟨ρ, S, h⟩ => by
  refine ⟨ρ, S, h.of_bind.mono fun ⟨h1, ρ1⟩ q x H1 S1 k1 r1 => ⟨ρ1, S1, (q.keep k1).of_bind.mono fun ⟨l, ρ2⟩ q2 H2 S2 k2 => ?_⟩⟩
  obtain ⟨dx, e1, q4⟩ := q2.of_nox
  obtain ⟨dz, e3, q5⟩ := q4.of_nox
  by_cases c : l = some (-1)
  · refine ⟨c, ?_⟩
    rw [if_pos c] at e3
    have rx := (r1.keep S1 k2).d S2 e1
    have out := out_of S2 (k1.trans k2) q5
    unfold revD at e3
    split at e3
    · cases e3
      obtain ⟨p, vs, rfl, t1, t2⟩ := rx.tup
      exact .inr ⟨p, vs, rfl, SqT.of t1, fun p hp => out.newT S2.dom (Reps.revs t2) hp⟩
    · cases e3
      obtain ⟨p, vs, rfl, t1, t2⟩ := rx.lst
      exact .inl ⟨p, vs, rfl, SqL.of t1, fun p hp => out.newL S2.dom (Reps.revs t2) hp⟩
    · cases e3
  · rw [if_neg c] at e3
    cases e3
def cDic0 : EM := fun ρ => .ok (.fr (.dik [] []), ρ)
theorem ce_dic0 : CEx X P0 O W E (.Dict [] [] pos) cDic0 := PE.imp pe_dnewK fun σ H Q ⟨ρ, S, h⟩ => fun p hp => by
  have out : Out X.K (FA P0 O σ) H (.dik [] []) Q := out_of S .refl fun v H' S' k r => h v H' S' k r
  refine out (.ref p) _ (Same.new hp) ?_ fun _ a e => by cases e; exact hp
  unfold Rep
  exact ⟨p, [], rfl, fun z => (S.dom p z).some hp, rfl, .inl upd_same, Reps.nil⟩
end
@[simp] theorem e_rev {a : EM} {k : OM} {ρ : Env} : cRev a k ρ = (a ρ >>= fun p => k p.2 >>= fun q => (p.1.d q.2).nox >>= fun d => (if q.1 = some (-1) then revD d else .stk).nox >>= fun z => R.ok (.fr z, q.2)) := id rfl
@[simp] theorem e_dic0 {ρ : Env} : cDic0 ρ = .ok (.fr (.dik [] []), ρ) := id rfl
@[simp] theorem d_revT {x : List D} : revD (.tup x) = .ok (.tup x.reverse) := id rfl
@[simp] theorem d_revL {x : List D} : revD (.lst x) = .ok (.lst x.reverse) := id rfl
@[simp] theorem d_mulS {x : Str} {k : Int} : mulD (.str x) (.int k) = if k < 2 ^ 20 ∧ -(2 ^ 20) < k ∧ szOk (x.length * k.toNat) = true then .ok (.str (repS k x)) else .stk := id rfl
@[simp] theorem d_mulT {x : List D} {k : Int} : mulD (.tup x) (.int k) = if x.isEmpty = false ∧ -(2 ^ 20) < k ∧ k ≤ 1000 ∧ x.length ≤ 1000 then .ok (.tup (List.replicate k.toNat x).flatten) else .stk := id rfl
@[simp] theorem d_mulL {x : List D} {k : Int} : mulD (.lst x) (.int k) = if k < 2 ^ 20 ∧ -(2 ^ 20) < k ∧ szOk (x.length * k.toNat) = true then .ok (.lst (List.replicate k.toNat x).flatten) else .stk := id rfl
end Y

set_option Elab.async false
set_option linter.all false
set_option maxRecDepth 100000
namespace Y
open PySem PySem.Spec PyProof.Rows L2
section
variable {K : PySem.W.Frag} {P0 : Pr} {O W U : List Nat} {ρ : Y.Env} {σ : L2.St} {H : Hp}
end
section
variable {X : Cx} {P0 : Pr} {O W U : List Nat} {E : EK} {st2 : Stmt} {m : SM}
end
end Y

set_option Elab.async false
set_option linter.all false
set_option maxRecDepth 100000
namespace Y
open PySem PySem.Spec PyProof.Rows L2
section
variable {K : PySem.W.Frag} {H : Hp} {P : Pr}
theorem Reps.at' : ∀ {ds : List D} {vs : List V} {j : Nat} {d : D}, Reps K H ds P vs → ds[j]? = some d → ∃ v, vs[j]? = some v ∧ Rep K H d P v
  | [], _, j, d, _, e => by simp at e
  | x :: ds, _, j, d, h, e => by
    obtain ⟨v, ws, rfl, h1, h2⟩ := h.cons_iff
    cases j with
    | zero => simp at e; subst e; exact ⟨v, rfl, h1⟩
    | succ j => simpa using Reps.at' h2 (by simpa using e)
end
section
variable {X : Cx} {P0 : Pr} {Oc : List Nat} {E : EK} {XE : XK} {e : Expr} {es : List Expr} {ms : AM} {pos : Pos} {k np : Nat} {name : Str}
end
end Y

set_option Elab.async false
set_option linter.all false
set_option maxRecDepth 100000
namespace Y
open PySem PySem.Spec PyProof.Rows L2
section
variable {κ : Type} [DecidableEq κ]
def findD : List κ → List D → κ → Option D
  | k' :: ks, d :: ds, k => if k' = k then some d else findD ks ds k
  | _, _, _ => none
theorem findD_rep {K : PySem.W.Frag} {H : Hp} {P : Pr} {k : κ} : ∀ {ks : List κ} {ds : List D} {vs : List V}, Reps K H ds P vs → ks.length = vs.length →
    (∀ d, findD ks ds k = some d → ∃ v, valV (ks.zip vs) k = some v ∧ Rep K H d P v) ∧ (findD ks ds k = none → valV (ks.zip vs) k = none)
  | [], ds, vs, h, hl => by
    have : vs = [] := List.eq_nil_of_length_eq_zero hl.symm
    subst this
    exact ⟨fun d e => by simp [findD] at e, fun _ => rfl⟩
  | k' :: ks, [], vs, h, hl => by
    have : vs = [] := h.nil_iff
    subst this
    simp at hl
  | k' :: ks, d' :: ds, vs, h, hl => by
    obtain ⟨v, ws, rfl, h1, h2⟩ := h.cons_iff
    obtain ⟨i1, i2⟩ := findD_rep (k := k) (ks := ks) h2 (by simpa using hl)
    by_cases e : k' = k
    · refine ⟨fun d q => ?_, fun q => ?_⟩
      · rw [findD, if_pos e] at q
        cases q
        exact ⟨v, by rw [List.zip_cons_cons]; exact valV_pos e, h1⟩
      · rw [findD, if_pos e] at q; cases q
    · refine ⟨fun d q => ?_, fun q => ?_⟩
      · rw [findD, if_neg e] at q
        obtain ⟨w, w1, w2⟩ := i1 d q
        exact ⟨w, by rw [List.zip_cons_cons, valV_neg e]; exact w1, w2⟩
      · rw [findD, if_neg e] at q
        rw [List.zip_cons_cons, valV_neg e]
        exact i2 q
end
def keyOf : D → Option Key
  | .int i => some (.inl i)
  | .str x => some (.inr x)
  | _ => none
def keysOf : List D → Option (List Key)
  | [] => some []
  | d :: ds => match keyOf d with
    | some k => (keysOf ds).map (k :: ·)
    | none => none
theorem keyOf_rep {K : PySem.W.Frag} {H : Hp} {P : Pr} {d : D} {v : V} {k : Key} (h : RepW K H d P v) (e : keyOf d = some k) : v = kV k := by
  cases d <;> simp only [keyOf, Option.some.injEq, reduceCtorEq] at e
  · subst e; rw [h.int]; rfl
  · subst e; rw [h.str]; rfl
theorem keysOf_rep {K : PySem.W.Frag} {H : Hp} {P : Pr} : ∀ {ds : List D} {vs : List V} {ks : List Key}, Reps K H ds P vs → keysOf ds = some ks → vs = ks.map kV
  | [], vs, ks, h, e => by simp [keysOf] at e; subst e; exact h.nil_iff
  | d :: ds, vs, ks, h, e => by
    obtain ⟨v, ws, rfl, h1, h2⟩ := h.cons_iff
    unfold keysOf at e
    cases q : keyOf d with
    | none => rw [q] at e; cases e
    | some k =>
      rw [q] at e
      cases r : keysOf ds with
      | none => rw [r] at e; cases e
      | some ks' =>
        rw [r] at e
        cases e
        have i := keysOf_rep h2 r
        have j : v = kV k := by
          cases d <;> simp only [keyOf, Option.some.injEq, reduceCtorEq] at q
          · subst q; unfold Rep at h1; rw [h1]; rfl
          · subst q; unfold Rep at h1; rw [h1]; rfl
        rw [i, j]; rfl
/-- what d holds at the key: none where it holds nothing -/
def getDic : D → D → R (Option D)
  | .dik ks ds, y => match keyOf y with
    | some k => .ok (findD ks ds k)
    | none => .stk
  | .dit ks ds, .tup ys => match keysOf ys with
    | some k => .ok (findD ks ds k)
    | none => .stk
  | _, _ => .stk
section
variable {K : PySem.W.Frag} {H : Hp} {P : Pr}
theorem getDic_rep {dx dy : D} {x y : V} {o : Option D} (rx : RepW K H dx P x) (ry : RepW K H dy P y) (e : getDic dx dy = .ok o) :
    ∃ a r, x = .ref a ∧ DGet H a y r ∧ r.isSome = o.isSome ∧ ∀ d, o = some d → ∃ v, r = some v ∧ Rep K H d P v := by
  unfold getDic at e
  split at e
  · rename_i ks ds
    obtain ⟨a, vs, rfl, hl, rd, rs⟩ := rx
    cases q : keyOf dy with
    | none => rw [q] at e; cases e
    | some k =>
      rw [q] at e
      cases e
      obtain ⟨f1, f2⟩ := findD_rep (k := k) rs hl
      refine ⟨a, valV (ks.zip vs) k, rfl, .inl ⟨_, k, rd, keyOf_rep ry q, rfl⟩, ?_, f1⟩
      cases z : findD ks ds k with
      | none => rw [f2 z]; rfl
      | some d => obtain ⟨v, v1, _⟩ := f1 d z; rw [v1]; rfl
  · rename_i ks ds ys
    obtain ⟨a, vs, rfl, hl, rd, rs⟩ := rx
    obtain ⟨b, us, rfl, h1, h2⟩ := ry.tup
    cases q : keysOf ys with
    | none => rw [q] at e; cases e
    | some k =>
      rw [q] at e
      cases e
      obtain ⟨f1, f2⟩ := findD_rep (k := k) rs hl
      have eu := keysOf_rep h2 q
      subst eu
      refine ⟨a, valV (ks.zip vs) k, rfl, .inr ⟨_, k, b, rd, rfl, h1, rfl⟩, ?_, f1⟩
      cases z : findD ks ds k with
      | none => rw [f2 z]; rfl
      | some d => obtain ⟨v, v1, _⟩ := f1 d z; rw [v1]; rfl
  · cases e
end
def cDGet (a b : EM) : EM := fun ρ => do
  let (h1, ρ1) ← a ρ
  let (h2, ρ2) ← b ρ1
  let x ← (h1.d ρ2).nox
  let y ← (h2.d ρ2).nox
  let o ← (getDic x y).nox
  match o with
  | some z => pure (.vl z, ρ2)
  | none => .stk
section
variable {X : Cx} {P0 : Pr} {O W : List Nat} {E : EK} {a b : Expr} {ma mb : EM} {pos : Pos}
theorem ce_dget (hu : X.A.units + 1 < cLine) (ha : CEx X P0 O W E a ma) (hb : CEx X P0 O W E b mb) (hs : NoSl b := by intro _ _; rfl) : CEx X P0 O W E (.Subscript a b pos) (cDGet ma mb) := PE.imp (pe_dget hu ha hb hs) fun σ H Q ⟨ρ, S, h⟩ => by
  refine ⟨ρ, S, h.of_bind.mono fun ⟨h1, ρ1⟩ q x H1 S1 k1 r1 => ⟨ρ1, S1, (q.keep k1).of_bind.mono fun ⟨h2, ρ2⟩ q2 y H2 S2 k2 r2 => ?_⟩⟩
  obtain ⟨dx, e1, q3⟩ := q2.of_nox
  obtain ⟨dy, e2, q4⟩ := q3.of_nox
  obtain ⟨o, e3, q5⟩ := q4.of_nox
  have rx := (r1.keep S1 k2).d S2 e1
  have ry := r2.d S2 e2
  obtain ⟨c, r, rfl, g, _, f⟩ := getDic_rep rx ry e3
  cases o with
  | none => exact q5.elim
  | some z =>
    obtain ⟨v, rfl, rv⟩ := f z rfl
    exact ⟨c, v, rfl, g, q5 v H2 S2 (k1.trans k2) rv⟩
end
section
variable {K : PySem.W.Frag} {P0 : Pr} {O W U : List Nat} {ρ : Y.Env} {σ : L2.St} {H : Hp}
end
section
variable {X : Cx} {P0 : Pr} {O W U : List Nat} {E : EK}
end
@[simp] theorem e_dget {a b : EM} {ρ : Y.Env} : cDGet a b ρ = (a ρ >>= fun p => b p.2 >>= fun q => (p.1.d q.2).nox >>= fun x => (q.1.d q.2).nox >>= fun y => (getDic x y).nox >>= fun o => match o with | some z => R.ok (.vl z, q.2) | none => .stk) := by
  unfold cDGet; congr
end Y

set_option Elab.async false
set_option linter.all false
set_option maxRecDepth 100000
namespace Y
open PySem PySem.Spec PyProof.Rows L2
section
variable {κ : Type} [DecidableEq κ]
end
section
variable {K : PySem.W.Frag} {X : Cx} {P0 : Pr} {O W U : List Nat} {E : EK} {e k : Expr} {ma mk : EM}
end
end Y

set_option Elab.async false
set_option linter.all false
set_option maxRecDepth 100000
namespace Y
open PySem PySem.Spec PyProof.Rows L2
/-- a flow, or the class of a refusal -/
abbrev TM := Env → R ((Fl ⊕ Str) × Env)
abbrev XM := Env → R ((Hd ⊕ Str) × Env)
def sTry (i : Nat) (es : List Str) (m : TM) (h : Str → SM) : SM := fun ρ => do
  let (x, ρ1) ← (m ρ).nox
  match x with
  | .inl f => pure (f, ρ1)
  | .inr c => if c ∈ es ∧ i < ρ1.length then (do
      let (f, ρ2) ← (h c (ρ1.set i none)).nox
      pure (f, ρ2.set i none)) else .stk
/-- what an own class of refusals bears -/
structure ErrZ (K : PySem.W.Frag) (mg : Str → Option Value) (c : Str) : Prop where
  ex : ∃ C, mg c = some (.ref C) ∧ ExcC K C
/-- isinstance(e, x) of the classes es -/
structure IsF (K : PySem.W.Frag) (mg : Str → Option Value) (es : List Str) (x : Str) (f : Str → Bool) : Prop where
  ex : ∃ u, mg x = some (.ref u) ∧ ∀ c ∈ es, ∃ C, mg c = some (.ref C) ∧ PySem.W.kitOne K (.ref C) (.ref u) = some (f c)
/-- except x takes all of the classes es -/
structure CatF (K : PySem.W.Frag) (mg : Str → Option Value) (es : List Str) (x : Str) : Prop where
  ex : ∃ u, mg x = some (.ref u) ∧ ∀ c ∈ es, ∃ C, mg c = some (.ref C) ∧ PySem.W.exmOne K (.ref C) (.ref u) = some true
theorem call_isP {X : Cx} {a D : Addr} {oe : Obj} (Z : ExcC X.K D) (hz : Zc (.ref D) none oe) (hf : ∃ vs, oe.data = .fields vs) (hp : (a, oe) ∈ X.pn) : CallR X (.builtin "isinstance") (rIsE X.K D a) := by
  intro pins s σ H xs us Q I r q
  rcases q with ⟨c, cv, b, rfl, hc, kb, q⟩
  rcases r with _ | ⟨ra, r⟩
  rcases r with _ | ⟨rb, r⟩
  rcases r with _ | _
  have eu := hc _ rb
  subst eu
  obtain rfl := ra
  have g := (I.pin (a, oe) (List.mem_append_left _ hp)).1
  rcases hf with ⟨fs, hd⟩
  rcases oe with ⟨oc, od, oda, osl⟩
  rcases hz with ⟨z1, z2⟩
  dsimp only at z1 z2 hd
  subst z1; subst z2; subst hd
  have J : PySem.W.InstAt s.heap a ⟨.ref D, none, .fields fs, osl⟩ D none := ⟨g, rfl, rfl, trivial⟩
  exact PySem.W.kia_one (PySem.W.handS_kitx_exc Z.hg Z.hk Z.hs Z.hd Z.ha Z.hn Z.ht Z.hm) I.kIn J kb (fun y => nomatch y) fun tk => ⟨V.bl b, H, I.kept (t' := tk) fun _ _ y => y, rfl, q⟩
section
variable {X : Cx} {P0 : Pr} {O W U : List Nat} {E : EK} {XE : XK} {a b c e : Expr} {es : List Expr} {ma mb mc : EM} {ms : AM} {pos : Pos} {k np : Nat} {name : Str} {st : Stmt} {sts : List Stmt} {m n : SM}
def tX (K : PySem.W.Frag) (mg : Str → Option Value) (P0 : Pr) (O W : List Nat) (m : XM) (Ws : WX) : TE := fun σ H Q => ∃ ρ, Sim K P0 O W ρ σ H ∧
  Res E00 W σ H (m ρ) fun a => match a.1 with
    | .inl h => ∀ v H', Sim K P0 O W a.2 σ H' → Keep W σ H H' → HdR K P0 O H σ H' h v → Q v H'
    | .inr c => ∀ H', Sim K P0 O W a.2 σ H' → Keep W σ H H' → ∃ C, mg c = some (.ref C) ∧ Ws (.ref C) none σ H'
def tTb (K : PySem.W.Frag) (mg : Str → Option Value) (P0 : Pr) (O W U : List Nat) (m : TM) (Ws : WX) : TS := fun D σ H => ∃ ρ, Sim K P0 O W ρ σ H ∧
  Res E00 O σ H (m ρ) fun a => match a.1 with
    | .inl f => ∀ σ' H', Sim K P0 O W a.2 σ' H' → Tr O U σ H σ' H' → σ'.length = σ.length → Fin K P0 O H D σ' H' f
    | .inr c => ∀ σ' H', Sim K P0 O W a.2 σ' H' → Tr O U σ H σ' H' → σ'.length = σ.length → ∃ C, mg c = some (.ref C) ∧ Ws (.ref C) none σ' H'
/-- f(..) that may refuse -/
def cXcall (g : List D → R Hd) (m : AM) : XM := fun ρ => do
  let (hs, ρ1) ← m ρ
  let ds ← (vsOf hs).nox
  match g ds with
  | .ok (.ow _) => .stk
  | .ok h => pure (.inl h, ρ1)
  | .er c [] => pure (.inr c, ρ1)
  | _ => .stk
theorem tX_call {g : List D → R Hd} {Ws : WX} (hl : ALen ms np) (σ : St) (H : Hp) (Q : VK) (h : tX X.K X.mg P0 O W (cXcall g ms) Ws σ H Q) :
    tCallS (spD X.K X.mg np [] (pureF g)) (WE Ws) (tMs X.K P0 O W E00 ms) σ H Q := by
  obtain ⟨ρ, S, h⟩ := h
  refine ⟨ρ, S, ?_⟩
  cases em : ms ρ with
  | stk => unfold cXcall at h; rw [em] at h; exact h.elim
  | er c ds => unfold cXcall at h; rw [em] at h; exact h
  | ok p =>
    obtain ⟨hs, ρ1⟩ := p
    unfold cXcall at h
    rw [em] at h
    intro vs H1 S1 k1 r1
    obtain ⟨ds, e1, q⟩ := Res.of_nox (show Res E00 W σ H ((vsOf hs).nox >>= _) _ from h)
    have rr := HdRs.vs r1 e1
    have lv : vs.length = np := by rw [HdRs.len r1]; exact hl ρ hs ρ1 em
    refine ⟨lv, ds, FA P0 O σ, sim_args S1.dom rr, by rw [← rr.length]; exact lv, ?_⟩
    unfold pureF
    cases eg : g ds with
    | stk => rw [eg] at q; exact q.elim
    | er c xs =>
      rw [eg] at q
      cases xs with
      | cons x xs => exact q.elim
      | nil =>
        have q : ∀ H', Sim X.K P0 O W ρ1 σ H' → Keep W σ H H' → ∃ C, X.mg c = some (.ref C) ∧ Ws (.ref C) none σ H' := q
        exact fun H' kp => ⟨rfl, q H' (S1.same kp.nil) (k1.trans (Keep.same kp.nil))⟩
    | ok hd =>
      rw [eg] at q
      intro v H2 k2 _ r2
      have sm := Keep.nil k2
      cases hd with
      | ow j => exact q.elim
      | fr d =>
        have q : ∀ v H', Sim X.K P0 O W ρ1 σ H' → Keep W σ H H' → HdR X.K P0 O H σ H' (.fr d) v → Q v H' := q
        exact q v H2 (S1.same sm) (k1.trans (Keep.same sm)) ⟨r2.1.less (fun b z => (S1.same sm).dom b ((FA_nil b).mp z)) fun b z => .inl z, fun m a e => Classical.byContradiction fun z => k1.some a z (r2.2 m a e)⟩
      | vl d =>
        have q : ∀ v H', Sim X.K P0 O W ρ1 σ H' → Keep W σ H H' → HdR X.K P0 O H σ H' (.vl d) v → Q v H' := q
        exact q v H2 (S1.same sm) (k1.trans (Keep.same sm)) (Rep.less (fun b z => (S1.same sm).dom b ((FA_nil b).mp z)) r2 fun b z => .inl z)
theorem cx_call {g : List D → R Hd} {p : Pos} {Ws : WX} (G : Glo X.prog X.w X.K X.mg X.base name k np [] (pureF g)) (tk : L2N.Takes X Ws) (hr : Room k X.A) (ha : CA X P0 O W E00 (e :: es) ms) (hl : ALen ms np) (hg : Gl X name := by rfl) (hdb : (name == ("__debug__" : Str)) = false := by decide)
    (he : starEach (e :: es) X.env = (false, eval e X.env) :: starEach es X.env := by rfl) (hpl : (backTo pos (starEach es X.env)).any (·.1) = false := by rfl) : PE X (.Call (.Name name p) (e :: es) [] pos) (tX X.K X.mg P0 O W (cXcall g ms) Ws) := by
  obtain ⟨f, fd, ps, hm, hk, hb, _, F⟩ := G.ex
  exact PE.imp (pe_callS (E := WE Ws) F hr hg hm hk hb (fun σ => L2N.passAt tk σ) ha hdb he hpl) fun σ H Q h => tX_call hl σ H Q h
def tbRet (m : XM) : TM := fun ρ => do
  let (x, ρ1) ← m ρ
  match x with
  | .inl h => pure (.inl (.rt h), ρ1)
  | .inr c => pure (.inr c, ρ1)
theorem cb_ret {xm : XM} {Ws : WX} (h : PE X e (tX X.K X.mg P0 O W xm Ws)) : PS X (.Return (some e) pos) (tTb X.K X.mg P0 O W U (tbRet xm) Ws) := PS.imp (ps_ret h) fun D σ H ⟨ρ, S, h⟩ =>
  ⟨ρ, S, (h.of_bind.down S.sub).mono fun ⟨x, ρ1⟩ q => by
    cases x with
    | inl hd => exact fun v H1 S1 k1 r1 => q σ H1 S1 (Tr.of S.sub k1) rfl v r1
    | inr c => exact fun H1 S1 k1 => q σ H1 S1 (Tr.of S.sub k1) rfl⟩
theorem cb_one {Ws : WX} {m : TM} (h : PS X st (tTb X.K X.mg P0 O W U m Ws)) : PSs X [st] (tTb X.K X.mg P0 O W U m Ws) := pss_one h
/-- the error lies in slot i -/
def tZ (K : PySem.W.Frag) (P0 : Pr) (O W U : List Nat) (i : Nat) (a : Addr) (m : SM) : TS := fun D σ H => σ[i]? = some (some (.ref a)) ∧ tSt K P0 O W U E00 m D σ H
def tZe (K : PySem.W.Frag) (P0 : Pr) (O W : List Nat) (i : Nat) (a : Addr) (m : EM) : TE := fun σ H Q => σ[i]? = some (some (.ref a)) ∧ tM K P0 O W E00 m σ H Q
def tZa (K : PySem.W.Frag) (P0 : Pr) (O W : List Nat) (i : Nat) (a : Addr) (m : AM) : TA := fun σ H Q => σ[i]? = some (some (.ref a)) ∧ tMs K P0 O W E00 m σ H Q
variable {i : Nat} {ad : Addr}
theorem cz_of (h : CS X P0 O W U E00 st m) : PS X st (tZ X.K P0 O W U i ad m) := PS.imp h fun _ _ _ q => q.2
theorem cz_one (h : PS X st (tZ X.K P0 O W U i ad m)) : PSs X [st] (tZ X.K P0 O W U i ad m) := pss_one h
theorem cz_cons (h : PS X st (tZ X.K P0 O W U i ad m)) (h2 : PSs X sts (tZ X.K P0 O W U i ad n)) (hi : i ∈ U := by decide) : PSs X (st :: sts) (tZ X.K P0 O W U i ad (sSeq m n)) := PSs.imp (pss_cons h h2) fun D σ H ⟨e, ρ, S, h⟩ =>
  ⟨e, ρ, S, h.of_bind.mono fun ⟨f, ρ1⟩ q σ1 H1 S1 t1 l1 => by
    cases f with
    | nx =>
      refine ⟨by rw [t1.unch i hi]; exact e, ρ1, S1, (Res.keepT (show Res E00 O σ H (n ρ1) _ from q) t1).mono fun ⟨f2, ρ2⟩ q2 σ2 H2 S2 t2 l2 => ?_⟩
      have q3 := q2 σ2 H2 S2 (t1.trans t2) (l2.trans l1)
      cases f2 with
      | nx => exact q3
      | bk => exact q3
      | ct => exact q3
      | rt hd => exact fun v r => q3 v (r.back t1.some)
    | bk => exact q σ1 H1 S1 t1 l1
    | ct => exact q σ1 H1 S1 t1 l1
    | rt hd => exact q σ1 H1 S1 t1 l1⟩
/-- isinstance(e, x) -/
theorem cz_isi {C : Addr} {oe : Obj} {cn x nm : Str} {f : Str → Bool} {cl : List Str} {p q q2 : Pos} (Z : ErrZ X.K X.mg cn) (F : IsF X.K X.mg cl x f) (hc : cn ∈ cl) (hC : X.mg cn = some (.ref C)) (hz : Zc (.ref C) none oe) (hf : ∃ vs, oe.data = .fields vs) (hp : (ad, oe) ∈ X.pn) (hm : X.mg "isinstance" = none)
    (hN : X.N[i]? = some nm := by rfl) (hv : Vis X.env.scope nm := by first | exact Or.inl rfl | exact Or.inr (Or.inl rfl)) (hd : (nm == ("__debug__" : Str)) = false := by decide) (hcd : (nm == ("__classdict__" : Str)) = false := by decide)
    (hg : Gl X "isinstance" := by rfl) (hg2 : Gl X x := by rfl) (hdb : (x == ("__debug__" : Str)) = false := by decide)
    (he : starEach [.Name nm q, .Name x q2] X.env = (false, eval (.Name nm q) X.env) :: starEach [.Name x q2] X.env := by rfl) (hpl : (backTo pos (starEach [.Name x q2] X.env)).any (·.1) = false := by rfl) (he2 : starEach [.Name x q2] X.env = (false, eval (.Name x q2) X.env) :: starEach [] X.env := by rfl) :
    PE X (.Call (.Name "isinstance" p) [.Name nm q, .Name x q2] [] pos) (tZe X.K P0 O W i ad (cC (.bl (f cn)))) := by
  obtain ⟨C', hC', Zc'⟩ := Z.ex
  rw [hC] at hC'
  cases hC'
  obtain ⟨u, hu, hk⟩ := F.ex
  refine PE.imp (pe_callB (call_isP Zc' hz hf hp) hg hm bo_isinstance (pa_cons (pe_var (i := i) hN hv hd hcd) (pa_cons (pe_glob (v := .ref u) hg2 hu rfl hdb) pa_nil he2) he) (by decide) (by decide) he hpl) fun σ H Q ⟨e, ρ, S, q⟩ => ?_
  obtain ⟨C2, hC2, hk⟩ := hk cn hc
  rw [hC] at hC2
  cases hC2
  exact ⟨.ref ad, e, .ref u, .ref u, f cn, rfl, fun _ z => z, hk, q (.bl (f cn)) H S .refl ⟨by unfold Rep; rfl, fun z => by cases z⟩⟩
theorem cz_asg {tm : GM} {is : List Nat} (h : PE X e (tZe X.K P0 O W i ad ma)) (hg : CG X P0 O W tg tm is) (ho : ∀ i ∈ is, i ∉ O := by decide) (hu : ∀ i ∈ is, i ∉ U := by decide) (hs : swapsWithSole [tg] e pos.line X.env = pure false := by rfl) (hw : swappedStores [tg] e X.env = pure none := by rfl) (h1 : (assignEach [tg] X.env).map (·.2) = [assign tg X.env] := by rfl) : PS X (.Assign [tg] e pos) (tZ X.K P0 O W U i ad (sAsg ma tm)) :=
  PS.imp (ps_asg h hg hs hw h1) fun D σ H ⟨e, ρ, S, h⟩ => by
    refine ⟨e, ρ, S, (h.of_bind.down S.sub).mono fun ⟨hd, ρ1⟩ q v H1 S1 k1 r1 => ?_⟩
    obtain ⟨d, e1, q⟩ := q.of_nox
    obtain ⟨ρ2, e2, q⟩ := q.of_nox
    exact ⟨ρ1, d, ρ2, S1, r1.v e1, e2, fun σ' S' l h' => q σ' H1 S' ((Tr.of S.sub k1).trans ⟨fun _ _ e _ => e, fun _ e => e, fun b z => .inl ((OA_of (fun i hi => h' i fun y => ho i y hi) b).mp z), fun j hj => h' j fun y => hu j y hj⟩) l⟩
theorem cz_ret (h : PE X e (tZe X.K P0 O W i ad ma)) : PS X (.Return (some e) pos) (tZ X.K P0 O W U i ad (sRet ma)) := PS.imp (ps_ret h) fun D σ H ⟨e, ρ, S, h⟩ =>
  ⟨e, ρ, S, (h.of_bind.down S.sub).mono fun ⟨hd, ρ1⟩ q v H1 S1 k1 r1 => q σ H1 S1 (Tr.of S.sub k1) rfl v r1⟩
/-- in a suite a slot is set -/
theorem cs_asgU {tm : GM} {is : List Nat} (h : CEx X P0 O W E e ma) (hg : CG X P0 O W tg tm is) (ho : ∀ i ∈ is, i ∉ O := by decide) (hu : ∀ i ∈ is, i ∉ U := by decide) (hs : swapsWithSole [tg] e pos.line X.env = pure false := by rfl) (hw : swappedStores [tg] e X.env = pure none := by rfl) (h1 : (assignEach [tg] X.env).map (·.2) = [assign tg X.env] := by rfl) : CS X P0 O W U E (.Assign [tg] e pos) (sAsg ma tm) :=
  PS.imp (ps_asg h hg hs hw h1) fun D σ H ⟨ρ, S, h⟩ => by
    refine ⟨ρ, S, (h.of_bind.down S.sub).mono fun ⟨hd, ρ1⟩ q v H1 S1 k1 r1 => ?_⟩
    obtain ⟨d, e1, q⟩ := q.of_nox
    obtain ⟨ρ2, e2, q⟩ := q.of_nox
    exact ⟨ρ1, d, ρ2, S1, r1.v e1, e2, fun σ' S' l h' => q σ' H1 S' ((Tr.of S.sub k1).trans ⟨fun _ _ e _ => e, fun _ e => e, fun b z => .inl ((OA_of (fun i hi => h' i fun y => ho i y hi) b).mp z), fun j hj => h' j fun y => hu j y hj⟩) l⟩
end
section
variable {K : PySem.W.Frag} {P0 : Pr} {O W U : List Nat} {ρ : Env} {σ : St} {H : Hp}
theorem Sim.unset (S : Sim K P0 O W ρ σ H) {i : Nat} (hi : i ∉ O) (x : Option V) : Sim K P0 O W (ρ.set i none) (σ.set i x) H := by
  have no : ∀ {j : Nat} {d : D}, (ρ.set i none)[j]? = some (some d) → i ≠ j ∧ ρ[j]? = some (some d) := fun {j d} e => by
    by_cases hj : i = j
    · subst hj
      have h1 : i < ρ.length := by have := (List.getElem?_eq_some_iff.mp e).1; simpa using this
      rw [List.getElem?_set_self h1] at e; cases e
    · rw [List.getElem?_set_ne hj] at e; exact ⟨hj, e⟩
  refine S.move (by simpa using S.len) (fun j hj => ?_) (fun j hj d' e => (no e).2) fun j d' e n => ?_
  · exact List.getElem?_set_ne (fun (e : i = j) => hi (by rw [e]; exact hj))
  · obtain ⟨h1, h2⟩ := no e
    rw [List.getElem?_set_ne h1]
    exact S.val j d' h2 n
theorem Tr.unset {i : Nat} {x : Option V} (hi : i ∉ O) (hu : i ∉ U) : Tr O U σ H (σ.set i x) H :=
  ⟨fun _ _ e _ => e, fun _ e => e, fun b ⟨j, hj, z⟩ => .inl ⟨j, hj, by rwa [List.getElem?_set_ne fun (y : i = j) => hi (y ▸ hj)] at z⟩, fun j hj => List.getElem?_set_ne fun (y : i = j) => hu (y ▸ hj)⟩
theorem Tr.fewer {U' : List Nat} {σ' : St} {H' : Hp} (t : Tr O U σ H σ' H') (h : ∀ i ∈ U', i ∈ U) : Tr O U' σ H σ' H' := ⟨t.keep, t.some, t.own, fun i hi => t.unch i (h i hi)⟩
end
section
variable {X : Cx} {P0 : Pr} {O W U : List Nat} {E : EK}
theorem PSs.exi {sts : List Stmt} {α : Type} {p : α → Prop} {t : α → TS} (h : ∀ a, p a → PSs X sts (t a)) : PSs X sts (fun D σ H => ∃ a, p a ∧ t a D σ H) := ⟨fun pins s σ H D I ⟨a, pa, q⟩ => (h a pa).run pins s σ H D I q⟩
/-- try: body; except x as n: suite -/
theorem cs_try {tm : TM} {h : Str → SM} {i : Nat} {cl : List Str} {x n : Str} {body suite : List Stmt} {b₀ : Stmt} {np pos pos' : Pos} (hN : X.N.Nodup) (hcat : CatF X.K X.mg cl x) (hi : X.N[i]? = some n)
    (hb : ∀ (Ws : WX) (pn : List (Addr × Obj)) (xe : Value → Shared → Prop), L2N.Takes (X.tr pn xe) Ws → PSs (X.tr pn xe) body (tTb X.K X.mg P0 O W U tm Ws))
    (hsu : ∀ (a : Addr) (oe : Obj) (C : Addr) (cn : Str) (pn : List (Addr × Obj)), X.mg cn = some (.ref C) → cn ∈ cl → L2N.Zn (.ref C) none oe → (∃ vs, oe.data = .fields vs) → PSs (X.suite a ((a, oe) :: pn)) (b₀ :: suite) (tZ X.K P0 O W (i :: U) i a (h cn)))
    (hio : i ∉ O := by decide) (hiu : i ∉ U := by decide) (hs : X.stack = X.env :: X.outer := by rfl) (hf : X.env.frame = some X.env.locals := by rfl) (hln : X.env.kindOf n = some .local := by rfl) (hg : Gl X x := by rfl) (hdb : (x == ("__debug__" : Str)) = false := by decide) (tk : L2N.Takes X fun _ _ _ _ => False := by exact fun _ _ z => by rcases z with ⟨_, _, _, _, _, _, _, _, _, _, _, _, _, _, _, _, y⟩; exact y.elim) :
    CS X P0 O W U E (.Try body [.ExceptHandler (some (.Name x np)) (some n) (b₀ :: suite) pos'] [] [] pos) (sTry i cl tm h) := by
  obtain ⟨u, hu, hk⟩ := hcat.ex
  refine PS.imp (L2N.ps_try_as (i := i) (c := .ref u) (Wout := fun _ _ _ _ => False) (ts := fun a cls d D σ H => ∃ q : Addr × Str, (cls = .ref q.1 ∧ d = none ∧ X.mg q.2 = some (.ref q.1) ∧ q.2 ∈ cl) ∧ tZ X.K P0 O W (i :: U) i a (h q.2) D σ H) hs hf hN hi hln ⟨hg, hdb, .inl hu⟩ tk (fun Ws pn xe t _ => hb Ws pn xe t) (fun a oe cls d pn hz hfl => PSs.exi fun q hq => ?_)) fun D σ H ⟨ρ, S, r⟩ => ?_
  · obtain ⟨rfl, rfl, h1, h2⟩ := hq
    exact hsu a oe q.1 q.2 pn h1 h2 hz hfl
  · obtain ⟨⟨y, ρ1⟩, em, r⟩ := Res.of_nox r
    refine ⟨ρ, S, ?_⟩
    rw [em]
    cases y with
    | inl f => exact r
    | inr c =>
      have r : Res E O σ H (if c ∈ cl ∧ i < ρ1.length then (do
        let (f, ρ2) ← (h c (ρ1.set i none)).nox
        pure (f, ρ2.set i none)) else .stk) _ := r
      by_cases hc : c ∈ cl ∧ i < ρ1.length
      · rw [if_pos hc] at r
        intro σ1 H1 S1 t1 l1
        obtain ⟨C, hC, hm⟩ := hk c hc.1
        refine ⟨C, hC, true, hm, fun _ a na => ⟨(C, c), ⟨rfl, rfl, hC, hc.1⟩, List.getElem?_set_self (Nat.lt_of_lt_of_le hc.2 S1.len), ρ1.set i none, S1.unset hio _, ?_⟩, fun z => Bool.noConfusion z⟩
        obtain ⟨⟨f, ρ2⟩, eh, r0⟩ := Res.of_nox r
        · rw [eh]
          intro σ2 H2 S2 t2 l2
          have t3 : Tr O U σ H σ2 H2 := t1.trans ((Tr.unset hio hiu).trans (t2.fewer fun j hj => List.mem_cons_of_mem _ hj))
          have l3 : σ2.length = σ.length := by rw [l2, List.length_set, l1]
          have q := r0 (σ2.set i none) H2 (S2.unset hio none) (t3.trans (Tr.unset hio hiu)) (by rw [List.length_set, l3])
          have tt : Tr O (i :: U) σ1 H1 σ1 H1 := .refl
          cases f with
          | nx => exact q
          | bk => exact q
          | ct => exact q
          | rt hd => 
            intro v r
            refine q v ?_
            have r := r.back (Hs' := H) t1.some
            have fa : ∀ b, FA P0 O (σ2.set i none) b → FA P0 O σ2 b := fun b z => z.imp id fun ⟨j, hj, e⟩ => ⟨j, hj, by rwa [List.getElem?_set_ne fun (y : i = j) => hio (y ▸ hj)] at e⟩
            cases hd with
            | fr d => exact ⟨r.1.less S2.dom fa, r.2⟩
            | vl d => exact Rep.less S2.dom r fa
            | ow j => exact ⟨r.1, by rw [List.getElem?_set_ne fun (y : i = j) => hio (y ▸ r.1)]; exact r.2⟩
      · rw [if_neg hc] at r; exact r.elim
end
end Y

set_option Elab.async false
set_option linter.all false
set_option maxRecDepth 100000
namespace Y
open PySem PySem.Spec PyProof.Rows L2
/-- x stands for all refusals, or is the class -/
def isErr (x c : Str) : Bool := x == c || x == "NetError"
theorem all_nil {α : Type} {p : α → Prop} : ∀ c ∈ ([] : List α), p c := fun _ h => nomatch h
theorem all_cons {α : Type} {p : α → Prop} {c : α} {cl : List α} (h : p c) (t : ∀ c ∈ cl, p c) : ∀ x ∈ c :: cl, p x := List.forall_mem_cons.mpr ⟨h, t⟩
theorem isi_of {o : Option Bool} {b x : Bool} (h : o = some b) (e : b = x := by decide +kernel) : o = some x := e ▸ h
theorem kit_own {K : PySem.W.Frag} {C X : Addr} {b : Bool} (hs : PySem.W.subIn K (.ref C) (.ref C) = some true) (hd : PySem.W.hasDictIn K X = true) (ht : PySem.W.typeIn K (.ref X) = some (.type "type")) (h : PySem.W.subIn K (.ref C) (.ref X) = some b) : PySem.W.kitOne K (.ref C) (.ref X) = some b := by
  unfold PySem.W.kitOne
  by_cases e : C = X
  · subst e
    rw [hs] at h
    cases h
    rw [if_pos (by simp)]
  · rw [if_neg (by simpa using e)]
    obtain ⟨cd, hc, _⟩ := PySem.W.any_some hd
    show (if ((PySem.W.clsIn K X).isSome && PySem.W.typeIn K (.ref X) == some (.type "type")) = true then PySem.W.subIn K (.ref C) (.ref X) else none) = some b
    rw [hc, ht, if_pos (by simp)]
    exact h
variable {ρ : Y.Env}
@[simp] theorem e_try {i : Nat} {es : List Str} {m : TM} {h : Str → SM} : sTry i es m h ρ = ((m ρ).nox >>= fun p => match p.1 with | .inl f => R.ok (f, p.2) | .inr c => if c ∈ es ∧ i < p.2.length then ((h c (p.2.set i none)).nox >>= fun q => R.ok (q.1, q.2.set i none)) else .stk) := by
  unfold sTry; congr
@[simp] theorem e_xcall {g : List D → R Hd} {m : AM} : cXcall g m ρ = (m ρ >>= fun p => (vsOf p.1).nox >>= fun ds => match g ds with | .ok (.ow _) => .stk | .ok h => R.ok (.inl h, p.2) | .er c [] => R.ok (.inr c, p.2) | _ => .stk) := id rfl
@[simp] theorem e_tbret {m : XM} : tbRet m ρ = (m ρ >>= fun p => match p.1 with | .inl h => R.ok (.inl (.rt h), p.2) | .inr c => R.ok (.inr c, p.2)) := id rfl
end Y

set_option Elab.async false
set_option linter.all false
set_option maxRecDepth 100000
namespace Y
open PySem PySem.Spec PyProof.Rows L2
def DicU : HO → Prop
  | .dK _ => True
  | .dT _ => True
  | _ => False
theorem Rd.only {H : Hp} {a b : Addr} {u o : HO} (hu : DicU u) (r : Rd H a u) (e : H b = Option.some o) (n1 : ¬ DicU o) (n2 : ∀ x w, o = .frz x w → ¬ DicU w) : b ≠ a := by
  rintro rfl
  rcases r with r | ⟨x, r⟩
  · rw [e] at r; cases r; exact n1 hu
  · rw [e] at r; cases r; exact n2 _ _ rfl hu
section
variable {K : PySem.W.Frag} {H H' : Hp} {a : Addr} {u : HO}
theorem Rd.move (hu : DicU u) (k : ∀ b, b ≠ a → H' b = H b) (r : Rd H a u) (r' : Rd H' a u) {b : Addr} {o : HO} (n2 : ∀ x w, o ≠ .frz x w) (h : Rd H b o) : Rd H' b o := by
  by_cases e : b = a
  · subst e
    have : o = u := by
      rcases r with r | ⟨x, r⟩ <;> rcases h with h | ⟨y, h⟩ <;> rw [r] at h <;> cases h <;> first | rfl | exact absurd rfl (n2 _ _) | exact hu.elim
    rw [this]; exact r'
  · rcases h with h | ⟨y, h⟩
    · exact .inl (by rw [k b e]; exact h)
    · exact .inr ⟨y, by rw [k b e]; exact h⟩
theorem TabS.rd (hu : DicU u) (k : ∀ b, b ≠ a → H' b = H b) (r : Rd H a u) {p b : Addr} {q : Str} (t : TabP H p q b) : TabP H' p q b := by
  obtain ⟨e, ps, h1, h2, h3⟩ := t
  refine ⟨e, ps, ?_, h2, fun pos cv hc => ?_⟩
  · rw [k b (Rd.only hu r h1 (fun z => z) fun x w z => by cases z)]
    exact h1
  · obtain ⟨c, e1, e2⟩ := h3 pos cv hc
    refine ⟨c, e1, ?_⟩
    rw [k c (Rd.only hu r e2 (fun z => z) fun x w z => by unfold LamX.CodeO at z; cases z)]
    exact e2
mutual
theorem Rep.rd (hu : DicU u) (k : ∀ b, b ≠ a → H' b = H b) (r : Rd H a u) (r' : Rd H' a u) : ∀ {d : D} {P : Pr} {v : V}, Rep K H d P v → Rep K H' d P v
  | .non, _, _, h => by unfold Rep at h ⊢; exact h
  | .bl _, _, _, h => by unfold Rep at h ⊢; exact h
  | .int _, _, _, h => by unfold Rep at h ⊢; exact h
  | .str _, _, _, h => by unfold Rep at h ⊢; exact h
  | .tup ds, P, v, h => by
    unfold Rep at h ⊢
    obtain ⟨b, vs, e, h1, h2⟩ := h
    exact ⟨b, vs, e, by rw [k b (Rd.only hu r h1 id fun _ _ z => by cases z)]; exact h1, Reps.rd hu k r r' h2⟩
  | .lst ds, P, v, h => by
    unfold Rep at h ⊢
    obtain ⟨b, vs, e, h0, h1, h2⟩ := h
    exact ⟨b, vs, e, h0, by rw [k b (Rd.only hu r h1 id fun _ _ z => by cases z)]; exact h1, Reps.rd hu k r r' h2⟩
  | .arg ns, P, v, h => by
    unfold Rep at h ⊢
    obtain ⟨b, e, h⟩ := h
    refine ⟨b, e, ?_⟩
    rcases h with ⟨h0, h1⟩ | h
    · exact .inl ⟨h0, Rd.move hu k r r' (fun _ _ z => by cases z) h1⟩
    · exact .inr h
  | .dik ks ds, P, v, h => by
    unfold Rep at h ⊢
    obtain ⟨b, vs, e, h0, hl, h1, h2⟩ := h
    exact ⟨b, vs, e, h0, hl, Rd.move hu k r r' (fun _ _ z => by cases z) h1, Reps.rd hu k r r' h2⟩
  | .dit ks ds, P, v, h => by
    unfold Rep at h ⊢
    obtain ⟨b, vs, e, h0, hl, h1, h2⟩ := h
    exact ⟨b, vs, e, h0, hl, Rd.move hu k r r' (fun _ _ z => by cases z) h1, Reps.rd hu k r r' h2⟩
  | .ftu ds, P, v, h => by
    unfold Rep at h ⊢
    obtain ⟨b, vs, o, e, h1, hd, h2⟩ := h
    have nb : b ≠ a := fun z => by
      subst z
      rcases r with r | ⟨x, r⟩ <;> rw [r] at h1 <;> cases h1 <;> exact hu.elim
    exact ⟨b, vs, o, e, by rw [k b nb]; exact h1, hd, Reps.rd hu k r r' h2⟩
  | .tab p q, P, v, h => by
    unfold Rep at h ⊢
    obtain ⟨b, e, h0, h1⟩ := h
    exact ⟨b, e, h0, TabS.rd hu k r h1⟩
theorem Reps.rd (hu : DicU u) (k : ∀ b, b ≠ a → H' b = H b) (r : Rd H a u) (r' : Rd H' a u) : ∀ {ds : List D} {P : Pr} {vs : List V}, Reps K H ds P vs → Reps K H' ds P vs
  | [], _, _, h => by rw [h.nil_iff]; exact Reps.nil
  | d :: ds, P, vs, h => by
    obtain ⟨v, ws, rfl, h1, h2⟩ := h.cons_iff
    exact Reps.cons (Rep.rd hu k r r' h1) (Reps.rd hu k r r' h2)
end
variable {P0 : Pr} {O W U : List Nat} {ρ : Y.Env} {σ : L2.St}
theorem Sim.rd (S : Sim K P0 O W ρ σ H) (hu : DicU u) (k : ∀ b, b ≠ a → H' b = H b) (r : Rd H a u) (r' : Rd H' a u) (n : ¬ FA P0 O σ a) : Sim K P0 O W ρ σ H' where
  sub := S.sub
  len := S.len
  dom := fun b z => by rw [k b fun e => n (e ▸ z)]; exact S.dom b z
  val := fun i d e h => let ⟨v, h1, h2⟩ := S.val i d e h; ⟨v, h1, h2.rd hu k r r'⟩
  own := fun i d e h => by
    obtain ⟨v, h1, h2⟩ := S.own i d e h
    have na : ∀ b, v = .ref b → b ≠ a := fun b e z => n (.inr ⟨i, h, by rw [h1, e, z]⟩)
    refine ⟨v, h1, ?_⟩
    cases d with
    | lst ds => obtain ⟨b, vs, e, g1, g2⟩ := h2; exact ⟨b, vs, e, by rw [k b (na b e)]; exact g1, g2.rd hu k r r'⟩
    | dik ks ds => obtain ⟨b, vs, e, hl, g1, g2⟩ := h2; exact ⟨b, vs, e, hl, by rw [k b (na b e)]; exact g1, g2.rd hu k r r'⟩
    | dit ks ds => obtain ⟨b, vs, e, hl, g1, g2⟩ := h2; exact ⟨b, vs, e, hl, by rw [k b (na b e)]; exact g1, g2.rd hu k r r'⟩
    | non => exact h2
    | bl _ => exact h2
    | int _ => exact h2
    | str _ => exact h2
    | tup _ => exact h2
    | arg _ => exact h2
    | ftu _ => exact h2
    | tab p q => obtain ⟨b, e, g1⟩ := h2; exact ⟨b, e, TabS.rd hu k r g1⟩
  sep := S.sep
  sep0 := S.sep0
end
section
variable {P : Program} {w : World} {K : PySem.W.Frag} {d : Addr} {o : Obj} {es : Array DictEntry} {ep : Nat}
end
section
variable {K : PySem.W.Frag} {O W : List Nat} {a : Addr} {o : Obj} {ds : List D} {vs : List V}
end

theorem PS.or {X : Cx} {st : Stmt} {t t' : TS} (h : PS X st t) (h' : PS X st t') : PS X st fun D σ H => t D σ H ∨ t' D σ H :=
  ⟨fun pins s σ H D I q => q.elim (h.run pins s σ H D I) (h'.run pins s σ H D I)⟩
section
variable {K : PySem.W.Frag} {P0 : Pr} {O W U : List Nat} {E : EK} {ρ : Y.Env} {σ : L2.St} {H : Hp} {m : SM} {D : Ends} {a : Addr} {u : HO}
end
section
variable {X : Cx} {P0 : Pr} {O W U : List Nat} {E : EK} {m : SM}
end
end Y

set_option Elab.async false
set_option linter.all false
set_option maxRecDepth 100000
namespace Y
open PySem PySem.Spec PyProof.Rows L2
section
variable {X : Cx} {pins : List (Addr × Obj)} {σ : L2.St} {H : Hp} {s : Shared}
end
variable {ρ : Y.Env}
@[simp] theorem d_getK {ks : List Key} {ds : List D} {i : Int} : getDic (.dik ks ds) (.int i) = .ok (findD ks ds (.inl i)) := id rfl
end Y

set_option Elab.async false
set_option linter.all false
set_option maxRecDepth 100000
set_option maxHeartbeats 4000000
namespace Y
open PySem PySem.Spec PyProof.Rows L2
section
variable {X : Cx} {pins : List (Addr × Obj)} {σ : L2.St} {H : Hp} {s : Shared}
end
end Y

set_option Elab.async false
set_option linter.all false
set_option maxRecDepth 100000
set_option maxHeartbeats 4000000
namespace Y
open PySem PySem.Spec PyProof.Rows L2
section
variable {K : PySem.W.Frag} {X : Cx} {H : Hp} {P : Pr}
theorem map_fst_zip {ds : List D} {vs : List V} (hl : vs.length = ds.length) : (ds.zip vs).map (·.1) = ds := by
  have := List.map_fst_zip (l₁ := ds) (l₂ := vs) (by omega)
  exact this
end
section
variable {X : Cx}
end
end Y

set_option Elab.async false
set_option linter.all false
set_option maxRecDepth 100000
namespace Y
open PySem PySem.Spec PyProof.Rows L2
def D1 (p : Addr) (Q : VK) (x y : V) (H2 : Hp) : Prop := H2 p = some (.dT []) ∧ ∃ (q : Addr) (k : List Key), x = .ref q ∧ H2 q = some (.tup (k.map kV)) ∧ Q (.ref p) (upd H2 p (.dT [(k, y)]))
end Y

set_option Elab.async false
set_option linter.all false
set_option maxRecDepth 100000
namespace Y
open PySem PySem.Spec PyProof.Rows L2
section
variable {K : PySem.W.Frag} {X : Cx} {P0 : Pr} {O W U : List Nat} {E : EK} {pos : Pos}
end
section
variable {X : Cx} {P0 : Pr} {O W : List Nat} {E : EK} {a b : Expr} {ma mb : EM} {pos : Pos}
end
end Y

set_option Elab.async false
set_option linter.all false
set_option maxRecDepth 100000
namespace Y
open PySem PySem.Spec PyProof.Rows L2
section
variable {K : PySem.W.Frag} {P0 : Pr} {O W U : List Nat} {ρ ρ1 ρ2 : Y.Env} {σ σ1 σ3 : L2.St} {H H1 H2 H3 : Hp} {i : Nat} {vs : List Nat}
/-- what the state is apart from the new objects A -/
theorem Sim.apart (S1 : Sim K P0 O W ρ1 σ H1) (S2 : Sim K P0 O W ρ2 σ H2) (kp : ∀ b o, H1 b = some o → ¬ OA W σ b → H2 b = some o) {A : Pr} (hA : ∀ b, A b → H1 b = none ∧ isMut (H2 b))
    (c : ∀ (j : Nat) d, ρ2[j]? = some (some d) → (ρ1[j]? = some (some d) ∧ j ∉ W) ∨ (j ∈ O ∧ d.shallow = true) ∨ d.nl = true) : Sim K (fun b => P0 b ∨ A b) O W ρ2 σ H2 := by
  have fa : ∀ b, FA (fun b => P0 b ∨ A b) O σ b → FA P0 O σ b ∨ H1 b = none := fun b z => by
    rcases z with (z | z) | z
    · exact .inl (.inl z)
    · exact .inr (hA b z).1
    · exact .inl (.inr z)
  have kf : ∀ b o, H1 b = some o → ¬ FA P0 O σ b → H2 b = some o := fun b o e n => kp b o e fun z => n (.inr (S1.oaw z))
  refine ⟨S2.sub, S2.len, fun b z => ?_, fun j d e n => ?_, fun j d e n => ?_, S2.sep, fun a z y => ?_⟩
  · rcases z with (z | z) | z
    · exact S2.dom b (.inl z)
    · exact (hA b z).2
    · exact S2.dom b (.inr z)
  · rcases c j d e with ⟨e0, _⟩ | ⟨z, _⟩ | nl
    · obtain ⟨w, h1, h2⟩ := S1.val j d e0 n
      exact ⟨w, h1, h2.mono d S1.dom kf fa⟩
    · exact absurd z n
    · obtain ⟨w, h1, h2⟩ := S2.val j d e n
      exact ⟨w, h1, h2.nl nl⟩
  · rcases c j d e with ⟨e0, hw⟩ | ⟨_, sh⟩ | nl
    · obtain ⟨w, h1, h2⟩ := S1.own j d e0 n
      refine ⟨w, h1, h2.mono S1.dom kf fa fun a o e1 e2 => ?_⟩
      subst e1
      refine kp a o e2 fun ⟨x, hx, ex⟩ => ?_
      have := S1.sep x j a (S1.sub x hx) n ex h1
      exact hw (this ▸ hx)
    · obtain ⟨w, h1, h2⟩ := S2.own j d e n
      exact ⟨w, h1, h2.shallow sh⟩
    · obtain ⟨w, h1, h2⟩ := S2.own j d e n
      refine ⟨w, h1, ?_⟩
      cases d <;> first | exact h2 | (simp [D.nl] at nl)
  · rcases y with y | y
    · exact S2.sep0 a z y
    · have q := S1.dom a (.inr z)
      rw [(hA a y).1] at q
      exact q
end
section
variable {X : Cx} {P0 : Pr} {O W U : List Nat} {E : EK} {XE : XK} {c e e2 : Expr} {es : List Expr} {ms : AM} {mr : EM} {pos pos2 p p2 p3 px : Pos} {k np i : Nat} {name x : Str} {t : BM} {n : SM} {tl : List Stmt} {tr : D → Bool} {R : PySem.W.Frag → Pr → V → Hp → Prop} {vs qs : List Nat}
end
end Y

set_option Elab.async false
set_option linter.all false
set_option maxRecDepth 100000
namespace Y
open PySem PySem.Spec PyProof.Rows L2
section
variable {X : Cx} {pins : List (Addr × Obj)} {σ : L2.St} {H : Hp} {s : Shared} {a b : Addr} {r : Value} {d : V} {k : List Key} {A : Around} {E : Value → Shared → Prop}
end
section
variable {X : Cx} {o e f : Expr} {td ty tx : TE} {apos cpos : Pos}
end
abbrev Grp := List (List Key × List Int)
def gAdd (k : List Key) (s : Int) : Grp → Grp
  | [] => [(k, [s])]
  | (k', l) :: g => if k' = k then (k', l ++ [s]) :: g else (k', l) :: gAdd k s g
/-- the groups lie in objects of their own, new since H1 -/
def GOk (H1 Hx : Hp) : Grp → List Addr → Prop
  | [], bs => bs = []
  | (_, l) :: g, bs => ∃ b r, bs = b :: r ∧ H1 b = none ∧ Hx b = some (.lst (l.map V.int)) ∧ b ∉ r ∧ GOk H1 Hx g r
def kvG : Grp → List Addr → List (List Key × V)
  | (k, _) :: g, b :: bs => (k, .ref b) :: kvG g bs
  | _, _ => []
section
variable {H1 Hx Hy : Hp}
theorem GOk.keep : ∀ {g : Grp} {bs : List Addr}, GOk H1 Hx g bs → (∀ b ∈ bs, Hy b = Hx b) → GOk H1 Hy g bs
  | [], bs, h, _ => h
  | (_, l) :: g, bs, ⟨b, r, e, h1, h2, h3, h4⟩, k => ⟨b, r, e, h1, by rw [k b (by simp [e])]; exact h2, h3, h4.keep fun c hc => k c (by simp [e, hc])⟩
theorem GOk.mem : ∀ {g : Grp} {bs : List Addr}, GOk H1 Hx g bs → ∀ b ∈ bs, H1 b = none ∧ ∃ l, Hx b = some (.lst l)
  | [], bs, h, b, hb => by
    have h : bs = [] := h
    rw [h] at hb
    cases hb
  | (_, l) :: g, bs, ⟨b0, r, e, h1, h2, h3, h4⟩, b, hb => by
    rw [e] at hb
    rcases List.mem_cons.mp hb with rfl | hb
    · exact ⟨h1, _, h2⟩
    · exact h4.mem b hb
theorem GOk.get {k : List Key} {s : Int} : ∀ {g : Grp} {bs : List Addr} {v : V}, GOk H1 Hx g bs → valV (kvG g bs) k = some v → ∃ b l, v = .ref b ∧ b ∈ bs ∧ Hx b = some (.lst (l.map V.int)) ∧ (∃ k', (k', l) ∈ g) ∧ GOk H1 (upd Hx b (.lst (l.map V.int ++ [.int s]))) (gAdd k s g) bs ∧ kvG (gAdd k s g) bs = kvG g bs
  | [], bs, v, h, e => by cases e
  | (k', l) :: g, bs, v, ⟨b, r, eb, h1, h2, h3, h4⟩, e => by
    subst eb
    unfold gAdd
    by_cases c : k' = k
    · have e : valV ((k', V.ref b) :: kvG g r) k = some v := e
      rw [valV_pos c] at e
      cases e
      rw [if_pos c]
      refine ⟨b, l, rfl, by simp, h2, ⟨k', by simp⟩, ⟨b, r, rfl, h1, by rw [upd_same, List.map_append]; rfl, h3, h4.keep fun c hc => upd_ne fun z => h3 (by rw [← z]; exact hc)⟩, rfl⟩
    · have e : valV ((k', V.ref b) :: kvG g r) k = some v := e
      rw [valV_neg c] at e
      obtain ⟨b2, l2, e1, e2, e3, ⟨k2, ek⟩, e4, e5⟩ := h4.get (s := s) e
      rw [if_neg c]
      refine ⟨b2, l2, e1, by simp [e2], e3, ⟨k2, by simp [ek]⟩, ⟨b, r, rfl, h1, by rw [upd_ne fun z => h3 (by rw [z]; exact e2)]; exact h2, h3, e4⟩, ?_⟩
      show (k', V.ref b) :: kvG (gAdd k s g) r = (k', V.ref b) :: kvG g r
      rw [e5]
theorem GOk.len : ∀ {g : Grp} {bs : List Addr}, GOk H1 Hx g bs → (kvG g bs).length = g.length ∧ bs.length = g.length
  | [], bs, h => by
    have h : bs = [] := h
    subst h
    exact ⟨rfl, rfl⟩
  | (k, l) :: g, bs, ⟨b, r, e, _, _, _, h⟩ => by
    subst e
    have := h.len
    exact ⟨by show (kvG g r).length + 1 = _; rw [this.1]; rfl, by simp [this.2]⟩
end
section
variable {K : PySem.W.Frag} {P0 : Pr} {O W U : List Nat} {ρ : Y.Env} {σ σ3 : L2.St} {H1 H3 : Hp} {i : Nat} {sl : List Nat}
end
section
variable {X : Cx} {P0 : Pr} {O W U : List Nat} {E : EK} {tg iter : Expr} {pos pos3 p1 p2 p3 p4 p5 ap ap2 cp cp2 : Pos} {x ya yb ys : Str}
end
end Y

set_option Elab.async false
set_option linter.all false
set_option maxRecDepth 100000
namespace Y
open PySem PySem.Spec PyProof.Rows L2
section
variable {prog : Program} {w : World} {A : Around} {E : Value → Shared → Prop} {s : Shared}
theorem list_done_hot {it l x1 : Addr} {i : Nat} {items : Array Value} {Q : Option Value → Shared → Prop} (hot : HotX.HotAt A x1 s.heap) (ne : x1 ≠ it) (hi : s.heap.IsListIter it l i) (hl : s.heap.IsList l items) (hx : items[i]? = none)
    (q : ∀ h', (∀ b o, b ≠ it → s.heap.get? b = some o → h'.get? b = some o) → Q none { s with heap := h' }) : wpAny (model prog w) A (pyNext (.ref it)) Q E s := by
  obtain ⟨hh, oe, ve, ge, de, ce⟩ := hot
  obtain ⟨oi, gi, ci, di⟩ := id hi
  obtain ⟨ol, gl, _, n, dl⟩ := hl
  unfold pyNext
  refine wpAny_bind (wpAny_attempt (wpAny_callSpecial?_slot (name := Str.ofString "__next__") hi.typeIs slot_listiter_next (wpAny_call_entry slot_listiter_next hi.typeIs entry_listiter_next ?_ (args_listiter_next _))))
  show wpAny _ _ (field (.ref it) 0 >>= _) _ _ s
  refine wpAny_bind (wpAny_field gi di (x := .ref l) rfl ?_)
  show wpAny _ _ (if (Value.ref l == Value.none) = true then _ else _) _ _ s
  rw [if_neg (show ¬ ((Value.ref l == Value.none) = true) from Bool.false_ne_true)]
  show wpAny _ _ (field (.ref it) 1 >>= _) _ _ s
  refine wpAny_bind (wpAny_field gi di (x := .int i 0) rfl ?_)
  show wpAny _ _ (seqItems? (.ref l) >>= _) _ _ s
  refine wpAny_bind (wpAny_seqItems gl dl ?_)
  simp only [Int.toNat_natCast, hx]
  refine wpAny_bind (wpAny_rule (wpAny_bind (wpAny_setField gi di (by simp) ?_)))
  show wpAny _ _ (newExc (.type "StopIteration") [] >>= _) _ _ _
  refine wpAny_bind ?_
  simp only [newExc, newTuple]
  refine wpAny_bind (wpAny_newObj_type ?_ (by size_fits))
  refine wpAny_bind (m := firstArgMember _ _) (wpAny_of_eq (a := Value.none) (by first | rfl | (simp only [firstArgMember]; rfl)) ?_)
  refine wpAny_newObj_type ?_ (by size_fits)
  have gx := (Heap.get?_update_other s.heap (Obj.mapFields fun x => x.setIfInBounds 0 Value.none) (fun z : it = x1 => ne z.symm)).trans ge
  refine HotX.raiseNew_hot ⟨hh, oe, ve, Heap.get?_push_of_some _ (Heap.get?_push_of_some _ gx), de, ce⟩ (Nat.ne_of_lt (Heap.lt_size (Heap.get?_push_of_some _ gx))) (Heap.get?_push_size _ rfl) rfl (by first | (simp; done) | (simp; omega) | (simp only [Array.size_append]; simp; omega)) ?_
  refine wpAny_bind (wpAny_isInstance (T := "StopIteration") (b := true) ⟨_, Heap.get?_update_self _ (Heap.get?_push_size _ rfl) rfl, rfl⟩ isSubtype_stop ?_)
  refine wpAny_pure (q _ fun b o nb e => ?_)
  have e1 := (Heap.get?_update_other s.heap (Obj.mapFields fun x => x.setIfInBounds 0 Value.none) (fun z : it = b => nb z.symm)).trans e
  rw [Heap.get?_update_other _ _ (Nat.ne_of_gt (Heap.lt_size (Heap.get?_push_of_some _ e1)))]
  exact Heap.get?_push_of_some _ (Heap.get?_push_of_some _ e1)
theorem walks_hot {x1 I ax : Addr} (hh : A.handled = some (.ref x1)) (n1 : ax ≠ I) (n2 : x1 ≠ I) (items : Array Value) :
    Walks prog w A I [I, ax, x1] [I] items.size (fun i v => items[i]? = some v) (fun i h => h.IsListIter I ax i ∧ h.IsList ax items ∧ ∃ (o : Obj) (vs : Array Value), h.get? x1 = some o ∧ o.data = .fields vs ∧ vs[2]? = some .none) where
  sub := fun b hb => by
    have e : b = I := by simpa using hb
    rw [e]; exact List.mem_cons_self
  frame := fun _ _ _ ⟨a, b, o, vs, g, d, c⟩ hk => ⟨a.at fun o e => hk I (by simp) o e, b.at fun o e => hk ax (by simp) o e, o, vs, hk x1 (by simp) o g, d, c⟩
  item := fun i s Q E hi ⟨a, b, o, vs, g, d, c⟩ q => by
    refine wpAny_pyNext_list_item a b (x := items[i]) (by simp [hi]) fun h' a' sb => ?_
    exact q _ h' s.toks (by simp [hi]) ⟨a', b.extBut sb.extBut n1, o, vs, sb.extBut x1 o n2 g, d, c⟩ fun b o hb e => sb.extBut b o (fun h => hb (by simp [h])) e
  done := fun s Q E ⟨a, b, o, vs, g, d, c⟩ q => list_done_hot ⟨hh, o, vs, g, d, c⟩ n2 a b (by simp) fun h' k => q h' s.toks fun b o hb e => k b o (fun h => hb (by simp [h])) e
  self := fun _ _ _ _ st q => wpAny_pyIter_listiter st.1 q
theorem sum_hotR {x1 l : Addr} {vs : List Value} {ns : List Int} {Q : Value → Shared → Prop} (hot : HotX.HotAt A x1 s.heap) (hl : s.heap.IsList l vs.toArray) (hi : IntsAre vs ns)
    (q : ∀ h' tk t', (∀ b o, s.heap.get? b = some o → h'.get? b = some o) → Q (.int ns.sum t') { s with heap := h', toks := tk }) : wpAny (model prog w) A (call (.builtin "sum") [.ref l]) Q E s := by
  obtain ⟨hh, oe, ve, ge, de, ce⟩ := hot
  obtain ⟨xs, hx⟩ := hi.allInts.items
  have hn : numsOf vs.toArray.toList = ns := by rw [show vs.toArray.toList = vs from rfl, hi.numsOf]
  rw [hx] at hl hn
  rw [nums_intItems] at hn
  obtain ⟨ol, gl, cl, n, dl⟩ := id hl
  have n1 : l ≠ s.heap.objs.size := Nat.ne_of_lt (Heap.lt_size gl)
  have n2 : x1 ≠ s.heap.objs.size := Nat.ne_of_lt (Heap.lt_size ge)
  have hz : (intItems xs).size = xs.size := by simp [intItems]
  have W := (walks_hot (prog := prog) (w := w) (A := A.in1) (I := s.heap.objs.size) hh n1 n2 (intItems xs)).toS
  rw [hz] at W
  refine call_sum_walkAnyS (wpAny_pyIter_list hl ⟨s.heap.objs.size, _, _, _, _, _, _, numAt xs, rfl, W, ⟨⟨_, Heap.get?_push_size _ rfl, rfl, rfl⟩, hl.at fun o e => Heap.get?_push_of_some _ e, oe, ve, Heap.get?_push_of_some _ ge, de, ce⟩, fun b hb => ?_, fun i v hP => intItems_at hP, fun s' t' hm => ?_⟩)
  · rcases List.mem_cons.mp hb with rfl | hb
    · exact Heap.lt_size (Heap.get?_push_size _ rfl)
    · rcases List.mem_cons.mp hb with rfl | hb
      · exact Heap.lt_size (Heap.get?_push_of_some _ gl)
      · obtain rfl := List.mem_singleton.mp hb
        exact Heap.lt_size (Heap.get?_push_of_some _ ge)
  · obtain ⟨h', g', d', tk', os'⟩ := s'
    have e1 : g' = s.gens := hm.gens
    have e2 : d' = s.drawn := hm.drawn
    have e3 : os' = s.os := hm.os
    subst e1 e2 e3
    have z := q h' tk' t' fun b o e => hm.heap b o (fun hb => absurd (Heap.lt_size e) ((List.mem_singleton.mp hb) ▸ Nat.lt_irrefl _)) (Heap.get?_push_of_some _ e)
    rw [← hn] at z
    rw [preSum_eq, List.take_of_length_le (by simp)]
    exact z
end
section
variable {X : Cx}
theorem cd_sumH (hot : L2H.HotC X) : CallR X (.builtin "sum") (rDs X.K sumD) := by
  intro pins s σ H xs us Q I r ⟨P, ds, dz, hm, rs, e, out⟩
  obtain ⟨x1, h1⟩ := hot.at I
  unfold sumD at e
  split at e
  · split at e
    · rename_i ns c; cases e
      obtain ⟨v, rfl, r1⟩ := rs.get1
      obtain ⟨a, vs, rfl, g1, g2⟩ := r1.lst
      obtain rfl := ints_rep c g2
      obtain ⟨its, rv, hl, _⟩ := I.list (SqL.of g1)
      rw [Vals.ref1 r]
      exact sum_hotR h1 hl.isList rv.ints fun h' tk t' hk => ⟨.int _, H, I.kept hk, ⟨_, rfl⟩, out.int⟩
    · cases e
  · cases e
end
end Y

set_option Elab.async false
set_option linter.all false
set_option maxRecDepth 100000
namespace Y
open PySem PySem.Spec PyProof.Rows L2
def i01 (b : Bool) : V := .int (if b then 1 else 0)
theorem SqL.laid {K : PySem.W.Frag} {H : Hp} {a D : Addr} {xs : List V} {o : HO} (h : SqL K H a xs) (n : H D = none) : SqL K (upd H D o) a xs := by
  rcases h with h | h
  · refine .inl (h.imp (fun e => ?_) fun ⟨o, e⟩ => ⟨o, ?_⟩)
    · rw [upd_ne (ne_of_none e n)]; exact e
    · rw [upd_ne (ne_of_none e n)]; exact e
  · exact .inr h
def tIntsH (K : PySem.W.Frag) (i : Nat) : TE := fun σ H Q => ∃ (a : Addr) (bs : List Bool), σ[i]? = some (some (.ref a)) ∧ SqL K H a (bs.map V.bl) ∧ ∀ D, H D = none → Q (.ref D) (upd H D (.lst (bs.map i01)))
section
variable {X : Cx} {i j : Nat}
theorem pe_intsH {elt tgt : Expr} {x y : Str} {scope : Scope} {pos p : Pos} (hot : L2H.HotC X) (hN : X.N.Nodup) (ok : BlkOk X.N X.env.scope scope [(x, j)])
    (hi : X.N[i]? = some y) (hv : Vis X.env.scope y)
    (hg : ∀ (s : Shared) (H : Hp) (C : Addr) (cl : List (Str × Addr)) (fp : List Addr), PG (X.blk s H scope (compEnvC scope cl C X.env) fp) tgt (gName j))
    (he : ∀ (s : Shared) (H : Hp) (C : Addr) (cl : List (Str × Addr)) (fp : List Addr), PE (X.blk s H scope (compEnvC scope cl C X.env) fp) elt (tCB (fun xs H Q => (∃ i, xs = [.int i] ∧ Q (.int i) H) ∨ ∃ k, xs = [.bl k] ∧ Q (i01 k) H) (tCons (tVar j) tNil)))
    (hs : ∀ v, foldedSetIterable (.Name y p) X.env v = pure v := by intro _; rfl) (hd : (y == ("__debug__" : Str)) = false := by decide) (hcd : (y == ("__classdict__" : Str)) = false := by decide) :
    PE X (.ListComp elt [⟨tgt, .Name y p, [], 0⟩] scope pos) (tIntsH X.K i) := by
  refine ⟨fun pins s σ H Q I h => ?_⟩
  obtain ⟨a, bs, ea, hq, q⟩ := h
  rw [eval_ListComp]
  have hfree : ∀ n ∈ scope.names, n.2 = .free → ∃ c, X.env.cells.lookup n.1 = some c := fun n hn e => (ok.free n hn e).elim (fun k => I.ok.has _ (.inl k)) fun k => I.ok.has _ (.inr k)
  refine wpAny_comprehension_free (use := none) rfl hs (closure_ok hfree) ok.kind (fun n hn e => by rw [ok.uniq n hn, e]) (thn ((pe_var (i := i) hi hv hd hcd).run pins s σ H (fun v H1 => v = .ref a ∧ H1 = H) I ⟨_, ea, rfl, rfl⟩) fun xv s1 ⟨v, H1, I1, r1, ev, eH⟩ => ?_)
  subst ev eH
  cases r1
  obtain ⟨its, rv, pl, hz⟩ := I1.list hq
  refine wpAny_pyIter_list pl.isList ?_
  generalize e2 : ({ s1 with heap := s1.heap.push { cls := .type "list_iterator", data := .fields #[.ref a, .int 0 0] } } : Shared) = s2
  have I2 : Inv X pins σ H1 s2 := by rw [← e2]; exact I1.kept (t' := s1.toks) fun b o e => Heap.get?_push_of_some _ e
  have it2 : s2.heap.IsListIter s1.heap.objs.size a 0 := by rw [← e2]; exact ⟨_, Heap.get?_push_size _ rfl, rfl, rfl⟩
  have fit : FpOk X pins H1 s1.heap.objs.size := I1.fpOk (Nat.le_refl _) (I1.hok.fresh (Nat.le_refl _))
  have nit : ∀ q ∈ X.pn, q.1 ≠ s1.heap.objs.size := fun q hq => fit.2.2.2.2.2 q (List.mem_append_left _ hq)
  generalize hit : s1.heap.objs.size = it at fit it2 nit ⊢
  refine wpAny_newObj_type (newEnv_comp ?_) (by show 0 ≤ sizeLine; decide)
  generalize hD : s2.heap.objs.size = D
  have nD : H1 D = none := I2.hok.fresh (Nat.le_of_eq hD)
  have lit : it < s2.heap.objs.size := by obtain ⟨o, e, _⟩ := it2; exact Heap.lt_size e
  have itD : it ≠ D := by rw [← hD]; exact Nat.ne_of_lt lit
  generalize e3 : ({ s2 with heap := s2.heap.push { cls := .type "list", data := .seq ([] : List Value).toArray } } : Shared) = s3
  have I3 : Inv X pins σ (upd H1 D (.lst [])) s3 := by
    rw [← e3]
    refine I2.laid (t' := s2.toks) (fun b o e => Heap.get?_push_of_some _ e) (Nat.le_of_eq hD) ⟨Nat.zero_le _, [], 0, .nil, ?_⟩
    rw [← hD]
    exact Heap.get?_push_size _ rfl
  have it3 : s3.heap.IsListIter it a 0 := by rw [← e3]; exact it2.at fun o e => Heap.get?_push_of_some _ e
  have l3 : it < s3.heap.objs.size := by obtain ⟨o, e, _⟩ := it3; exact Heap.lt_size e
  have f3 : ∀ b ∈ [it], FpOk X pins (upd H1 D (.lst [])) b ∧ b < s3.heap.objs.size := fun b hb => by
    obtain rfl := List.mem_singleton.mp hb
    exact ⟨⟨by rw [upd_ne itD]; exact fit.1, fit.2⟩, l3⟩
  have I4 := block_start I3 ok hN f3
  have pg := hg s3 (upd H1 D (.lst [])) s3.heap.objs.size (cellsFrom (s3.heap.objs.size + 1) scope.names (cloFrom X.env.cells scope.names [])) [it]
  have pe := he s3 (upd H1 D (.lst [])) s3.heap.objs.size (cellsFrom (s3.heap.objs.size + 1) scope.names (cloFrom X.env.cells scope.names [])) [it]
  show codeAny _ _ (.compStart (.ListComp elt [⟨tgt, .Name y p, [], 0⟩] scope pos) 0 (.ref it) (.ref D) (compEnvC scope (cellsFrom (s3.heap.objs.size + 1) scope.names (cloFrom X.env.cells scope.names [])) s3.heap.objs.size X.env)) (compPost (model X.prog X.w) X.A X.xe none _ (.ref D) s3.heap.objs.size) { s3 with heap := pushCells (s3.heap.push { cls := .type "dict", data := .dict #[] }) scope.names }
  generalize ec : compEnvC scope (cellsFrom (s3.heap.objs.size + 1) scope.names (cloFrom X.env.cells scope.names [])) s3.heap.objs.size X.env = ce at I4 pg pe ⊢
  have cL : ce.locals = s3.heap.objs.size := by subst ec; rfl
  have ex : ∀ (s' : Shared) (H' : Hp), Inv (X.blk s3 (upd H1 D (.lst [])) scope ce [it]) [] (wipe σ [j]) H' s' → Inv X pins σ H' s' := fun s' H' J =>
    I3.call' (ch := [it]) J.os J.base J.hok J.bare fun b hb => ⟨(f3 b hb).1.2.2.2.1, (f3 b hb).1.2.1, (f3 b hb).1.2.2.2.2.1, (f3 b hb).1.2.2.2.2.2⟩
  generalize e4 : ({ s3 with heap := pushCells (s3.heap.push { cls := .type "dict", data := .dict #[] }) scope.names } : Shared) = s4 at I4 ⊢
  have it4 : s4.heap.IsListIter it a 0 := by rw [← e4]; exact it3.at fun o e => pushCells_keeps _ _ _ _ (Heap.get?_push_of_some _ e)
  have uD : ∀ (k : Nat), (upd H1 D (.lst ((bs.map i01).take k))) it = none := fun k => by rw [upd_ne itD]; exact fit.1
  have fpo : ∀ {σ' : St} {s' : Shared} {k : Nat}, Inv (X.blk s3 (upd H1 D (.lst [])) scope ce [it]) [] σ' (upd H1 D (.lst ((bs.map i01).take k))) s' → ∀ b ∈ [it], FpOk (X.blk s3 (upd H1 D (.lst [])) scope ce [it]) [] (upd H1 D (.lst ((bs.map i01).take k))) b := fun {σ' s' k} J b hb => by
    obtain rfl := List.mem_singleton.mp hb
    exact ⟨uD k, (J.ok.exf b List.mem_cons_self).1, J.ok.exfs b List.mem_cons_self, .inl List.mem_cons_self, fun x c e => (J.ok.exf b List.mem_cons_self).2 x c e, fun q hq => nomatch (show q ∈ ([] : List (Addr × Obj)) from hq)⟩
  have loop : codeAny (model X.prog X.w) X.A (.compLoop (.ListComp elt [⟨tgt, .Name y p, [], 0⟩] scope pos) 0 (.ref it) (.ref D) ce) (compPost (model X.prog X.w) X.A X.xe none (fun u s' => ∃ v H', Inv X pins σ H' s' ∧ RelV v u ∧ Q v H') (.ref D) s3.heap.objs.size) s4 := by
    refine compLoop_any (fun n s' => ∃ k, n = bs.length - k ∧ k ≤ bs.length ∧ Inv (X.blk s3 (upd H1 D (.lst [])) scope ce [it]) [] (wipe σ [j]) (upd H1 D (.lst ((bs.map i01).take k))) s' ∧ s'.heap.IsListIter it a k) ?_ bs.length ⟨0, rfl, Nat.zero_le _, by simpa using I4, it4⟩
    rintro n s5 ⟨k, rfl, hk, I5, it5⟩
    have J5 := ex _ _ I5
    obtain ⟨its5, rv5, pl5, _⟩ := J5.list (SqL.laid (o := .lst ((bs.map i01).take k)) hq nD)
    have len5 := rv5.length
    rw [List.length_map] at len5
    obtain ⟨f0, f1, f2, f4, f5, f6⟩ := fpo I5 it List.mem_cons_self
    by_cases hlt : k < bs.length
    · have hx : (bs.map V.bl)[k]? = some (.bl bs[k]) := by rw [List.getElem?_map, List.getElem?_eq_getElem hlt]; rfl
      obtain ⟨u, hu, ru⟩ := rv5.get hx
      refine wpAny_pyNext_list_item it5 pl5.isList (x := u) (by simpa using hu) fun h' it6 sb => ?_
      have I6 : Inv (X.blk s3 (upd H1 D (.lst [])) scope ce [it]) [] (wipe σ [j]) (upd H1 D (.lst ((bs.map i01).take k))) { s5 with heap := h' } := I5.turned (t' := s5.toks) (fun b o hb e => (sb.2 b hb).trans e) f0 f1 f4 f5 f6
      obtain ⟨o6, g6, c6, d6⟩ := id it6
      have I6p := I6.pinned (fp := [it]) (fpo I6) fun b hb => by
        obtain rfl := List.mem_singleton.mp hb
        exact ⟨o6, g6, fun v z => by rw [d6] at z; cases z⟩
      refine go_of (s := { s5 with heap := h' }) g6 c6 d6 (by decide) ?_
      refine thnF (pg.run _ _ _ _ (.bl bs[k]) u (fun σ2 H2 => σ2 = (wipe σ [j]).set j (some (.bl bs[k])) ∧ H2 = upd H1 D (.lst ((bs.map i01).take k))) I6p ru ⟨rfl, rfl⟩) fun _ s8 ⟨σ8, H8, I8, es, eH⟩ => ?_
      subst es eH
      refine wpAny_tests_nil ?_
      simp only [if_true]
      have jl : j < (wipe σ [j]).length := by
        have e := ok.ix (x, j) List.mem_cons_self
        rw [wipe_length, I.len]
        exact (List.getElem?_eq_some_iff.mp e).1
      refine thnF (pe.run _ s8 _ _ (fun v H2 => v = i01 bs[k] ∧ H2 = upd H1 D (.lst ((bs.map i01).take k))) I8 ⟨_, List.getElem?_set_self jl, .inr ⟨_, rfl, rfl, rfl⟩⟩) fun z s10 ⟨v, H10, I10, r10, ev, eH⟩ => ?_
      subst ev eH
      have e7 : (bs.map i01).take k ++ [i01 bs[k]] = (bs.map i01).take (k + 1) := by
        rw [List.take_add_one, List.getElem?_map, List.getElem?_eq_getElem hlt]; rfl
      refine app_ok (X := X.blk s3 (upd H1 D (.lst [])) scope ce [it]) I10 upd_same (by rw [List.length_take, List.length_map]; rw [List.length_map] at hz; omega) r10 fun s11 I11 => ?_
      rw [e7, show upd (upd H1 D (.lst ((bs.map i01).take k))) D (.lst ((bs.map i01).take (k + 1))) = upd H1 D (.lst ((bs.map i01).take (k + 1))) from by funext b; unfold upd; split <;> rfl] at I11
      have st11 := I11.pin (it, o6) (List.mem_append_right _ (List.mem_append_right _ (mem_pinsAt List.mem_cons_self g6)))
      refine ⟨bs.length - (k + 1), by omega, k + 1, rfl, hlt, (I11.unpinned (pins := [])).weak (by simp) fun m v e => ?_, ⟨o6, st11.1, c6, d6⟩⟩
      rw [List.getElem?_set_ne fun z : j = m => (wipe_some e).2 (by rw [z]; exact List.mem_cons_self)]
      exact e
    · have ek : k = bs.length := by omega
      obtain ⟨pp, ⟨hh, v1, d1, c1⟩, hp⟩ := hot
      refine list_done_hot (x1 := pp.1) ⟨hh, pp.2, v1, (J5.pin pp (List.mem_append_left _ hp)).1, d1, c1⟩ (nit pp hp) it5 pl5.isList (by simp; omega) fun h' kp => ?_
      have I6 : Inv (X.blk s3 (upd H1 D (.lst [])) scope ce [it]) [] (wipe σ [j]) (upd H1 D (.lst ((bs.map i01).take k))) { s5 with heap := h' } := I5.turned (t' := s5.toks) kp f0 f1 f4 f5 f6
      have J6 := ex _ _ I6
      obtain ⟨m, hn, _⟩ := I6.loc
      have hn : h'.Ns ce.locals m := hn
      rw [cL] at hn
      have nC : (upd H1 D (.lst ((bs.map i01).take k))) s3.heap.objs.size = none := by
        have z : (upd H1 D (.lst ((bs.map i01).take k))) ce.locals = none := I6.free
        rw [cL] at z
        exact z
      have fC := I3.fpOk (Nat.le_refl _) nC
      rw [ek, List.take_of_length_le (by simp)] at J6 fC
      exact ⟨m, hn, fun h2 sb => ⟨.ref D, _, J6.turned (t' := s5.toks) (fun b o hb e => (sb.2 b hb).trans e) fC.1 fC.2.1 fC.2.2.2.1 fC.2.2.2.2.1 fC.2.2.2.2.2, rfl, q D nD⟩⟩
  exact codeAny_compStart_list loop (wpAny_pyIter_listiter it4 loop)
end
end Y

set_option Elab.async false
set_option linter.all false
set_option maxRecDepth 100000
namespace Y
open PySem PySem.Spec PyProof.Rows L2
/-- what f(e) tells of a refusal of the class C: the text y -/
structure FnZ (P : Program) (w : World) (K : PySem.W.Frag) (mg : Str → Option Value) (base : Heap) (k : Nat) (f : Addr) (fd : FuncData) (x : Str) (C : Addr) (y : Str) : Prop where
  run : ∀ (A : Around) (outer : List PySem.Env) (s : Shared) (H : Hp) (args : Args) (u : Value) (Q : VK) (E : XK) (p : Addr × Obj), L2H.RoomH k A → L2H.Hot1 A p → L2H.PinOk outer H s p → L2N.Zn (.ref C) none p.2 → Env0 P w K mg base A outer s H → BindsTo s fd args [(x, u)] → u = .ref p.1 →
    (∀ H', Same H H' → Q (.str y) H') → codeAny (model P w) A (.call (.ref f) args) (CR (L2N.CX P w) outer P w H s Q E) s
structure GloZ (P : Program) (w : World) (K : PySem.W.Frag) (mg : Str → Option Value) (base : Heap) (name : Str) (k : Nat) (x : Str) (cl : List Str) (kw : Str → Str) : Prop where
  ex : ∃ f fd, mg name = some (.ref f) ∧ PySem.W.keepIn K (.ref f) = true ∧ Binds K fd [x] [] ∧ ∀ cn ∈ cl, ∀ C, mg cn = some (.ref C) → FnZ P w K mg base k f fd x C (kw cn)
/-- isinstance(e, ValueError) -/
structure IsV (K : PySem.W.Frag) (mg : Str → Option Value) (es : List Str) : Prop where
  no : mg "ValueError" = none
  ex : ∀ c ∈ es, ∃ C, mg c = some (.ref C) ∧ PySem.W.kitOne K (.ref C) (.type "ValueError") = some true
theorem kit_ve {K : PySem.W.Frag} {C : Addr} (h : PySem.W.subIn K (.ref C) (.type "ValueError") = some true) : PySem.W.kitOne K (.ref C) (.type "ValueError") = some true := by
  unfold PySem.W.kitOne
  rw [if_neg (by simp)]
  show (if PySem.W.kitMeta "ValueError" = true then PySem.W.subIn K (.ref C) (.type "ValueError") else none) = some true
  rw [if_pos (by decide +kernel)]
  exact h
theorem _root_.L2H.RoomH.units65 {k : Nat} {A : Around} (r : L2H.RoomH k A) : A.units + 65 < cLine := by have := r.un; omega
theorem hot_of {A : Around} {a C : Addr} {oe : Obj} (hh : A.handled = some (.ref a)) (hz : L2N.Zn (.ref C) none oe) (hf : ∃ vs, oe.data = .fields vs) : L2H.Hot1 A (a, oe) := by
  obtain ⟨vs, d⟩ := hf
  exact ⟨hh, vs, d, hz.2.2 vs d⟩
section
variable {X : Cx} {P0 : Pr} {O W U : List Nat} {i : Nat} {ad : Addr} {a b c e : Expr} {es : List Expr} {ma mb mc : EM} {ms : AM} {bm bn : BM} {pos : Pos}
abbrev CZ (X : Cx) (P0 : Pr) (O W : List Nat) (i : Nat) (ad : Addr) (e : Expr) (m : EM) : Prop := PE X e (tZe X.K P0 O W i ad m)
abbrev CZs (X : Cx) (P0 : Pr) (O W : List Nat) (i : Nat) (ad : Addr) (es : List Expr) (m : AM) : Prop := PA X es (tZa X.K P0 O W i ad m)
def tZt (K : PySem.W.Frag) (P0 : Pr) (O W : List Nat) (i : Nat) (a : Addr) (m : BM) : TT := fun σ H Q => σ[i]? = some (some (.ref a)) ∧ tMt K P0 O W E00 m σ H Q
theorem zs_nil : CZs X P0 O W i ad [] cNil := PA.imp ca_nil fun _ _ _ q => q.2
theorem zs_cons (h : CZ X P0 O W i ad e ma) (hs : CZs X P0 O W i ad es ms) (hst : starEach (e :: es) X.env = (false, eval e X.env) :: starEach es X.env := by rfl) : CZs X P0 O W i ad (e :: es) (cCons ma ms) := PA.imp (pa_cons h hs hst) fun σ H Q ⟨z, ρ, S, h⟩ =>
  ⟨z, ρ, S, h.of_bind.mono fun ⟨h1, ρ1⟩ q v H1 S1 k1 r1 => ⟨z, ρ1, S1, (q.keep k1).of_bind.mono fun ⟨hs, ρ2⟩ q2 vs H2 S2 k2 r2 => q2 _ H2 S2 (k1.trans k2) ⟨v, vs, rfl, r1.keep S1 k2, HdRs.back k1.some r2⟩⟩⟩
theorem zz_lst (h : CZs X P0 O W i ad es ms) : CZ X P0 O W i ad (.List es pos) (cLst ms) := PE.imp (pe_lst h) fun σ H Q ⟨z, ρ, S, h⟩ =>
  ⟨z, ρ, S, h.of_bind.mono fun ⟨hs, ρ1⟩ q vs H1 S1 k1 r1 => by
    obtain ⟨ds, e1, q⟩ := q.of_nox
    by_cases c : szOk ds.length = true
    · rw [if_pos c] at q
      have rr := HdRs.vs r1 e1
      exact ⟨by rw [rr.length]; exact of_decide_eq_true c, fun p hp => (out_of S1 k1 q).newL S1.dom rr hp⟩
    · rw [if_neg c] at q
      exact q.elim⟩
theorem zz_bin {op : Operator} {f : D → D → R D} (ho : OpR X (binaryOp op) (rD X.K f)) (ha : CEx X P0 O W E00 a ma) (hb : CZ X P0 O W i ad b mb) : CZ X P0 O W i ad (.BinOp a op b pos) (cOp f ma mb) := PE.imp (pe_op ho ha hb) fun σ H Q ⟨z, ρ, S, h⟩ =>
  ⟨ρ, S, h.of_bind.mono fun ⟨h1, ρ1⟩ q x H1 S1 k1 r1 => ⟨z, ρ1, S1, (q.keep k1).of_bind.mono fun ⟨h2, ρ2⟩ q2 y H2 S2 k2 r2 => by
    obtain ⟨dx, e1, q3⟩ := q2.of_nox
    obtain ⟨dy, e2, q4⟩ := q3.of_nox
    obtain ⟨dz, e3, q5⟩ := q4.of_nox
    exact ⟨FA P0 O σ, dx, dy, dz, S2.dom, (r1.keep S1 k2).d S2 e1, r2.d S2 e2, e3, out_of S2 (k1.trans k2) q5⟩⟩⟩
def cBo (b : Bool) : BM := fun ρ => .ok (b, ρ)
theorem zt_isi {k : Bool} (h : CZ X P0 O W i ad e (cC (.bl k))) (he : ∀ whole, isTrue e X.env whole = (do let v ← whole; standAt e.pos; holding [v] (truthy v)) := by intro _; rfl) : PT X e (tZt X.K P0 O W i ad (cBo k)) := PT.imp (pt_truth h he) fun σ H Q ⟨z, ρ, S, q⟩ =>
  ⟨z, ρ, S, fun v H1 S1 k1 r1 => by
    exact ⟨k, truD_ok (d := .bl k) rfl (r1.d S1 rfl), q H1 S1 k1⟩⟩
theorem zt_not (h : PT X e (tZt X.K P0 O W i ad bm)) : PT X (.UnaryOp .Not e pos) (tZt X.K P0 O W i ad (cNotT bm)) := PT.imp (pt_not h) fun σ H Q ⟨z, ρ, S, h⟩ => ⟨z, ρ, S, h.of_bind.mono fun ⟨b, ρ1⟩ q => q⟩
theorem zt_or (h : PT X a (tZt X.K P0 O W i ad bm)) (h2 : CT X P0 O W E00 b bn) : PT X (.BoolOp .Or [a, b] pos) (tZt X.K P0 O W i ad (cOrT bm bn)) := PT.imp (PW.pt (pw_or h (pw_or1 h2))) fun σ H Q ⟨z, ρ, S, h⟩ =>
  ⟨z, ρ, S, h.of_bind.mono fun ⟨k, ρ1⟩ q H1 S1 k1 => by
    cases k with
    | false => exact ⟨ρ1, S1, (q.keep k1).mono fun ⟨k2, ρ2⟩ q2 H2 S2 k3 => q2 H2 S2 (k1.trans k3)⟩
    | true => exact q H1 S1 k1⟩
theorem zs_if {sts : List Stmt} {m : SM} (hc : PT X c (tZt X.K P0 O W i ad bm)) (h1 : CSs X P0 O W U E00 sts m) : PS X (.If c sts [] pos) (tZ X.K P0 O W U i ad (sIf bm m sSkip)) := PS.imp (ps_if hc h1 (cs_nil (U := U) (E := E00))) fun D σ H ⟨z, ρ, S, h⟩ =>
  ⟨z, ρ, S, (h.of_bind.down S.sub).mono fun ⟨k, ρ1⟩ q H1 S1 k1 => by
    have q : Res E00 O σ H ((if k = true then m ρ1 else sSkip ρ1)) _ := q
    cases k with
    | true => exact (if_pos rfl).mpr ⟨ρ1, S1, (Res.keepT q (Tr.of (U := U) S.sub k1)).mono fun ⟨f2, ρ2⟩ q2 σ2 H2 S2 t2 l2 => (q2 σ2 H2 S2 ((Tr.of S.sub k1).trans t2) l2).back fun b e => k1.some b e⟩
    | false => exact (if_neg Bool.false_ne_true).mpr ⟨ρ1, S1, (Res.keepT q (Tr.of (U := U) S.sub k1)).mono fun ⟨f2, ρ2⟩ q2 σ2 H2 S2 t2 l2 => (q2 σ2 H2 S2 ((Tr.of S.sub k1).trans t2) l2).back fun b e => k1.some b e⟩⟩
/-- isinstance(e, ValueError) -/
theorem cz_isv {C : Addr} {oe : Obj} {cn nm : Str} {cl : List Str} {p q q2 : Pos} (Z : ErrZ X.K X.mg cn) (F : IsV X.K X.mg cl) (hc : cn ∈ cl) (hC : X.mg cn = some (.ref C)) (hz : Zc (.ref C) none oe) (hf : ∃ vs, oe.data = .fields vs) (hp : (ad, oe) ∈ X.pn) (hm : X.mg "isinstance" = none)
    (hN : X.N[i]? = some nm := by rfl) (hv : Vis X.env.scope nm := by first | exact Or.inl rfl | exact Or.inr (Or.inl rfl)) (hd : (nm == ("__debug__" : Str)) = false := by decide) (hcd : (nm == ("__classdict__" : Str)) = false := by decide)
    (hg : Gl X "isinstance" := by rfl) (hg2 : Gl X "ValueError" := by rfl)
    (he : starEach [.Name nm q, .Name "ValueError" q2] X.env = (false, eval (.Name nm q) X.env) :: starEach [.Name "ValueError" q2] X.env := by rfl) (hpl : (backTo pos (starEach [.Name "ValueError" q2] X.env)).any (·.1) = false := by rfl) (he2 : starEach [.Name "ValueError" q2] X.env = (false, eval (.Name "ValueError" q2) X.env) :: starEach [] X.env := by rfl) :
    CZ X P0 O W i ad (.Call (.Name "isinstance" p) [.Name nm q, .Name "ValueError" q2] [] pos) (cC (.bl true)) := by
  obtain ⟨D, hD, zD⟩ := Z.ex
  rw [hC] at hD
  cases hD
  obtain ⟨D, hD, kv⟩ := F.ex cn hc
  rw [hC] at hD
  cases hD
  refine PE.imp (pe_callB (call_isP zD hz hf hp) hg hm bo_isinstance (pa_cons (pe_var (i := i) hN hv hd hcd) (pa_cons (pe_bltn hg2 F.no (by decide +kernel) (v := .ty "ValueError") rfl) pa_nil he2) he) (by decide) (by decide) he hpl) fun σ H Q ⟨e, ρ, S, q⟩ => ?_
  exact ⟨.ref ad, e, .ty "ValueError", .type "ValueError", true, rfl, fun u r => r, kv, q (.bl true) H S .refl ⟨by unfold Rep; rfl, fun z => by cases z⟩⟩
/-- f(e) -/
theorem cz_tell {oe : Obj} {cn nm name x : Str} {k : Nat} {cl : List Str} {kw : Str → Str} {C : Addr} {p q : Pos} (G : GloZ X.prog X.w X.K X.mg X.base name k x cl kw) (hr : L2H.RoomH k X.A) (hc : cn ∈ cl) (hC : X.mg cn = some (.ref C)) (hz : L2N.Zn (.ref C) none oe) (hf : ∃ vs, oe.data = .fields vs) (hh : X.A.handled = some (.ref ad)) (hp : (ad, oe) ∈ X.pn)
    (hN : X.N[i]? = some nm := by rfl) (hv : Vis X.env.scope nm := by first | exact Or.inl rfl | exact Or.inr (Or.inl rfl)) (hd : (nm == ("__debug__" : Str)) = false := by decide) (hcd : (nm == ("__classdict__" : Str)) = false := by decide) (hg : Gl X name := by rfl) (hdb : (name == ("__debug__" : Str)) = false := by decide)
    (he : starEach [.Name nm q] X.env = (false, eval (.Name nm q) X.env) :: starEach [] X.env := by rfl) (hpl : (backTo pos (starEach [] X.env)).any (·.1) = false := by rfl) : CZ X P0 O W i ad (.Call (.Name name p) [.Name nm q] [] pos) (cC (.str (kw cn))) := by
  obtain ⟨f, fd, hm, hk, hb, F⟩ := G.ex
  refine ⟨fun pins s σ H Q I ⟨e1, ρ, S, q⟩ => ?_⟩
  refine wpAny_Call_Name_kw (ld_glob I hg hm ?_ hdb)
  refine PySem.W.callWith_K (h₀ := X.base) I.ok.mod.kin hk (thn ((pa_cons (pe_var (i := i) hN hv hd hcd) pa_nil he).run pos pins s σ H (fun vs H1 => vs = [.ref ad] ∧ H1 = H) I ⟨.ref ad, e1, rfl, rfl⟩) fun us s1 ⟨vs, H1, I1, r, ev, eH⟩ => ⟨I1.kIn, ?_⟩) he hpl
  subst ev eH
  have eu := Vals.ref1 r
  subst eu
  have b := hb s1 [.ref ad] I1.kIn rfl
  rw [List.append_nil] at b
  obtain ⟨p1, p2, p3, p4, p5⟩ := I1.pin (ad, oe) (List.mem_append_left _ hp)
  refine wpAny_call (codeAny_mono ((F cn hc C hC).run X.A X.stack s1 H1 ⟨[.ref ad], []⟩ (.ref ad) Q E0 (ad, oe) hr (hot_of hh hz hf) ⟨p1, p2, fun hm => (List.mem_cons.mp (I1.stkSub ad hm)).elim p3 p4, p5⟩ hz I1.env0 b rfl fun H' sm => ?_) fun r s' hq => ?_)
  · exact q (.str (kw cn)) H' (S.same sm) (Keep.same sm) ⟨by unfold Rep; rfl, fun z => by cases z⟩
  · cases r with
    | error e => exact passN pins σ H1 s1 e s' I1 hq
    | ok fl =>
      cases fl with
      | ret u => exact I1.after hq
      | next => exact False.elim hq
      | brk => exact False.elim hq
      | cont => exact False.elim hq
end
end Y

set_option Elab.async false
set_option linter.all false
set_option maxRecDepth 100000
namespace Y
open PySem PySem.Spec PyProof.Rows L2
theorem _root_.L2H.RoomH.units {k : Nat} {A : Around} (r : L2H.RoomH k A) : A.units + 64 < cLine := by have := r.un; omega
/-- [int(x) for x in xs], xs a name -/
def cIntsH (i : Nat) : EM := fun ρ => do
  let d ← (look i ρ).nox
  match d with
  | .lst ds => (match blsOf ds with
    | some bs => pure (.fr (.lst (bs.map fun b => .int (if b then 1 else 0))), ρ)
    | none => .stk)
  | _ => .stk
theorem reps_i01 {K : PySem.W.Frag} {H : Hp} {P : Pr} : ∀ {bs : List Bool}, Reps K H (bs.map fun b => .int (if b then 1 else 0)) P (bs.map i01)
  | [] => Reps.nil
  | b :: bs => Reps.cons (by unfold Rep; rfl) reps_i01
section
variable {X : Cx} {P0 : Pr} {O W U : List Nat} {i j : Nat}
theorem ce_intsH {elt tgt : Expr} {x y : Str} {scope : Scope} {pos p : Pos} (hot : L2H.HotC X) (hN : X.N.Nodup) (ok : BlkOk X.N X.env.scope scope [(x, j)])
    (hg : ∀ (s : Shared) (H : Hp) (C : Addr) (cl : List (Str × Addr)) (fp : List Addr), PG (X.blk s H scope (compEnvC scope cl C X.env) fp) tgt (gName j))
    (he : ∀ (s : Shared) (H : Hp) (C : Addr) (cl : List (Str × Addr)) (fp : List Addr), PE (X.blk s H scope (compEnvC scope cl C X.env) fp) elt (tCB (fun xs H Q => (∃ i, xs = [.int i] ∧ Q (.int i) H) ∨ ∃ k, xs = [.bl k] ∧ Q (i01 k) H) (tCons (tVar j) tNil)))
    (ho : i ∉ O := by decide) (hi : X.N[i]? = some y := by rfl) (hv : Vis X.env.scope y := by first | exact Or.inl rfl | exact Or.inr (Or.inl rfl)) (hs : ∀ v, foldedSetIterable (.Name y p) X.env v = pure v := by intro _; rfl) (hd : (y == ("__debug__" : Str)) = false := by decide) (hcd : (y == ("__classdict__" : Str)) = false := by decide) :
    CEx X P0 O W E00 (.ListComp elt [⟨tgt, .Name y p, [], 0⟩] scope pos) (cIntsH i) := PE.imp (pe_intsH (i := i) hot hN ok hi hv hg he hs hd hcd) fun σ H Q ⟨ρ, S, h⟩ => by
  obtain ⟨d, e, h⟩ := h.of_nox
  obtain ⟨v, h1, h2⟩ := S.val i d (look_some e) ho
  cases d with
  | lst ds =>
    have h : Res E00 W σ H (match blsOf ds with | some bs => (R.ok (Hd.fr (.lst (bs.map fun b => .int (if b then 1 else 0))), ρ) : R (Hd × Env)) | none => .stk) _ := h
    cases c : blsOf ds with
    | none => rw [c] at h; exact h.elim
    | some bs =>
      rw [c] at h
      unfold Rep at h2
      obtain ⟨a, vs, rfl, n, g1, g2⟩ := h2
      obtain rfl := bls_rep c g2
      exact ⟨a, bs, h1, SqL.of g1, fun D hD => (out_of S .refl h).newL S.dom reps_i01 hD⟩
  | _ => exact h.elim
end
/-- the def, made ready -/
theorem gloZ_mk {P : Program} {w : World} {K : PySem.W.Frag} {mg : Str → Option Value} {base : Heap} {k n : Nat} {name x : Str} {st : Stmt} {N : List Str} {cl : List Str} {kw : Str → Str} {m : Str → SM} (F : Def K mg name st) (S : FnScope N [x] (defScope st))
    (hb : ∀ (cn : Str) (C : Addr) (f : Addr) (cdv : Value) (A : Around) (outer : List PySem.Env) (s : Shared) (H : Hp) (E : XK) (p : Addr × Obj), cn ∈ cl → mg cn = some (.ref C) → Zc (.ref C) none p.2 → (∃ vs, p.2.data = .fields vs) →
      L2H.HotC (L2H.cxH (L2N.CX P w) P w K mg base N name (defScope st) f cdv A outer s H E p) → L2H.RoomH k (A.deeper (envOfC name (defScope st) s.heap.objs.size f cdv)) → PSs (L2H.cxH (L2N.CX P w) P w K mg base N name (defScope st) f cdv A outer s H E p) (defBody st) (tZ K (fun _ => False) [] [] [0] 0 p.1 (m cn)))
    (hm : ∀ cn ∈ cl, ∃ ρ, m cn (List.replicate n none) = .ok (.rt (.vl (.str (kw cn))), ρ))
    (bi : ∀ (kV doc pm : Value) (an : Option Addr) (cdv ct : Value) (us : List Value), us.length = 1 → bindArgs (PySem.W.fnOf name name (defArgs st) (defBody st) (defScope st) .none kV doc pm an cdv ct) ⟨us, []⟩ = Pure.pure ([x].zip us)) (hn : N.length = n := by rfl) (h0 : 0 < n := by decide) : GloZ P w K mg base name (k + 1) x cl kw := by
  obtain ⟨f, fd, hmg, F⟩ := F.ex
  refine ⟨f, fd, hmg, F.kp, F.binds bi, fun cn hc C hC => ⟨fun A outer s H args u Q E p hr hot hpin hz e0 bt eu q => ?_⟩⟩
  rcases F.ex with ⟨_, _, _, _, _, _, cd, _, _, rfl, look, code⟩
  have KX : K.In s.heap := e0.mod.kin.keeps fun b o e => (e0.bs b o e).1
  have lim : s.heap.NoLimit := e0.mod.nolimit.keeps fun b o e => (e0.bs b o e).1
  have kd : ∀ y ∈ [x].zip [u], (defScope st).names.lookup y.1 = some .local ∨ ((defScope st).names.lookup y.1 = some .cell ∧ ((cellsFrom (s.heap.objs.size + 1) (defScope st).names []).lookup y.1).isSome = true) := fun ⟨n, v⟩ hy =>
    (S.par n (List.of_mem_zip hy).1).imp id fun q => ⟨q, PySem.W.cellsFrom_some _ _ _ (.inl q)⟩
  refine codeAny_call_function hr.depth (KX _ _ look) rfl S.co S.gen rfl (PySem.W.codeRec_of KX code) (bt _ _ _ _ (wpAny_newFunctionEnv_cells S.kind kd fun env he s1 xx => ?_))
  subst he
  refine ⟨lim.keeps xx.toInCall.keep, codeAny_func ?_⟩
  obtain ⟨vs, dv, _⟩ := hot.2
  have B := hb cn C f cd A outer s H E p hc hC hz.zc ⟨vs, dv⟩ ⟨p, hot, List.mem_cons_self⟩ (hr.deeper _)
  have ru : Vals [V.ref p.1] [u] := .cons eu .nil
  have I : Inv (L2H.cxH (L2N.CX P w) P w K mg base N name (defScope st) f cd A outer s H E p) [] (L2.start N [.ref p.1]) H s1 := L2H.inv_startH S hpin e0 rfl ru xx
  have lN : (L2.start N [V.ref p.1]).length = n := by
    have := S.pre
    unfold L2.start
    rw [List.length_append, List.length_map, List.length_replicate]
    simp only [List.length_singleton]
    omega
  have S0 : Sim K (fun _ => False) [] [] (List.replicate n none) (L2.start N [V.ref p.1]) H := by
    refine ⟨fun _ z => (nomatch z), by rw [lN, List.length_replicate]; exact Nat.le_refl _, fun b z => ?_, fun i d e => ?_, fun i d e => ?_, fun i j a hi => (nomatch hi), fun a z => ?_⟩
    · rcases z with z | ⟨i, hi, _⟩
      · exact z.elim
      · exact nomatch hi
    · rw [List.getElem?_replicate] at e
      split at e <;> cases e
    · rw [List.getElem?_replicate] at e
      split at e <;> cases e
    · obtain ⟨i, hi, _⟩ := z
      exact nomatch hi
  have s0 : (L2.start N [V.ref p.1])[0]? = some (some (.ref p.1)) := by
    unfold L2.start
    rfl
  obtain ⟨ρ, em⟩ := hm cn hc
  refine wpAny_mono (B.run [] s1 (L2.start N [.ref p.1]) H { nx := fun _ H' => Q .non H', rt := Q } I ⟨s0, _, S0, ?_⟩) (fun fl s' hs => ?_) fun e s' hs => hs
  · rw [em]
    intro σ' H' S' t' l' v r
    have rv : Rep K H' (.str (kw cn)) (FA (fun _ => False) [] σ') v := r
    unfold Rep at rv
    subst rv
    exact q H' fun b o e => t'.keep b o e fun ⟨i, hi, _⟩ => nomatch hi
  · cases fl with
    | ret u =>
      obtain ⟨v, σ', H', J, rv, qv⟩ := hs
      exact ⟨v, H', J.os, J.bare, J.base, J.hok, rv, qv⟩
    | next =>
      obtain ⟨σ', H', J, qv⟩ := hs
      exact ⟨V.non, H', J.os, J.bare, J.base, J.hok, rfl, qv⟩
    | brk => exact (show False from hs.choose_spec.choose_spec.2).elim
    | cont => exact (show False from hs.choose_spec.choose_spec.2).elim
theorem roomH_suite {j k : Nat} {A : Around} {h : Option Value} (r : Room k A) (l : j ≤ k := by decide) : L2H.RoomH j (A.mark h) := ⟨(r.mono l).dp, (r.mono l).un⟩
theorem mem_sub {a b : List Str} {c : Str} (m : c ∈ a) (h : (a.all fun x => decide (x ∈ b)) = true := by decide +kernel) : c ∈ b := of_decide_eq_true (List.all_eq_true.mp h c m)
def kindNs : List (Str × Str) := [("NoRule", "rule"), ("TooMany", "many"), ("NoOrder", "order"), ("NoStand", "stand"), ("NoSeen", "seen"), ("NoSwitch", "switch"), ("NoText", "text"), ("NoRow", "row"), ("NoFrame", "frame"), ("NoDen", "den"), ("NoHolds", "holds"), ("Hears", "hears")]
def kindW (c : Str) : Str := (kindNs.lookup c).getD "none of the classes"
def isB (x cn : Str) : EM := cC (.bl (isErr x cn))
def kindM (cn : Str) : SM :=
  sSeq (sAsg (cLst (cCons (isB "NoRule" cn) (cCons (isB "TooMany" cn) (cCons (isB "NoOrder" cn) (cCons (isB "NoStand" cn) cNil))))) (tmName 1))
  (sSeq (sAsg (cOp addD (cVar 1) (cLst (cCons (isB "NoSeen" cn) (cCons (isB "NoSwitch" cn) (cCons (isB "NoText" cn) (cCons (isB "NoRow" cn) cNil)))))) (tmName 1))
  (sSeq (sAsg (cOp addD (cVar 1) (cLst (cCons (isB "NoFrame" cn) (cCons (isB "NoDen" cn) (cCons (isB "NoHolds" cn) (cCons (isB "Hears" cn) cNil)))))) (tmName 1))
  (sSeq (sIf (cOrT (cNotT (cBo true)) (cBl (cOp neD (cCall sumD (cCons (cIntsH 1) cNil)) (cC (.int 1))))) (sRet (cC (.str "none of the classes"))) sSkip)
  (sSeq (sAsg (cLst (cCons (cC (.str "rule")) (cCons (cC (.str "many")) (cCons (cC (.str "order")) (cCons (cC (.str "stand")) (cCons (cC (.str "seen")) (cCons (cC (.str "switch")) (cCons (cC (.str "text")) (cCons (cC (.str "row")) (cCons (cC (.str "frame")) (cCons (cC (.str "den")) (cCons (cC (.str "holds")) (cCons (cC (.str "hears")) cNil))))))))))))) (tmName 2))
  (sRet (cIx (cVar 2) (cIndex (cVar 1) (cC (.bl true)))))))))
def kindE (cn : Str) : Env := [none, some (.lst (kindNs.map fun p => .bl (isErr p.1 cn))), some (.lst (kindNs.map fun p => .str p.2)), none]
theorem kind_all : ∀ cn ∈ kindNs.map (·.1), ∃ ρ, kindM cn (List.replicate 4 none) = .ok (.rt (.vl (.str (kindW cn))), ρ) := by
  intro cn hc
  simp only [kindNs, List.map_cons, List.map_nil, List.mem_cons, List.not_mem_nil, or_false] at hc
  rcases hc with rfl | rfl | rfl | rfl | rfl | rfl | rfl | rfl | rfl | rfl | rfl | rfl
  · exact ⟨kindE "NoRule", by kernel_rfl⟩
  · exact ⟨kindE "TooMany", by kernel_rfl⟩
  · exact ⟨kindE "NoOrder", by kernel_rfl⟩
  · exact ⟨kindE "NoStand", by kernel_rfl⟩
  · exact ⟨kindE "NoSeen", by kernel_rfl⟩
  · exact ⟨kindE "NoSwitch", by kernel_rfl⟩
  · exact ⟨kindE "NoText", by kernel_rfl⟩
  · exact ⟨kindE "NoRow", by kernel_rfl⟩
  · exact ⟨kindE "NoFrame", by kernel_rfl⟩
  · exact ⟨kindE "NoDen", by kernel_rfl⟩
  · exact ⟨kindE "NoHolds", by kernel_rfl⟩
  · exact ⟨kindE "Hears", by kernel_rfl⟩
end Y

set_option Elab.async false
set_option linter.all false
set_option maxRecDepth 100000
namespace Y
open PySem PySem.Spec PyProof.Rows L2
section
variable {K : PySem.W.Frag} {O W : List Nat} {a : Addr} {o : Obj}
end
section
variable {X : Cx} {P0 : Pr} {O W U : List Nat} {E : EK} {tg e : Expr} {ma : EM}
end
variable {ρ : Env}
end Y

set_option Elab.async false
set_option linter.all false
set_option maxRecDepth 100000
namespace Y
open PySem PySem.Spec PyProof.Rows L2
section
variable {prog : Program} {w : World} {A : Around} {E : Value → Shared → Prop}
end
section
variable {X : Cx}
end
end Y

set_option Elab.async false
set_option linter.all false
set_option maxRecDepth 100000
namespace Y
open PySem PySem.Spec PyProof.Rows L2
section
variable {prog : Program} {w : World} {A : Around} {E : Value → Shared → Prop} {s : Shared} {z TI TO T i1 i2 : Addr} {fp1 fp2 : List Addr} {n1 n2 i : Nat} {P1 P2 : Nat → Value → Prop} {St1 St2 : Nat → Heap → Prop} {f : Bool} {oT : Obj}
theorem zipH_item {Q : Value → Shared → Prop} (S : ZipSep2 z TI TO i1 i2 fp1 fp2) (D1 : Draws prog w A i1 fp1 n1 P1 St1) (D2 : Draws prog w A i2 fp2 n2 P2 St2)
    (hz : IsZipHeld s.heap z TI TO T f) (hT : s.heap.get? T = some oT) (hTI : IsTupOf2 s.heap TI (.ref i1) (.ref i2)) (st1 : St1 i s.heap) (st2 : St2 i s.heap) (lt1 : i < n1) (lt2 : i < n2)
    (q : ∀ x1 x2 h' tk, P1 i x1 → P2 i x2 → IsZipHeld h' z TI TO T true → St1 (i + 1) h' → St2 (i + 1) h' → IsTupOf2 h' s.heap.objs.size x1 x2 → (∀ c o, c ≠ z → c ≠ i1 → c ≠ i2 → s.heap.get? c = some o → h'.get? c = some o) → Q (.ref s.heap.objs.size) { s with heap := h', toks := tk }) :
    wpAny (model prog w) A (Builtin.«zip.__next__» ⟨[.ref z], []⟩) (fun fin s' => ∃ v, fin = .done (.ret v) ∧ Q v s') E s := by
  obtain ⟨hp, g, d, tk0, os⟩ := s
  show wpAny _ _ (field (.ref z) 2 >>= _) _ _ _
  refine wpAny_bind (wpAny_field hz rfl (x := .bool false) rfl ?_)
  show wpAny _ _ (field (.ref z) 3 >>= _) _ _ _
  refine wpAny_bind (wpAny_field hz rfl (x := .ref TI) rfl ?_)
  refine wpAny_bind (wpAny_seqItems hTI rfl ?_)
  show wpAny _ _ (Builtin.SmallTypes.ownedTupleIsFree (.ref z) >>= _) _ _ _
  refine wpAny_bind (wpAny_tupleHeld_zip hz hT fun g0 hz0 hs0 => ?_)
  replace hs0 : Heap.SameBut z hp g0 := hs0
  simp only [Bool.false_eq_true, if_false]
  refine wpAny_bind ?_
  rw [← Array.forIn_toList]
  simp only [List.forIn_cons, List.forIn_nil]
  refine wpAny_bind (wpAny_bind (wpAny_holding ?_))
  show wpAny _ _ (Builtin.SmallTypes.nextOf (.ref i1) >>= _) _ _ ⟨g0, g, d, tk0, os⟩
  refine wpAny_bind (D1.item i _ _ _ lt1 (D1.over st1 hs0 S.zf1) fun x1 p1 tk1 y1 sn1 hp1 => wpAny_pure ?_)
  replace hp1 : Heap.SameBut i1 g0 p1 := hp1
  refine wpAny_pure ?_
  refine wpAny_bind (wpAny_bind (wpAny_holding ?_))
  show wpAny _ _ (Builtin.SmallTypes.nextOf (.ref i2) >>= _) _ _ ⟨p1, g, d, tk1, os⟩
  refine wpAny_bind (D2.item i _ _ _ lt2 (D2.over (D2.over st2 hs0 S.zf2) hp1 S.sep1_2) fun x2 p2 tk2 y2 sn2 hp2 => wpAny_pure ?_)
  replace hp2 : Heap.SameBut i2 p1 p2 := hp2
  refine wpAny_pure (wpAny_pure ?_)
  show wpAny _ _ (newTuple [x1, x2] >>= _) _ _ ⟨p2, g, d, tk2, os⟩
  refine wpAny_bind (wpAny_newTuple ?_)
  have es : p2.objs.size = hp.objs.size := by rw [hp2.1, hp1.1, hs0.1]
  have hz3 : IsZipHeld p2 z TI TO T true := hp2.extBut _ _ S.zi2 (hp1.extBut _ _ S.zi1 hz0)
  have hk : ∀ c o, c ≠ z → c ≠ i1 → c ≠ i2 → hp.get? c = some o → p2.get? c = some o := fun c o c1 c2 c3 e => hp2.extBut _ _ c3 (hp1.extBut _ _ c2 (hs0.extBut _ _ c1 e))
  have j1 : St1 (i + 1) p2 := D1.over sn1 hp2 S.sep2_1
  refine wpAny_pure ⟨_, rfl, ?_⟩
  show Q (.ref p2.objs.size) _
  have hT2 : IsTupOf2 (p2.push { cls := .type "tuple", data := .seq #[x1, x2] }) p2.objs.size x1 x2 := Heap.get?_push_size _ rfl
  rw [es] at hT2 ⊢
  exact q x1 x2 _ tk2 y1 y2 (Heap.get?_push_of_some _ hz3) (D1.frame _ _ _ j1 fun b _ o e => Heap.get?_push_of_some _ e) (D2.frame _ _ _ sn2 fun b _ o e => Heap.get?_push_of_some _ e) hT2 fun c o c1 c2 c3 e => Heap.get?_push_of_some _ (hk c o c1 c2 c3 e)
theorem zipH_end {Q : PySem.Fin → Shared → Prop} (S : ZipSep2 z TI TO i1 i2 fp1 fp2) (D1 : Draws prog w A i1 fp1 n1 P1 St1) (D2 : Draws prog w A i2 fp2 n2 P2 St2)
    (hz : IsZipHeld s.heap z TI TO T f) (hT : s.heap.get? T = some oT) (hTI : IsTupOf2 s.heap TI (.ref i1) (.ref i2)) (st1 : St1 i s.heap) (st2 : St2 i s.heap) (le1 : i ≤ n1) (le2 : i ≤ n2) (hend : i = n1 ∨ i = n2)
    (q : ∀ h' tk e, (∀ c o, c ≠ z → c ≠ i1 → c ≠ i2 → s.heap.get? c = some o → h'.get? c = some o) → (∃ o, h'.get? e = some o ∧ o.cls = .type "StopIteration") → E (.ref e) { s with heap := h', toks := tk }) :
    wpAny (model prog w) A (Builtin.«zip.__next__» ⟨[.ref z], []⟩) Q E s := by
  obtain ⟨hp, g, d, tk0, os⟩ := s
  show wpAny _ _ (field (.ref z) 2 >>= _) _ _ _
  refine wpAny_bind (wpAny_field hz rfl (x := .bool false) rfl ?_)
  show wpAny _ _ (field (.ref z) 3 >>= _) _ _ _
  refine wpAny_bind (wpAny_field hz rfl (x := .ref TI) rfl ?_)
  refine wpAny_bind (wpAny_seqItems hTI rfl ?_)
  show wpAny _ _ (Builtin.SmallTypes.ownedTupleIsFree (.ref z) >>= _) _ _ _
  refine wpAny_bind (wpAny_tupleHeld_zip hz hT fun g0 hz0 hs0 => ?_)
  replace hs0 : Heap.SameBut z hp g0 := hs0
  simp only [Bool.false_eq_true, if_false]
  refine wpAny_bind ?_
  rw [← Array.forIn_toList]
  simp only [List.forIn_cons, List.forIn_nil]
  refine wpAny_bind (wpAny_bind (wpAny_holding ?_))
  show wpAny _ _ (Builtin.SmallTypes.nextOf (.ref i1) >>= _) _ _ ⟨g0, g, d, tk0, os⟩
  by_cases lt1 : i < n1
  · refine wpAny_bind (D1.item i _ _ _ lt1 (D1.over st1 hs0 S.zf1) fun x1 p1 tk1 y1 sn1 hp1 => wpAny_pure ?_)
    replace hp1 : Heap.SameBut i1 g0 p1 := hp1
    have e2 : i = n2 := by omega
    refine wpAny_pure ?_
    refine wpAny_bind (wpAny_bind (wpAny_holding ?_))
    show wpAny _ _ (Builtin.SmallTypes.nextOf (.ref i2) >>= _) _ _ ⟨p1, g, d, tk1, os⟩
    refine wpAny_bind (D2.done ⟨p1, g, d, tk1, os⟩ _ _ (by rw [← e2]; exact D2.over (D2.over st2 hs0 S.zf2) hp1 S.sep1_2) fun h' e hq he => ?_)
    replace hq : Heap.ExtBut i2 p1 h' := hq
    exact q h' tk1 e (fun c o c1 c2 c3 x => hq _ _ c3 (hp1.extBut _ _ c2 (hs0.extBut _ _ c1 x))) he
  · have e1 : i = n1 := by omega
    refine wpAny_bind (D1.done ⟨g0, g, d, tk0, os⟩ _ _ (by rw [← e1]; exact D1.over st1 hs0 S.zf1) fun h' e hq he => ?_)
    replace hq : Heap.ExtBut i1 g0 h' := hq
    exact q h' tk0 e (fun c o c1 c2 c3 x => hq _ _ c2 (hs0.extBut _ _ c1 x)) he
theorem next_zipH_item {Q : Option Value → Shared → Prop} (S : ZipSep2 z TI TO i1 i2 fp1 fp2) (D1 : Draws prog w A.in1 i1 fp1 n1 P1 St1) (D2 : Draws prog w A.in1 i2 fp2 n2 P2 St2)
    (hz : IsZipHeld s.heap z TI TO T f) (hT : s.heap.get? T = some oT) (hTI : IsTupOf2 s.heap TI (.ref i1) (.ref i2)) (st1 : St1 i s.heap) (st2 : St2 i s.heap) (lt1 : i < n1) (lt2 : i < n2)
    (q : ∀ x1 x2 h' tk, P1 i x1 → P2 i x2 → IsZipHeld h' z TI TO T true → St1 (i + 1) h' → St2 (i + 1) h' → IsTupOf2 h' s.heap.objs.size x1 x2 → (∀ c o, c ≠ z → c ≠ i1 → c ≠ i2 → s.heap.get? c = some o → h'.get? c = some o) → Q (some (.ref s.heap.objs.size)) { s with heap := h', toks := tk }) :
    wpAny (model prog w) A (pyNext (.ref z)) Q E s := by
  have ty : s.TypeIs (.ref z) "zip" := ⟨_, hz, rfl⟩
  unfold pyNext
  exact wpAny_bind (wpAny_attempt (wpAny_callSpecial?_slot (name := Str.ofString "__next__") ty F.slot_zip_next (wpAny_call_entry F.slot_zip_next ty F.entry_zip_next
      (zipH_item S D1 D2 hz hT hTI st1 st2 lt1 lt2 fun x1 x2 h' tk y1 y2 a b c e k => wpAny_pure (q x1 x2 h' tk y1 y2 a b c e k)) (F.args_zip_next_1 _))))
theorem next_zipH_end {Q : Option Value → Shared → Prop} (S : ZipSep2 z TI TO i1 i2 fp1 fp2) (D1 : Draws prog w A.in1 i1 fp1 n1 P1 St1) (D2 : Draws prog w A.in1 i2 fp2 n2 P2 St2)
    (hz : IsZipHeld s.heap z TI TO T f) (hT : s.heap.get? T = some oT) (hTI : IsTupOf2 s.heap TI (.ref i1) (.ref i2)) (st1 : St1 i s.heap) (st2 : St2 i s.heap) (le1 : i ≤ n1) (le2 : i ≤ n2) (hend : i = n1 ∨ i = n2)
    (q : ∀ h' tk, (∀ c o, c ≠ z → c ≠ i1 → c ≠ i2 → s.heap.get? c = some o → h'.get? c = some o) → Q none { s with heap := h', toks := tk }) : wpAny (model prog w) A (pyNext (.ref z)) Q E s := by
  have ty : s.TypeIs (.ref z) "zip" := ⟨_, hz, rfl⟩
  unfold pyNext
  refine wpAny_bind (wpAny_attempt (wpAny_callSpecial?_slot (name := Str.ofString "__next__") ty F.slot_zip_next (wpAny_call_entry F.slot_zip_next ty F.entry_zip_next
    (zipH_end S D1 D2 hz hT hTI st1 st2 le1 le2 hend fun h' tk e hk he => ?_) (F.args_zip_next_1 _))))
  obtain ⟨o, ho, hc⟩ := he
  refine wpAny_bind (wpAny_isInstance (T := "StopIteration") (b := true) ⟨o, ho, hc⟩ isSubtype_stop ?_)
  exact wpAny_pure (q _ _ hk)
end
end Y

set_option Elab.async false
set_option linter.all false
set_option maxRecDepth 100000
namespace Y
open PySem PySem.Spec PyProof.Rows L2
section
variable {prog : Program} {w : World} {A : Around} {E : Value → Shared → Prop} {s : Shared}
end
section
variable {prog : Program} {w : World} {A : Around} {E : Value → Shared → Prop} {s : Shared} {R : Result → Shared → Prop} {z TI TO i1 i2 S : Addr} {fp1 fp2 : List Addr} {n1 n2 i : Nat} {P1 P2 : Nat → Value → Prop} {St1 St2 : Nat → Heap → Prop}
/-- i pairs are out -/
def ZSt (z TI TO i1 i2 S : Addr) (St1 St2 : Nat → Heap → Prop) (i : Nat) (h : Heap) : Prop := IsTupOf2 h TI (.ref i1) (.ref i2) ∧ St1 i h ∧ St2 i h ∧
  ((IsZip h z TI TO .none ∧ ∃ a b, IsTupOf2 h TO a b) ∨ ∃ T f oT, IsZipHeld h z TI TO T f ∧ h.get? T = some oT ∧ T ≠ z ∧ T ≠ i1 ∧ T ≠ i2 ∧ T ≠ S)
theorem ZSt.ty {h : Heap} (x : ZSt z TI TO i1 i2 S St1 St2 i h) : ∃ o, h.get? z = some o ∧ o.cls = .type "zip" := by
  rcases x.2.2.2 with ⟨e, _⟩ | ⟨T, f, oT, e, _⟩
  · exact ⟨_, e, rfl⟩
  · exact ⟨_, e, rfl⟩
theorem ZSt.stay (Sp : ZipSep2 z TI TO i1 i2 fp1 fp2) (D1 : Draws prog w A i1 fp1 n1 P1 St1) (D2 : Draws prog w A i2 fp2 n2 P2 St2) {h h' : Heap} (x : ZSt z TI TO i1 i2 S St1 St2 i h) (nz : S ≠ z) (nI : S ≠ TI) (nO : S ≠ TO) (n1' : S ∉ fp1) (n2' : S ∉ fp2)
    (k : ∀ b o, b ≠ S → h.get? b = some o → h'.get? b = some o) : ZSt z TI TO i1 i2 S St1 St2 i h' := by
  obtain ⟨a, b, c, d⟩ := x
  refine ⟨k _ _ nI.symm a, D1.frame _ _ _ b fun q hq o e => k q o (fun e2 => n1' (e2 ▸ hq)) e, D2.frame _ _ _ c fun q hq o e => k q o (fun e2 => n2' (e2 ▸ hq)) e, ?_⟩
  rcases d with ⟨d1, y1, y2, d2⟩ | ⟨T, f, oT, d1, d2, d3, d4, d5, d6⟩
  · exact .inl ⟨k _ _ nz.symm d1, y1, y2, k _ _ nO.symm d2⟩
  · exact .inr ⟨T, f, oT, k _ _ nz.symm d1, k _ _ d6 d2, d3, d4, d5, d6⟩
theorem zl_item {Q : Option Value → Shared → Prop} (Sp : ZipSep2 z TI TO i1 i2 fp1 fp2) (D1 : Draws prog w A.in1 i1 fp1 n1 P1 St1) (D2 : Draws prog w A.in1 i2 fp2 n2 P2 St2) (x : ZSt z TI TO i1 i2 S St1 St2 i s.heap) (ls : S < s.heap.objs.size) (lt1 : i < n1) (lt2 : i < n2)
    (q : ∀ x1 x2 h' tk, P1 i x1 → P2 i x2 → ZSt z TI TO i1 i2 S St1 St2 (i + 1) h' → IsTupOf2 h' s.heap.objs.size x1 x2 → (∀ c o, c ≠ z → c ≠ TO → c ≠ i1 → c ≠ i2 → s.heap.get? c = some o → h'.get? c = some o) → Q (some (.ref s.heap.objs.size)) { s with heap := h', toks := tk }) :
    wpAny (model prog w) A (pyNext (.ref z)) Q E s := by
  obtain ⟨a, b, c, d⟩ := x
  have ne : ∀ {c : Addr} {o : Obj}, s.heap.get? c = some o → s.heap.objs.size ≠ c := fun e => Nat.ne_of_gt (Heap.lt_size e)
  obtain ⟨_, l1⟩ := D1.live _ _ b
  obtain ⟨_, l2⟩ := D2.live _ _ c
  rcases d with ⟨d1, y1, y2, d2⟩ | ⟨T, f, oT, d1, d2, d3, d4, d5, d6⟩
  · refine wpAny_pyNext_zipD2_item Sp D1 D2 d1 a d2 b c lt1 lt2 fun x1 x2 h' tk p1 p2 z' O' s1 s2 t' sz k => ?_
    exact q x1 x2 h' tk p1 p2 ⟨k _ _ Sp.TIz Sp.TITO Sp.TIi1 Sp.TIi2 a, s1, s2, .inr ⟨s.heap.objs.size, false, _, z', t', ne d1, ne l1, ne l2, Nat.ne_of_gt ls⟩⟩ t' k
  · refine next_zipH_item Sp D1 D2 d1 d2 a b c lt1 lt2 fun x1 x2 h' tk p1 p2 z' s1 s2 t' k => ?_
    exact q x1 x2 h' tk p1 p2 ⟨k _ _ Sp.TIz Sp.TIi1 Sp.TIi2 a, s1, s2, .inr ⟨T, true, oT, z', k _ _ d3 d4 d5 d2, d3, d4, d5, d6⟩⟩ t' fun c o c1 _ c3 c4 e => k c o c1 c3 c4 e
theorem zl_end {Q : Option Value → Shared → Prop} (Sp : ZipSep2 z TI TO i1 i2 fp1 fp2) (D1 : Draws prog w A.in1 i1 fp1 n1 P1 St1) (D2 : Draws prog w A.in1 i2 fp2 n2 P2 St2) (x : ZSt z TI TO i1 i2 S St1 St2 i s.heap) (le1 : i ≤ n1) (le2 : i ≤ n2) (hend : i = n1 ∨ i = n2)
    (q : ∀ h' tk, (∀ c o, c ≠ z → c ≠ TO → c ≠ i1 → c ≠ i2 → s.heap.get? c = some o → h'.get? c = some o) → Q none { s with heap := h', toks := tk }) : wpAny (model prog w) A (pyNext (.ref z)) Q E s := by
  obtain ⟨a, b, c, d⟩ := x
  rcases d with ⟨d1, y1, y2, d2⟩ | ⟨T, f, oT, d1, d2, d3, d4, d5, d6⟩
  · exact wpAny_pyNext_zipD2_end Sp D1 D2 d1 a d2 b c le1 le2 hend q
  · exact next_zipH_end Sp D1 D2 d1 d2 a b c le1 le2 hend fun h' tk k => q h' tk fun c o c1 _ c3 c4 e => k c o c1 c3 c4 e
/-- the pairs that are out -/
structure ZG (P1 P2 : Nat → Value → Prop) (lo : Addr) (h : Heap) (as : List Addr) : Prop where
  rise : as.Pairwise (· < ·)
  above : ∀ a ∈ as, lo < a
  pairs : ∀ (j : Nat) (a : Addr), as[j]? = some a → ∃ x y, P1 j x ∧ P2 j y ∧ IsTupOf2 h a x y
theorem ZG.there {lo : Addr} {h : Heap} {as : List Addr} (g : ZG P1 P2 lo h as) {a : Addr} (ha : a ∈ as) : a < h.objs.size := by
  obtain ⟨j, hj⟩ := List.mem_iff_getElem?.mp ha
  obtain ⟨_, _, _, _, e⟩ := g.pairs j a hj
  exact Heap.lt_size e
end
end Y

set_option Elab.async false
set_option linter.all false
set_option maxRecDepth 100000
namespace Y
open PySem PySem.Spec PyProof.Rows L2
section
variable {X : Cx} {pins : List (Addr × Obj)} {σ : L2.St} {H : Hp} {s : Shared}
end
section
variable {X : Cx} {P0 : Pr} {O W : List Nat} {E : EK} {a b : Expr} {ms : AM} {pos : Pos}
end
variable {ρ : Y.Env}
end Y

set_option Elab.async false
set_option linter.all false
set_option maxRecDepth 100000
namespace Y
open PySem PySem.Spec PyProof.Rows L2
section
variable {X : Cx}
end
end Y

set_option Elab.async false
set_option linter.all false
set_option maxRecDepth 100000
namespace Y
open PySem PySem.Spec PyProof.Rows L2
section
variable {κ : Type} [DecidableEq κ]
theorem stored_nd {acc : List (κ × Value)} {k : κ} {v : Value} (h : k ∉ acc.map (·.1)) : stored acc k v = acc ++ [(k, v)] := by
  unfold stored
  rw [if_neg]
  intro z
  obtain ⟨p, hp, e⟩ := List.any_eq_true.mp z
  exact h (List.mem_map.mpr ⟨p, hp, of_decide_eq_true e⟩)
theorem merged_nd : ∀ {more acc : List (κ × Value)}, ((acc ++ more).map (·.1)).Nodup → merged acc more = acc ++ more
  | [], acc, _ => (List.append_nil acc).symm
  | p :: more, acc, h => by
    have e : acc ++ p :: more = (acc ++ [(p.1, p.2)]) ++ more := by simp
    have n1 : p.1 ∉ acc.map (·.1) := by
      rw [List.map_append, List.map_cons] at h
      have := (List.nodup_append.mp h).2.2
      exact fun z => this _ z _ List.mem_cons_self rfl
    show merged (stored acc p.1 p.2) more = _
    rw [stored_nd n1, e]
    exact merged_nd (by rw [← e]; exact h)
theorem storedH_nd {acc : List (κ × Addr × Value)} {k : κ} {b : Addr} {v : Value} (h : k ∉ acc.map (·.1)) : storedH acc k b v = acc ++ [(k, b, v)] := by
  unfold storedH
  rw [if_neg]
  intro z
  have : ∀ xs : List (κ × Addr × Value), (atKey xs k).isSome = true → k ∈ xs.map (·.1) := by
    intro xs
    induction xs with
    | nil => intro q; cases q
    | cons x xs ih =>
      intro q
      by_cases e : x.1 = k
      · rw [← e]; exact List.mem_cons_self
      · refine List.mem_cons_of_mem _ (ih ?_)
        simpa [atKey, e] using q
  exact h (this acc z)
theorem storedAllH_nd : ∀ {more acc : List (κ × Addr × Value)}, ((acc ++ more).map (·.1)).Nodup → storedAllH acc more = acc ++ more
  | [], acc, _ => (List.append_nil acc).symm
  | p :: more, acc, h => by
    have e : acc ++ p :: more = (acc ++ [(p.1, p.2.1, p.2.2)]) ++ more := by simp
    have n1 : p.1 ∉ acc.map (·.1) := by
      rw [List.map_append, List.map_cons] at h
      have := (List.nodup_append.mp h).2.2
      exact fun z => this _ z _ List.mem_cons_self rfl
    show storedAllH (storedH acc p.1 p.2.1 p.2.2) more = _
    rw [storedH_nd n1, e]
    exact storedAllH_nd (by rw [← e]; exact h)
end
theorem pairArg_zip {prog : Program} {w : World} {z TI TO i1 i2 : Addr} {fp1 fp2 : List Addr} {n1 n2 : Nat} {P1 P2 : Nat → Value → Prop} {St1 St2 : Nat → Heap → Prop} {A0 : Around} (h0 : A0.handled = none) (Sp : ZipSep2 z TI TO i1 i2 fp1 fp2)
    (D1 : ∀ A : Around, A.handled = none → Draws prog w A i1 fp1 n1 P1 St1) (D2 : ∀ A : Around, A.handled = none → Draws prog w A i2 fp2 n2 P2 St2)
    (t1 : ∀ h, St1 0 h → ∀ b ∈ fp1, ∃ o, h.get? b = some o) (t2 : ∀ h, St2 0 h → ∀ b ∈ fp2, ∃ o, h.get? b = some o) :
    PairArg prog w "zip" z (z :: TI :: TO :: (fp1 ++ fp2)) [z, TO, i1, i2] (min n1 n2) (fun i k v => P1 i k ∧ P2 i v)
      (fun h => IsZip h z TI TO .none ∧ IsTupOf2 h TI (.ref i1) (.ref i2) ∧ (∃ a b, IsTupOf2 h TO a b) ∧ St1 0 h ∧ St2 0 h) where
  type := fun s ok => ⟨_, ok.1, rfl⟩
  notDict := by decide
  keep := fun h h' ⟨hz, hI, ⟨a, b, hO⟩, s1, s2⟩ hk => ⟨hk _ _ hz, hk _ _ hI, ⟨a, b, hk _ _ hO⟩, (D1 _ h0).frame _ _ _ s1 fun q _ o e => hk q o e, (D2 _ h0).frame _ _ _ s2 fun q _ o e => hk q o e⟩
  there := fun h ⟨hz, hI, ⟨a, b, hO⟩, s1, s2⟩ q hq => by
    rcases List.mem_cons.mp hq with rfl | hq
    · exact ⟨_, hz⟩
    rcases List.mem_cons.mp hq with rfl | hq
    · exact ⟨_, hI⟩
    rcases List.mem_cons.mp hq with rfl | hq
    · exact ⟨_, hO⟩
    rcases List.mem_append.mp hq with hq | hq
    · exact t1 _ s1 _ hq
    · exact t2 _ s2 _ hq
  sub := fun b hb => by
    have hb : b = z ∨ b = TO ∨ b = i1 ∨ b = i2 := by simpa using hb
    rcases hb with rfl | rfl | rfl | rfl
    · simp
    · simp
    · have := Sp.mem1; simp [this]
    · have := Sp.mem2; simp [this]
  noKeys := fun A s Q E hA ok h => getAttrOr_miss_zip ok.1 rfl rfl rfl zip_no_keys (by decide +kernel) hA h
  iter := fun A s d Q E hA ok hd hdf h => by
    obtain ⟨hz, hI, ⟨a, b, hO⟩, s1, s2⟩ := ok
    have hA1 : A.in1.handled = none := hA
    have nz : d ≠ z := fun e => hdf (by rw [e]; simp)
    have nI : d ≠ TI := fun e => hdf (by rw [e]; simp)
    have nO : d ≠ TO := fun e => hdf (by rw [e]; simp)
    have m1 : d ∉ fp1 := fun e => hdf (by simp [e])
    have m2 : d ∉ fp2 := fun e => hdf (by simp [e])
    refine wpAny_pyIter_zip hz (h z [z, TO, i1, i2] (ZSt z TI TO i1 i2 d St1 St2) s.heap s.toks ?_ ⟨hI, s1, s2, .inl ⟨hz, a, b, hO⟩⟩ (fun _ _ e => e) fun b hb => .inl hb)
    exact {
      off := fun hm => by
        have hb : d = z ∨ d = TO ∨ d = i1 ∨ d = i2 := by simpa using hm
        rcases hb with e | e | e | e
        · exact nz e
        · exact nO e
        · exact m1 (e ▸ Sp.mem1)
        · exact m2 (e ▸ Sp.mem2)
      frame := fun i h₁ h₂ st hk => ZSt.stay Sp (D1 _ hA1) (D2 _ hA1) st nz nI nO m1 m2 hk
      item := fun i s₁ Q₁ E₁ hi st hds hQ => zl_item Sp (D1 _ hA1) (D2 _ hA1) st hds (Nat.lt_of_lt_of_le hi (Nat.min_le_left ..)) (Nat.lt_of_lt_of_le hi (Nat.min_le_right ..)) fun x1 x2 h' tk p1 p2 st' t' k =>
        hQ s₁.heap.objs.size x1 x2 h' tk ⟨p1, p2⟩ (.inl ⟨_, t', rfl, _, rfl⟩) st' fun c o hc e => k c o (fun q => hc (by simp [q])) (fun q => hc (by simp [q])) (fun q => hc (by simp [q])) (fun q => hc (by simp [q])) e
      done := fun s₁ Q₁ E₁ st hQ => zl_end Sp (D1 _ hA1) (D2 _ hA1) st (Nat.min_le_left ..) (Nat.min_le_right ..) (by omega) fun h' tk k =>
        hQ h' tk fun c o hc e => k c o (fun q => hc (by simp [q])) (fun q => hc (by simp [q])) (fun q => hc (by simp [q])) (fun q => hc (by simp [q])) e }
section
variable {X : Cx} {pins : List (Addr × Obj)} {σ : L2.St} {H : Hp} {s : Shared}
/-- .. at any depth of the stack -/
theorem Kd.drawA {k : Kd} {it : Addr} {tk : Tok} {i : Nat} {xs : List V} (I : Inv X pins σ H s) (h : k.has X.K H xs) (lo : ∀ a, k = .l a ∨ k = .t a → a ≠ it) (st : k.at it tk i s.heap) :
    ∃ fp P S, (∀ A : Around, A.handled = none → Kd.Drw X A k it tk xs fp P S) ∧ S i s.heap ∧ (∀ h, S 0 h → ∀ b ∈ fp, ∃ o, h.get? b = some o) ∧ ((∀ z, k ≠ .s z) → ∃ its, Vals xs its ∧ ∀ j v, P j v → its[j]? = some v) := by
  cases k with
  | l a =>
    obtain ⟨its, rv, p, _⟩ := I.list h
    have hl : its.toArray.size = xs.length := by simp [rv.length]
    have D := fun (A : Around) (hh : A.handled = none) => Draws.list (prog := X.prog) (w := X.w) hh it a (lo a (.inl rfl)) its.toArray
    rw [hl] at D
    refine ⟨_, _, _, fun A hh => ⟨D A hh, by simp, fun b hb => by simpa [eq_comm] using hb, fun j h z => z.1, fun j v z => by
      rw [List.getElem?_toArray] at z
      exact vals_at rv z⟩, ⟨st, p.isList⟩, fun h z b hb => ?_, fun _ => ⟨its, rv, fun j v z => by rw [List.getElem?_toArray] at z; exact z⟩⟩
    have hb : b = it ∨ b = a := by simpa using hb
    rcases hb with rfl | rfl
    · obtain ⟨o, e, _⟩ := z.1; exact ⟨o, e⟩
    · obtain ⟨o, e, _⟩ := z.2; exact ⟨o, e⟩
  | t a =>
    obtain ⟨its, rv, p, _⟩ := I.tuple h
    have hl : its.toArray.size = xs.length := by simp [rv.length]
    have D := fun (A : Around) (hh : A.handled = none) => Draws.tuple (prog := X.prog) (w := X.w) hh it a (lo a (.inr rfl)) its.toArray
    rw [hl] at D
    refine ⟨_, _, _, fun A hh => ⟨D A hh, by simp, fun b hb => by simpa [eq_comm] using hb, fun j h z => z.1, fun j v z => by
      rw [List.getElem?_toArray] at z
      exact vals_at rv z⟩, ⟨st, p⟩, fun h z b hb => ?_, fun _ => ⟨its, rv, fun j v z => by rw [List.getElem?_toArray] at z; exact z⟩⟩
    have hb : b = it ∨ b = a := by simpa using hb
    rcases hb with rfl | rfl
    · obtain ⟨o, e, _⟩ := z.1; exact ⟨o, e⟩
    · obtain ⟨o, e, _⟩ := z.2; exact ⟨o, e⟩
  | s z =>
    have h : xs = strV z := h
    have hl : z.cps.size = xs.length := by rw [h]; simp [strV]
    have D := fun (A : Around) (hh : A.handled = none) => Draws.text (prog := X.prog) (w := X.w) hh it z tk
    rw [hl] at D
    refine ⟨_, _, _, fun A hh => ⟨D A hh, by simp, fun b hb => .inl (by simpa using hb), fun j h z => z, fun j v ⟨c, u, e1, e2⟩ => by
      refine ⟨.str ⟨#[c]⟩, ?_, u, e2⟩
      rw [h, strV, List.getElem?_map, Array.getElem?_toList, e1]
      rfl⟩, st, fun h z b hb => ?_, fun n => absurd rfl (n z)⟩
    have hb : b = it := by simpa using hb
    subst hb
    obtain ⟨o, e, _⟩ := z; exact ⟨o, e⟩
end
end Y

set_option Elab.async false
set_option linter.all false
set_option maxRecDepth 100000
namespace Y
open PySem PySem.Spec PyProof.Rows L2
def adrV : V → Addr
  | .ref a => a
  | _ => 0
def RK (kvs : List (Key × V)) (ps : List (V × V)) : Prop := Paired (fun (p : Key × V) (q : V × V) => p.2 = q.2 ∧ q.1 = kV p.1) kvs ps
def RT (H : Hp) (kvs : List (List Key × V)) (ps : List (V × V)) : Prop := Paired (fun (p : List Key × V) (q : V × V) => p.2 = q.2 ∧ ∃ b, q.1 = .ref b ∧ H b = some (.tup (p.1.map kV))) kvs ps
def tDictZip (K : PySem.W.Frag) (ta : TA) : TE := fun σ H Q => ta σ H fun vs H1 => ∃ k1 k2 xs ys, vs = [Kd.val k1, Kd.val k2] ∧ k1.has K H1 xs ∧ k2.has K H1 ys ∧ (∀ z, k2 ≠ .s z) ∧ (xs.zip ys).length ≤ sizeLine ∧
  ((∃ kvs, RK kvs (xs.zip ys) ∧ (kvs.map (·.1)).Nodup ∧ ∀ p, H1 p = none → Q (.ref p) (upd H1 p (.dK kvs))) ∨
   ∃ kvs, RT H1 kvs (xs.zip ys) ∧ (kvs.map (·.1)).Nodup ∧ ∀ p, H1 p = none → Q (.ref p) (upd H1 p (.dT kvs)))
theorem paired_len {α β : Type} {F : α → β → Prop} {l : List α} {m : List β} (h : Paired F l m) : l.length = m.length := Paired.length h
theorem paired_at {α β : Type} {F : α → β → Prop} : ∀ {l : List α} {m : List β} {j : Nat} {b : β}, Paired F l m → m[j]? = some b → ∃ a, l[j]? = some a ∧ F a b
  | _, _, _, _, .nil, e => by simp at e
  | a :: _, _, 0, _, .cons r _, e => by simp at e; subst e; exact ⟨a, rfl, r⟩
  | _ :: l, _, j + 1, _, .cons _ t, e => by simpa using paired_at (j := j) t (by simpa using e)
theorem paired_of {α β : Type} {F : α → β → Prop} : ∀ {l : List α} {m : List β}, l.length = m.length → (∀ (j : Nat) a b, l[j]? = some a → m[j]? = some b → F a b) → Paired F l m
  | [], [], _, _ => .nil
  | [], _ :: _, h, _ => by simp at h
  | _ :: _, [], h, _ => by simp at h
  | a :: l, b :: m, h, f => .cons (f 0 a b rfl rfl) (paired_of (by simpa using h) fun j x y e1 e2 => f (j + 1) x y (by simpa using e1) (by simpa using e2))
theorem keysZip {κ : Type} {kvs : List (κ × V)} {its : List Value} {n : Nat} (h1 : kvs.length = n) (h2 : n ≤ its.length) {j : Nat} {p : κ × V} {u : Value} (e : kvs[j]? = some p) (e2 : its[j]? = some u) : ((kvs.map (·.1)).zip its)[j]? = some (p.1, u) :=
  List.getElem?_zip_eq_some.mpr ⟨by rw [List.getElem?_map, e]; rfl, e2⟩
theorem fstZip {κ β : Type} {ks : List κ} {m : List β} (h : ks.length ≤ m.length) : (ks.zip m).map (·.1) = ks := by
  rw [show (fun x : κ × β => x.1) = Prod.fst from rfl, List.map_fst_zip h]
section
variable {X : Cx} {pins : List (Addr × Obj)} {σ : L2.St} {H : Hp} {s : Shared}
theorem pe_dictZip {e e2 : Expr} {ta : TA} {p p2 q pos : Pos} (hun : X.A.units + 64 < cLine) (hc : X.calm = true) (hg : Gl X "dict") (hm : X.mg "dict" = none) (hg2 : Gl X "zip") (hm2 : X.mg "zip" = none) (ha : PA X [e, e2] ta)
    (hs : starEach [.Call (.Name "zip" p2) [e, e2] [] q] X.env = (false, eval (.Call (.Name "zip" p2) [e, e2] [] q) X.env) :: starEach [] X.env := by rfl)
    (hs2 : starEach [e, e2] X.env = (false, eval e X.env) :: starEach [e2] X.env := by rfl) (hpl : (backTo q (starEach [e2] X.env)).any (·.1) = false := by rfl) :
    PE X (.Call (.Name "dict" p) [.Call (.Name "zip" p2) [e, e2] [] q] [] pos) (tDictZip X.K ta) := by
  refine ⟨fun pins s σ H Q I h => ?_⟩
  refine wpAny_Call_Name_kw (ld_blt I hg hm PyProof.Rows.boot_dict ?_)
  refine PyProof.Rows.callWith_type1 ?_ hs rfl
  rw [hs]
  show wpAny _ _ (spliced ((false, eval (.Call (.Name "zip" p2) [e, e2] [] q) X.env) :: backTo pos (starEach [] X.env))) _ _ s
  refine Calls.spliced_cons ?_
  refine Call_ (ld_blt I hg2 hm2 PyProof.Rows.boot_zip (PyProof.Rows.callWith_type1 (thn (ha.run q pins s σ H _ I h) fun us s1 ⟨vs, H1, I1, r1, q1⟩ => ?_) hs2 hpl))
  obtain ⟨k1, k2, xs, ys, ex, h1, h2, nt, hz, qq⟩ := q1
  subst ex
  obtain ⟨u1, us1, rfl, r2, r3⟩ : ∃ u us', us = u :: us' ∧ RelV k1.val u ∧ Vals [k2.val] us' := by cases r1 with | cons a b => exact ⟨_, _, rfl, a, b⟩
  obtain ⟨u2, rfl, r4⟩ := vals1 r3
  obtain ⟨o1, G1, tk1, b1, g1, l1, m1⟩ := Kd.begins I1 h1 r2
  obtain ⟨o2, G2, tk2, b2, g2, l2, m2⟩ := Kd.begins I1 h2 r4
  refine zip_begins2 b1 b2 g1 g2 fun h' hzz hI hO e1 e2 hsz hk => Calls.spliced_nil ?_
  have I2 : Inv X pins σ H1 { s1 with heap := h' } := I1.kept (t' := s1.toks) hk
  have hh : X.A.handled = none := I1.ok.hd hc
  have cc : Cells5 s1.heap.objs.size k1 k2 := ⟨l1, l2⟩
  obtain ⟨fp1, P1, S1, d1, s1', t1, _⟩ := Kd.drawA I2 h1 (fun a e => ad (by have := Kd.lo_ne cc.lo1 a e; omega)) (m1 _ _ e1)
  obtain ⟨fp2, P2, S2, d2, s2', t2, o2⟩ := Kd.drawA I2 h2 (fun a e => ad (by have := Kd.lo_ne cc.lo2 a e; omega)) (m2 _ _ e2)
  obtain ⟨its, rv, fx⟩ := o2 nt
  have lz : (xs.zip ys).length = min xs.length ys.length := List.length_zip ..
  have PA := pairArg_zip hh (sep5 cc (d1 _ hh) (d2 _ hh)) (fun A hA => (d1 A hA).dr) (fun A hA => (d2 A hA).dr) t1 t2
  have ok : IsZip h' (s1.heap.objs.size + 4) (s1.heap.objs.size + 2) (s1.heap.objs.size + 3) .none ∧ IsTupOf2 h' (s1.heap.objs.size + 2) (.ref s1.heap.objs.size) (.ref (s1.heap.objs.size + 1)) ∧ (∃ a b, IsTupOf2 h' (s1.heap.objs.size + 3) a b) ∧ S1 0 h' ∧ S2 0 h' := ⟨hzz, hI, ⟨_, _, hO⟩, s1', s2'⟩
  have low : ∀ b : Nat, b < s1.heap.objs.size → b ∉ [s1.heap.objs.size + 4, s1.heap.objs.size + 3, s1.heap.objs.size, s1.heap.objs.size + 1] := fun b hb z => by
    have z : b = s1.heap.objs.size + 4 ∨ b = s1.heap.objs.size + 3 ∨ b = s1.heap.objs.size ∨ b = s1.heap.objs.size + 1 := by simpa using z
    omega
  have big : sysModules < h'.objs.size := I2.big
  have fr : H1 h'.objs.size = none := I2.hok.fresh (Nat.le_refl _)
  have lx : xs.length = xs.length := rfl
  rcases qq with ⟨kvs, rk, nd, qq⟩ | ⟨kvs, rk, nd, qq⟩
  · have lk : kvs.length = min xs.length ys.length := by rw [paired_len rk, lz]
    have li : kvs.length ≤ its.length := by rw [lk, ← rv.length]; exact Nat.min_le_right ..
    have mf : (((kvs.map (·.1)).zip its).map (·.1)) = kvs.map (·.1) := fstZip (by rw [List.length_map]; exact li)
    refine call_dict_pairs (knd := mixKind X.prog X.w) (kvs := (kvs.map (·.1)).zip its) (s := { s1 with heap := h' }) PA hh ok ⟨by rw [List.length_zip, List.length_map, Nat.min_eq_left li, lk], fun i key v ⟨y1, y2⟩ => ?_⟩ (by rw [← lz]; exact hz) fun h3 tk hd hk3 => ?_
    · obtain ⟨x, ex, rx⟩ := (d1 _ hh).item _ _ y1
      have ev := fx _ _ y2
      obtain ⟨y, ey, _⟩ := (d2 _ hh).item _ _ y2
      obtain ⟨pq, e3, e4, e5⟩ := paired_at rk (show (xs.zip ys)[i]? = some (x, y) from List.getElem?_zip_eq_some.mpr ⟨ex, ey⟩)
      refine ⟨pq.1, keysZip rfl li e3 ev, kV_is ?_⟩
      rw [← show x = kV pq.1 from e5]; exact rx
    · have mg : merged [] ((kvs.map (·.1)).zip its) = (kvs.map (·.1)).zip its := merged_nd (acc := []) (by rw [List.nil_append, mf]; exact nd)
      have hd : h3.DictOf (mixKind X.prog X.w) h'.objs.size ((kvs.map (·.1)).zip its) := by rw [← mg]; exact hd
      have kp : ∀ b o, s1.heap.get? b = some o → h3.get? b = some o := fun b o e => hk3 b o (low b (Heap.lt_size e)) (hk b o e)
      refine ⟨.ref h'.objs.size, _, I1.laid (a := h'.objs.size) (o := .dK kvs) (h' := h3) (t' := tk) kp (by rw [hsz]; exact Nat.le_add_right _ _) ⟨by rw [lk, ← lz]; exact hz, beq_eq_false_iff_ne.mpr (Ne.symm (Nat.ne_of_lt big)), (kvs.map (·.1)).zip its, ?_, hd⟩, rfl, qq _ fr⟩
      refine paired_of (by rw [List.length_zip, List.length_map, Nat.min_eq_left li]) fun j a b ea eb => ?_
      obtain ⟨f1, f2⟩ := List.getElem?_zip_eq_some.mp eb
      rw [List.getElem?_map, ea] at f1
      simp only [Option.map_some, Option.some.injEq] at f1
      refine ⟨f1, ?_⟩
      obtain ⟨y, ey, ry⟩ := vals_at rv f2
      obtain ⟨pq, e3, e4, _⟩ : ∃ pq : V × V, (xs.zip ys)[j]? = some pq ∧ a.2 = pq.2 ∧ True := by
        have hj : j < (xs.zip ys).length := by rw [← paired_len rk]; exact (List.getElem?_eq_some_iff.mp ea).1
        obtain ⟨a2, g1, g2, _⟩ := paired_at rk (List.getElem?_eq_getElem hj)
        rw [ea] at g1; cases g1
        exact ⟨_, List.getElem?_eq_getElem hj, g2, trivial⟩
      have := (List.getElem?_zip_eq_some.mp e3).2
      rw [ey] at this
      cases this
      rw [e4]; exact ry
  · have lk : kvs.length = min xs.length ys.length := by rw [paired_len rk, lz]
    have li : kvs.length ≤ its.length := by rw [lk, ← rv.length]; exact Nat.min_le_right ..
    have lx : kvs.length ≤ (xs.map adrV).length := by rw [lk, List.length_map]; exact Nat.min_le_left ..
    have l2 : kvs.length ≤ ((xs.map adrV).zip its).length := by rw [List.length_zip]; exact Nat.le_min.mpr ⟨lx, li⟩
    have ats : ∀ (j : Nat) (x : List Key × Addr × Value), ((kvs.map (·.1)).zip ((xs.map adrV).zip its))[j]? = some x → ∃ pq, kvs[j]? = some pq ∧ x.1 = pq.1 ∧ H1 x.2.1 = some (.tup (pq.1.map kV)) ∧ RelV pq.2 x.2.2 := fun j x ex => by
      obtain ⟨f1, f2⟩ := List.getElem?_zip_eq_some.mp ex
      obtain ⟨f3, f4⟩ := List.getElem?_zip_eq_some.mp f2
      rw [List.getElem?_map] at f1 f3
      obtain ⟨pq, g1, g2⟩ := Option.map_eq_some_iff.mp f1
      obtain ⟨xv, g3, g4⟩ := Option.map_eq_some_iff.mp f3
      obtain ⟨y, ey, ry⟩ := vals_at rv f4
      obtain ⟨a2, y1, y2, b, y3, y4⟩ := paired_at rk (show (xs.zip ys)[j]? = some (xv, y) from List.getElem?_zip_eq_some.mpr ⟨g3, ey⟩)
      rw [g1] at y1; cases y1
      have y3 : xv = V.ref b := y3
      subst y3
      refine ⟨pq, g1, g2.symm, ?_, ?_⟩
      · rw [← g4]; exact y4
      · rw [show pq.2 = y from y2]; exact ry
    have mf : ((kvs.map (·.1)).zip ((xs.map adrV).zip its)).map (·.1) = kvs.map (·.1) := fstZip (by rw [List.length_map]; exact l2)
    refine call_dict_pairsH (knd := tupleKind (mixKind X.prog X.w)) (ps := (kvs.map (·.1)).zip ((xs.map adrV).zip its)) (s := { s1 with heap := h' }) PA hh (by show X.A.units + 1 + 1 < cLine; omega) ok ⟨by rw [List.length_zip, List.length_map, Nat.min_eq_left l2, lk], fun i key v ⟨y1, y2⟩ => ?_⟩ (fun hq hkq x hx => ?_) (by rw [← lz]; exact hz) fun h3 tk hd hk3 => ?_
    · obtain ⟨x, ex, rx⟩ := (d1 _ hh).item _ _ y1
      have ev := fx _ _ y2
      obtain ⟨y, ey, _⟩ := (d2 _ hh).item _ _ y2
      obtain ⟨pq, e3, e4, b, e5, e6⟩ := paired_at rk (show (xs.zip ys)[i]? = some (x, y) from List.getElem?_zip_eq_some.mpr ⟨ex, ey⟩)
      have e5 : x = V.ref b := e5
      subst e5
      refine ⟨pq.1, b, List.getElem?_zip_eq_some.mpr ⟨by rw [List.getElem?_map, e3]; rfl, List.getElem?_zip_eq_some.mpr ⟨by rw [List.getElem?_map, ex]; rfl, ev⟩⟩, rx⟩
    · obtain ⟨j, hj⟩ := List.mem_iff_getElem?.mp hx
      obtain ⟨pq, g1, g2, g3, g4⟩ := ats j x hj
      obtain ⟨_, its', r, o, w1, w2, n, w3⟩ := (show ObjOk X.prog X.w H1 h' x.2.1 (.tup (pq.1.map kV)) from I2.hok _ _ g3)
      have w0 : x.2.1 < s1.heap.objs.size := (I1.hok.lt g3)
      rw [g2]
      exact ⟨o, its'.toArray, n, hkq _ _ (Nat.ne_of_lt (Heap.lt_size w1)) (low _ w0) w1, w2, w3, by simpa using items_are r⟩
    · have mg : storedAllH [] ((kvs.map (·.1)).zip ((xs.map adrV).zip its)) = (kvs.map (·.1)).zip ((xs.map adrV).zip its) := storedAllH_nd (acc := []) (by rw [List.nil_append, mf]; exact nd)
      rw [mg] at hd
      obtain ⟨o, es, ep, w1, w2, w3, w4, _, w6⟩ := hd
      have kp : ∀ b o, s1.heap.get? b = some o → h3.get? b = some o := fun b o e => hk3 b o (low b (Heap.lt_size e)) (hk b o e)
      refine ⟨.ref h'.objs.size, _, I1.laid (a := h'.objs.size) (o := .dT kvs) (h' := h3) (t' := tk) kp (by rw [hsz]; exact Nat.le_add_right _ _) ⟨by rw [lk, ← lz]; exact hz, beq_eq_false_iff_ne.mpr (Ne.symm (Nat.ne_of_lt big)), (kvs.map (·.1)).zip ((xs.map adrV).zip its), ?_, o, es, ep, w1, w2, w3, w4, w6⟩, rfl, qq _ fr⟩
      refine paired_of (by rw [List.length_zip, List.length_map, Nat.min_eq_left l2]) fun j a b ea eb => ?_
      obtain ⟨pq, g1, g2, g3, g4⟩ := ats j b eb
      rw [ea] at g1; cases g1
      refine ⟨g2.symm, ?_, g4⟩
      rw [upd_ne (fun z => by rw [z, fr] at g3; cases g3)]
      exact g3
end
def keysT : List D → Option (List (List Key))
  | [] => some []
  | .tup ys :: ds => match keysOf ys, keysT ds with
    | some k, some ks => some (k :: ks)
    | _, _ => none
  | _ :: _ => none
def seqD : D → R (List D)
  | .lst xs => .ok xs
  | .tup xs => .ok xs
  | _ => .stk
def dictZ (x y : D) : R D := do
  let xs ← itD x
  let ys ← seqD y
  if xs.length = ys.length ∧ szOk xs.length = true then
    match keysOf xs with
    | some ks => if ks.Nodup then .ok (.dik ks ys) else .stk
    | none => match keysT xs with
      | some ks => if ks.Nodup then .ok (.dit ks ys) else .stk
      | none => .stk
  else .stk
def cDictZip (m : AM) : EM := fun ρ => do
  let (hs, ρ1) ← m ρ
  match hs with
  | [h, h2] => do
    let x ← (h.d ρ1).nox
    let y ← (h2.d ρ1).nox
    let d ← (dictZ x y).nox
    pure (.fr d, ρ1)
  | _ => .stk
theorem keysT_rep {K : PySem.W.Frag} {H : Hp} {P : Pr} : ∀ {ds : List D} {vs : List V} {ks : List (List Key)}, Reps K H ds P vs → keysT ds = some ks → ks.length = vs.length ∧ ∀ (j : Nat) k v, ks[j]? = some k → vs[j]? = some v → ∃ b, v = .ref b ∧ H b = some (.tup (k.map kV))
  | [], vs, ks, h, e => by
    simp [keysT] at e; subst e
    have := h.nil_iff
    subst this
    exact ⟨rfl, fun j k v q => by simp at q⟩
  | d :: ds, vs, ks, h, e => by
    obtain ⟨v, ws, rfl, h1, h2⟩ := h.cons_iff
    cases d <;> simp only [keysT, reduceCtorEq] at e
    rename_i ys
    cases q : keysOf ys with
    | none => rw [q] at e; simp at e
    | some k =>
      cases r : keysT ds with
      | none => rw [q, r] at e; simp at e
      | some ks' =>
        rw [q, r] at e
        simp only [Option.some.injEq] at e
        subst e
        obtain ⟨i1, i2⟩ := keysT_rep h2 r
        refine ⟨by simp [i1], fun j k2 v2 e1 e2 => ?_⟩
        cases j with
        | succ j => exact i2 j k2 v2 (by simpa using e1) (by simpa using e2)
        | zero =>
          simp at e1 e2
          subst e1 e2
          unfold Rep at h1
          obtain ⟨b, us, rfl, g1, g2⟩ := h1
          exact ⟨b, rfl, by rw [g1, keysOf_rep g2 q]⟩
section
variable {X : Cx} {P0 : Pr} {O W : List Nat} {E : EK} {a b : Expr} {ms : AM} {pos : Pos}
theorem seqD_ok {y : D} {ys : List D} (h : seqD y = .ok ys) : itD y = .ok ys ∧ ∀ z, y ≠ .str z := by
  cases y <;> simp only [seqD, reduceCtorEq, R.ok.injEq] at h
  · subst h; exact ⟨rfl, fun z e => by cases e⟩
  · subst h; exact ⟨rfl, fun z e => by cases e⟩
theorem ce_dictZip {p p2 q : Pos} (hun : X.A.units + 64 < cLine) (hc : X.calm = true) (hm : X.mg "dict" = none) (hm2 : X.mg "zip" = none) (ha : CA X P0 O W E [a, b] ms) (hg : Gl X "dict" := by rfl) (hg2 : Gl X "zip" := by rfl)
    (hs : starEach [.Call (.Name "zip" p2) [a, b] [] q] X.env = (false, eval (.Call (.Name "zip" p2) [a, b] [] q) X.env) :: starEach [] X.env := by rfl)
    (hs2 : starEach [a, b] X.env = (false, eval a X.env) :: starEach [b] X.env := by rfl) (hpl : (backTo q (starEach [b] X.env)).any (·.1) = false := by rfl) :
    CEx X P0 O W E (.Call (.Name "dict" p) [.Call (.Name "zip" p2) [a, b] [] q] [] pos) (cDictZip ms) := PE.imp (pe_dictZip hun hc hg hm hg2 hm2 ha hs hs2 hpl) fun σ H Q ⟨ρ, S, h⟩ => by
  refine ⟨ρ, S, h.of_bind.mono fun ⟨hs, ρ1⟩ q vs H1 S1 k1 r1 => ?_⟩
  match hs, r1, q with
  | [h, h2], r1, q =>
    obtain ⟨v, ws, rfl, t1, t2⟩ := r1
    obtain ⟨w, us, rfl, t3, t4⟩ := t2
    have t4 : us = [] := t4
    subst t4
    obtain ⟨x, ex, q1⟩ := Res.of_nox (show Res E W σ H ((h.d ρ1).nox >>= _) _ from q)
    obtain ⟨y, ey, q2⟩ := q1.of_nox
    obtain ⟨d, ed, q3⟩ := q2.of_nox
    clear q q1 q2
    obtain ⟨xs, e1, ed⟩ := R.ok_of ed
    obtain ⟨ys, e2, ed⟩ := R.ok_of ed
    obtain ⟨e2, ns⟩ := seqD_ok e2
    obtain ⟨c1, vs1, rfl, f1, g1, _⟩ := (t1.d S1 ex).kd e1
    obtain ⟨c2, vs2, rfl, f2, g2, kk⟩ := (t3.d S1 ey).kd e2
    have nt : ∀ z, c2 ≠ .s z := fun z e => by
      subst e
      cases y <;> simp [kdOf, Kd.val] at kk
      · exact ns _ rfl
    by_cases c : xs.length = ys.length ∧ szOk xs.length = true
    · rw [if_pos c] at ed
      have l1 : vs1.length = xs.length := g1.length
      have l2 : vs2.length = ys.length := g2.length
      have lz : (vs1.zip vs2).length = xs.length := by rw [List.length_zip, l1, l2, ← c.1, Nat.min_self]
      refine ⟨c1, c2, vs1, vs2, rfl, f1, f2, nt, by rw [lz]; exact of_decide_eq_true c.2, ?_⟩
      cases ek : keysOf xs with
      | some ks =>
        rw [ek] at ed
        by_cases nd : ks.Nodup
        · have ed : (if ks.Nodup then R.ok (D.dik ks ys) else R.stk) = R.ok d := ed
          rw [if_pos nd] at ed
          cases ed
          have eks := keysOf_rep g1 ek
          have lk : ks.length = vs2.length := by rw [l2, ← c.1, ← l1, eks, List.length_map]
          refine .inl ⟨ks.zip vs2, paired_of (by rw [List.length_zip, List.length_zip]; have c1 := c.1; omega) fun j p pq ea eb => ?_, by rw [fstZip (Nat.le_of_eq lk)]; exact nd, fun p np => ?_⟩
          · obtain ⟨z1, z2⟩ := List.getElem?_zip_eq_some.mp ea
            obtain ⟨z3, z4⟩ := List.getElem?_zip_eq_some.mp eb
            rw [z2] at z4
            rw [eks, List.getElem?_map, z1] at z3
            refine ⟨Option.some.inj z4, (Option.some.inj z3).symm⟩
          · have kp : ∀ b o, H1 b = some o → upd H1 p (.dK (ks.zip vs2)) b = some o := fun b o e => by rw [upd_ne (ne_of_none e np)]; exact e
            have m2 := g2.mono ys S1.dom (fun b o e _ => kp b o e) (P' := fun b => FA P0 O σ b ∨ b = p) (fun b z => z.elim .inl fun z => .inr (by rw [z]; exact np))
            refine out_of (K := X.K) S1 k1 q3 _ _ kp ?_ fun _ a e => by cases e; exact np
            unfold Rep
            exact ⟨p, vs2, rfl, fun z => (S1.dom p z).some np, lk, .inl upd_same, m2⟩
        · have ed : (if ks.Nodup then R.ok (D.dik ks ys) else R.stk) = R.ok d := ed
          rw [if_neg nd] at ed
          cases ed
      | none =>
        rw [ek] at ed
        have ed : (match keysT xs with | some ks => if ks.Nodup then R.ok (D.dit ks ys) else R.stk | none => R.stk) = R.ok d := ed
        cases et : keysT xs with
        | none => rw [et] at ed; cases ed
        | some ks =>
          rw [et] at ed
          by_cases nd : ks.Nodup
          · have ed : (if ks.Nodup then R.ok (D.dit ks ys) else R.stk) = R.ok d := ed
            rw [if_pos nd] at ed
            cases ed
            obtain ⟨lk1, eks⟩ := keysT_rep g1 et
            have lk : ks.length = vs2.length := by rw [l2, ← c.1, ← l1, lk1]
            refine .inr ⟨ks.zip vs2, paired_of (by rw [List.length_zip, List.length_zip]; have c1 := c.1; omega) fun j p pq ea eb => ?_, by rw [fstZip (Nat.le_of_eq lk)]; exact nd, fun p np => ?_⟩
            · obtain ⟨z1, z2⟩ := List.getElem?_zip_eq_some.mp ea
              obtain ⟨z3, z4⟩ := List.getElem?_zip_eq_some.mp eb
              rw [z2] at z4
              refine ⟨Option.some.inj z4, eks j _ _ z1 z3⟩
            · have kp : ∀ b o, H1 b = some o → upd H1 p (.dT (ks.zip vs2)) b = some o := fun b o e => by rw [upd_ne (ne_of_none e np)]; exact e
              have m2 := g2.mono ys S1.dom (fun b o e _ => kp b o e) (P' := fun b => FA P0 O σ b ∨ b = p) (fun b z => z.elim .inl fun z => .inr (by rw [z]; exact np))
              refine out_of (K := X.K) S1 k1 q3 _ _ kp ?_ fun _ a e => by cases e; exact np
              unfold Rep
              exact ⟨p, vs2, rfl, fun z => (S1.dom p z).some np, lk, .inl upd_same, m2⟩
          · have ed : (if ks.Nodup then R.ok (D.dit ks ys) else R.stk) = R.ok d := ed
            rw [if_neg nd] at ed
            cases ed
    · rw [if_neg c] at ed
      cases ed
  | [], _, q => exact q.elim
  | [_], _, q => exact q.elim
  | _ :: _ :: _ :: _, _, q => exact q.elim
end
variable {ρ : Y.Env}
@[simp] theorem e_dictZip {m : AM} : cDictZip m ρ = (m ρ >>= fun p => match p.1 with | [h, h2] => ((h.d p.2).nox >>= fun x => (h2.d p.2).nox >>= fun y => (dictZ x y).nox >>= fun d => R.ok (.fr d, p.2)) | _ => .stk) := by
  unfold cDictZip; congr
end Y

set_option Elab.async false
set_option linter.all false
set_option maxRecDepth 100000
namespace Y
open PySem PySem.Spec PyProof.Rows L2
section
variable {X : Cx} {P0 : Pr} {O W U : List Nat} {E : EK} {e : Expr} {ma : EM} {K : PySem.W.Frag} {pos : Pos}
end
variable {ρ : Y.Env}
end Y

set_option Elab.async false
set_option linter.all false
set_option maxRecDepth 100000
namespace Y
open PySem PySem.Spec PyProof.Rows L2
section
variable {K : PySem.W.Frag} {O W : List Nat} {a : Addr} {o : Obj}
end
section
variable {K : PySem.W.Frag} {P0 : Pr} {O W : List Nat} {E : EK} {ρ : Y.Env} {σ : L2.St} {H : Hp} {m : EM} {Q : VK} {a : Addr} {u : HO}
end
section
variable {X : Cx} {P0 : Pr} {O W : List Nat} {E : EK} {tg : Expr} {pos : Pos}
end
variable {ρ : Y.Env}
end Y

set_option Elab.async false
set_option linter.all false
set_option maxRecDepth 100000
namespace Y.HR
open PySem PySem.Spec PyProof.Rows L2 _root_.HT PySem.W PySem.SeqAt PySem.AutoSeq1 PySem.MeetsSeq PySem.MeetsSeq2 PySem.MeetsSeq3
section
variable {prog : Program} {w : World} {A : Around} {E : Value → Shared → Prop} {s : Shared}
end
end Y.HR
namespace Y
open PySem PySem.Spec PyProof.Rows L2
section
variable {X : Cx} {e k : Expr} {te : TE} {p2 pos : Pos}
end
section
variable {X : Cx} {P0 : Pr} {O W : List Nat} {E : EK} {e k : Expr} {ma : EM} {mk : OM} {p2 pos : Pos}
end
variable {ρ : Y.Env}
end Y

set_option Elab.async false
set_option linter.all false
set_option maxRecDepth 100000
namespace Y
open PySem PySem.Spec PyProof.Rows L2
section
variable {X : Cx} {P0 : Pr} {O W : List Nat} {pos : Pos}
end
end Y

set_option Elab.async false
set_option linter.all false
set_option maxRecDepth 100000
namespace Y
open PySem PySem.Spec PyProof.Rows L2
section
variable {X : Cx} {P0 : Pr} {O W : List Nat} {E : EK} {a : Expr} {ma : EM} {pos : Pos}
end
variable {ρ : Y.Env}
end Y

set_option Elab.async false
set_option linter.all false
set_option maxRecDepth 100000
namespace Y
open PySem PySem.Spec PyProof.Rows L2
section
variable {X : Cx}
end
end Y

set_option Elab.async false
set_option linter.all false
set_option maxRecDepth 100000
namespace Y
open PySem PySem.Spec PyProof.Rows L2
section
variable {K : PySem.W.Frag} {P0 : Pr} {O W U : List Nat} {ρ : Y.Env} {σ : L2.St} {H : Hp} {i : Nat}
end
section
variable {X : Cx} {P0 : Pr} {O W U : List Nat} {E : EK} {st2 : Stmt} {sts : List Stmt} {m mr : SM}
end
end Y

set_option Elab.async false
set_option linter.all false
set_option maxRecDepth 100000
namespace Y
open PySem PySem.Spec PyProof.Rows L2
section
variable {X : Cx} {P0 : Pr} {O W : List Nat} {E : EK} {e f : Expr} {mk mv : EM}
end
variable {ρ : Y.Env}
end Y

set_option Elab.async false
set_option linter.all false
set_option maxRecDepth 100000
namespace Y
open PySem PySem.Spec PyProof.Rows L2
section
variable {prog : Program} {w : World} {d r : Addr} {es : Array DictEntry} {ep : Nat}
end
section
variable {X : Cx} {o : Expr} {td : TE} {p pos apos mpos : Pos}
end
section
variable {X : Cx} {P0 : Pr} {O W : List Nat} {E : EK}
end
variable {ρ : Y.Env}
end Y

set_option Elab.async false
set_option linter.all false
set_option maxRecDepth 100000
namespace Y
open PySem PySem.Spec PyProof.Rows L2
end Y

set_option Elab.async false
set_option linter.all false
set_option maxRecDepth 100000
namespace Y
open PySem PySem.Spec PyProof.Rows L2
section
variable {K : PySem.W.Frag} {P0 : Pr} {O W U : List Nat} {ρ : Y.Env} {σ : L2.St} {H : Hp} {i : Nat}
end
section
variable {X : Cx} {P0 : Pr} {O W U : List Nat} {E : EK} {st2 : Stmt} {sts : List Stmt} {m mr : SM}
end
section
variable {X : Cx} {P0 : Pr} {O W : List Nat} {E : EK} {pos : Pos}
end
end Y

set_option Elab.async false
set_option linter.all false
set_option maxRecDepth 100000
namespace Y
open PySem PySem.Spec PyProof.Rows L2
section
variable {X : Cx} {P0 : Pr} {O W : List Nat} {E : EK} {a e f : Expr} {ma mb mc : EM}
end
section
variable {K : PySem.W.Frag} {X : Cx} {P0 : Pr} {O W U : List Nat} {E : EK} {e f : Expr} {mi mx : EM} {pos : Pos}
end
variable {ρ : Y.Env}
end Y

set_option Elab.async false
set_option linter.all false
set_option maxRecDepth 100000
namespace Y
open PySem PySem.Spec PyProof.Rows L2
theorem PGs.imp {X : Cx} {e : List Expr} {t t' : TGs} (h : PGs X e t) (i : ∀ v σ H Q, t' v σ H Q → t v σ H Q) : PGs X e t' := by
  cases h with
  | mk h => exact ⟨fun pins s σ H v u Q I r q => h pins s σ H v u Q I r (i v σ H Q q)⟩
section
variable {X : Cx} {P0 : Pr} {O W : List Nat} {pos : Pos}
end
def prsD : List D → Option (List (D × D))
  | [] => some []
  | .tup [k, v] :: ds => (prsD ds).map ((k, v) :: ·)
  | _ :: _ => none
def dictPD : List D → R D
  | [.lst ds] => match prsD ds with
    | some ps => match keysOf (ps.map (·.1)) with
      | some ks => if ks.Nodup then .ok (.dik ks (ps.map (·.2))) else .stk
      | none => .stk
    | none => .stk
  | _ => .stk
section
variable {κ : Type} [DecidableEq κ]
theorem mergeK_nd : ∀ {more acc : List (Key × V)}, ((acc ++ more).map (·.1)).Nodup → mergeK acc more = acc ++ more
  | [], acc, _ => by simp [mergeK]
  | p :: more, acc, h => by
    have hn : (acc.any fun kv => decide (kv.1 = p.1)) = false := by
      rw [List.any_eq_false]
      intro q hq z
      have z := of_decide_eq_true z
      rw [List.map_append, List.nodup_append] at h
      exact h.2.2 q.1 (List.mem_map.mpr ⟨q, hq, rfl⟩) p.1 (by simp) z
    have e : mergeK acc (p :: more) = mergeK (acc ++ [p]) more := by
      show mergeK (putK acc p.1 p.2) more = _
      unfold putK
      rw [hn]
      rfl
    rw [e, mergeK_nd (by rw [List.append_assoc]; exact h), List.append_assoc]
    rfl
end
theorem prs_rep {K : PySem.W.Frag} {H : Hp} {P : Pr} : ∀ {ds : List D} {vs : List V} {ps : List (D × D)}, Reps K H ds P vs → prsD ds = some ps → ∃ (as : List Addr) (ks ws : List V), vs = as.map V.ref ∧ as.length = ps.length ∧ Reps K H (ps.map (·.1)) P ks ∧ Reps K H (ps.map (·.2)) P ws ∧ ∀ (j : Nat) (a : Addr), as[j]? = some a → ∃ k w, ks[j]? = some k ∧ ws[j]? = some w ∧ SqT K H a [k, w]
  | [], vs, ps, r, e => by
    cases e
    exact ⟨[], [], [], r.nil_iff, rfl, Reps.nil, Reps.nil, fun j a h => by simp at h⟩
  | d :: ds, vs, ps, r, e => by
    obtain ⟨v, us, rfl, r1, r2⟩ := r.cons_iff
    unfold prsD at e
    split at e
    · rename_i h; cases h
    · rename_i k w ds' h
      cases h
      cases q : prsD ds with
      | none => rw [q] at e; cases e
      | some qs =>
        rw [q] at e
        cases e
        unfold Rep at r1
        obtain ⟨a, xs, rfl, h1, h2⟩ := r1
        obtain ⟨k', xs, rfl, k1, h2⟩ := h2.cons_iff
        obtain ⟨w', xs, rfl, w1, h2⟩ := h2.cons_iff
        have := h2.nil_iff
        subst this
        obtain ⟨as, ks, ws, e1, e2, e3, e4, e5⟩ := prs_rep r2 q
        refine ⟨a :: as, k' :: ks, w' :: ws, by rw [e1]; rfl, by simp [e2], Reps.cons k1 e3, Reps.cons w1 e4, fun j b hb => ?_⟩
        cases j with
        | zero =>
          simp at hb
          subst hb
          exact ⟨k', w', rfl, rfl, SqT.of h1⟩
        | succ j => simpa using e5 j b (by simpa using hb)
    · cases e
theorem cd_dictP {X : Cx} (hc : X.calm = true) : CallR X (.type "dict") (rDs X.K dictPD) := by
  intro pins s σ H xs us Q I r ⟨P, ds, dz, hm, rs, e, out⟩
  unfold dictPD at e
  split at e
  · rename_i ds
    cases q : prsD ds with
    | none => rw [q] at e; cases e
    | some ps =>
      rw [q] at e
      dsimp only at e
      cases ek : keysOf (ps.map (·.1)) with
      | none => rw [ek] at e; cases e
      | some ks =>
        rw [ek] at e
        dsimp only at e
        by_cases nd : ks.Nodup
        · rw [if_pos nd] at e
          cases e
          obtain ⟨v, rfl, r1⟩ := rs.get1
          obtain ⟨a, vs, rfl, h1, h2⟩ := r1.lst
          obtain ⟨as, kvs, ws, e1, e2, e3, e4, e5⟩ := prs_rep h2 q
          subst e1
          have eks := keysOf_rep e3 ek
          have l1 : kvs.length = ps.length := by rw [e3.length, List.length_map]
          have l2 : ws.length = ps.length := by rw [e4.length, List.length_map]
          have l3 : ks.length = ps.length := by rw [← l1, eks, List.length_map]
          have fz : (ks.zip ws).map (·.1) = ks := fstZip (by omega)
          refine call_dictP hc pins s σ H _ us Q I r ⟨a, as, ks.zip ws, rfl, SqL.of h1, paired_of (by rw [List.length_zip]; omega) fun j b p hb hp => ?_, fun p np => ?_⟩
          · obtain ⟨k, w, z1, z2, z3⟩ := e5 j b hb
            obtain ⟨y1, y2⟩ := List.getElem?_zip_eq_some.mp hp
            rw [eks, List.getElem?_map, y1] at z1
            rw [y2] at z2
            cases z1
            cases z2
            exact z3
          · rw [mergeK_nd (acc := []) (by rw [List.nil_append, fz]; exact nd), List.nil_append]
            have kp : ∀ b o, H b = some o → upd H p (.dK (ks.zip ws)) b = some o := fun b o e => by rw [upd_ne (ne_of_none e np)]; exact e
            refine out _ _ kp ?_ fun _ a e => by cases e; exact np
            unfold Rep
            exact ⟨p, ws, rfl, fun z => (hm p z).some np, by omega, .inl upd_same, e4.mono _ hm (fun b o e _ => kp b o e) fun b z => z.elim .inl fun z => .inr (by rw [z]; exact np)⟩
        · rw [if_neg nd] at e
          cases e
  · cases e
@[simp] theorem d_dictP {ds : List D} : dictPD [.lst ds] = (match prsD ds with
    | some ps => match keysOf (ps.map (·.1)) with
      | some ks => if ks.Nodup then .ok (.dik ks (ps.map (·.2))) else .stk
      | none => .stk
    | none => .stk) := id rfl
end Y

set_option Elab.async false
set_option linter.all false
set_option maxRecDepth 100000
namespace Y
open PySem PySem.Spec PyProof.Rows L2 RT
section
variable {prog : Program} {w : World} {A : Around} {E : Value → Shared → Prop} {s : Shared}
end
section
variable {X : Cx}
end
section
variable {X : Cx} {P0 : Pr} {O W : List Nat} {E : EK} {e : Expr} {me : EM} {pos : Pos}
end
variable {ρ : Y.Env}
end Y

set_option Elab.async false
set_option linter.all false
set_option maxRecDepth 100000
namespace Y
open PySem PySem.Spec PyProof.Rows L2
end Y

set_option Elab.async false
set_option linter.all false
set_option maxRecDepth 100000
namespace Y
open PySem PySem.Spec PyProof.Rows L2
abbrev PrT := Addr × List Int
/-- what a set holds of the first i things -/
structure Has (ks : List PrT) (i : Nat) (L : List PrT) : Prop where
  low : ∀ q ∈ L, q ∈ ks.take i
  top : ∀ q ∈ ks.take i, q.2 ∈ L.map (·.2)
theorem Has.none (ks : List PrT) : Has ks 0 [] := ⟨fun q z => (nomatch z), fun q z => by simp at z⟩
theorem take_more {α : Type} {l : List α} {i : Nat} {x : α} (h : l[i]? = some x) : l.take (i + 1) = l.take i ++ [x] := by rw [List.take_add_one, h]; rfl
theorem Has.stay {ks L : List PrT} {i : Nat} {x : PrT} (g : Has ks i L) (h : ks[i]? = some x) (m : x.2 ∈ L.map (·.2)) : Has ks (i + 1) L := by
  refine ⟨fun q z => ?_, fun q z => ?_⟩
  · rw [take_more h]; exact List.mem_append_left _ (g.low q z)
  · rw [take_more h] at z
    rcases List.mem_append.mp z with z | z
    · exact g.top q z
    · rw [List.mem_singleton] at z; rw [z]; exact m
theorem Has.grow {ks L M : List PrT} {i : Nat} {x : PrT} (g : Has ks i L) (h : ks[i]? = some x) (pm : M.Perm (x :: L)) : Has ks (i + 1) M := by
  refine ⟨fun q z => ?_, fun q z => ?_⟩
  · rw [take_more h]
    rcases List.mem_cons.mp (pm.mem_iff.mp z) with rfl | z
    · exact List.mem_append_right _ (by simp)
    · exact List.mem_append_left _ (g.low q z)
  · refine (pm.map (·.2)).mem_iff.mpr ?_
    rw [take_more h] at z
    rcases List.mem_append.mp z with z | z
    · exact List.mem_cons_of_mem _ (g.top q z)
    · rw [List.mem_singleton] at z; rw [z]; exact List.mem_cons_self
section
variable {P : Program} {w : World} {A : Around} {E : Value → Shared → Prop} {s : Shared}
end
section
variable {K : PySem.W.Frag} {X : Cx} {P0 : Pr} {O W : List Nat} {E : EK} {a e : Expr} {ma : EM} {pos : Pos}
end
end Y

set_option Elab.async false
set_option linter.all false
set_option maxRecDepth 100000
namespace Y
open PySem PySem.Spec PyProof.Rows L2
end Y

set_option Elab.async false
set_option linter.all false
set_option maxRecDepth 100000
namespace Y
open PySem PySem.Spec PyProof.Rows L2
section
variable {X : Cx}
end
end Y

set_option Elab.async false
set_option linter.all false
set_option maxRecDepth 100000
namespace Y
open PySem PySem.Spec PyProof.Rows L2
section
variable {X : Cx}
end
end Y

set_option Elab.async false
set_option linter.all false
set_option maxRecDepth 100000
namespace Y
open PySem PySem.Spec PyProof.Rows L2
section
variable {X : Cx} {e k : Expr} {te : TE} {p2 pos : Pos}
end
section
variable {X : Cx} {P0 : Pr} {O W : List Nat} {E : EK} {e k : Expr} {ma : EM} {mk : OM} {p2 pos : Pos}
end
variable {ρ : Y.Env}
end Y

set_option Elab.async false
set_option linter.all false
set_option maxRecDepth 100000
namespace Y
open PySem PySem.Spec PyProof.Rows L2
variable {K : PySem.W.Frag} {P0 : Pr} {O W U : List Nat} {E : EK} {ms : AM}
section
variable {X : Cx}
end
variable {ρ : Y.Env}
end Y

set_option Elab.async false
set_option linter.all false
set_option maxRecDepth 100000
namespace Y
open PySem PySem.Spec PyProof.Rows L2
section
variable {X : Cx} {P0 : Pr} {O W U : List Nat} {E : EK} {st2 : Stmt} {sts : List Stmt} {m mr : SM}
end
end Y

set_option Elab.async false
set_option linter.all false
set_option maxRecDepth 100000
namespace Y
open PySem PySem.Spec PyProof.Rows L2
section
variable {X : Cx} {i : Nat} {x : Str}
end
end Y

set_option Elab.async false
set_option linter.all false
set_option maxRecDepth 100000
namespace Y
open PySem PySem.Spec PyProof.Rows L2
section
variable {K : PySem.W.Frag} {O W : List Nat}
end
section
variable {X : Cx} {P0 : Pr} {O W : List Nat} {E : EK} {a b c tg : Expr} {ms : AM} {pos : Pos}
end
end Y

set_option Elab.async false
set_option linter.all false
set_option maxRecDepth 100000
namespace Y
open PySem PySem.Spec PyProof.Rows L2
section
variable {prog : Program} {w : World} {A : Around} {E : Value → Shared → Prop}
end
section
variable {X : Cx}
end
end Y

set_option Elab.async false
set_option linter.all false
set_option maxRecDepth 100000
namespace Y
open PySem PySem.Spec PyProof.Rows L2
section
variable {X : Cx} {P0 : Pr} {O W U : List Nat} {E : EK} {st : Stmt} {m n : SM} {pre tl : List Stmt}
end
section
variable {K : PySem.W.Frag} {P0 : Pr} {O W : List Nat} {ρ1 ρ2 : Y.Env} {σ1 σ2 : L2.St} {H1 H2 : Hp}
end
section
variable {X : Cx} {P0 : Pr} {O W U UU us : List Nat} {E : EK} {XE : XK} {e : Expr} {es : List Expr} {ms : AM} {pos pos2 p px : Pos} {k np i : Nat} {name x : Str} {n n0 : SM} {tl pre : List Stmt} {tr : D → Bool} {R : PySem.W.Frag → Pr → V → Hp → Prop}
def r0 (K : PySem.W.Frag) (A : Pr) (v : V) (H : Hp) : Prop := ∃ a ws b xs, v = .ref a ∧ A a ∧ ws.length < sizeLine ∧ H a = some (.lst ws) ∧ ws[0]? = some (V.ref b) ∧ A b ∧ b ≠ a ∧ H b = some (.lst xs)
end
end Y

set_option Elab.async false
set_option linter.all false
set_option maxRecDepth 100000
namespace Y
open PySem PySem.Spec PyProof.Rows L2
section
variable {K : PySem.W.Frag} {X : Cx} {P0 : Pr} {O W : List Nat} {E : EK} {e : Expr} {es : List Expr} {ms : AM} {pos : Pos}
end
section
variable {K : PySem.W.Frag} {X : Cx} {P0 : Pr} {O W : List Nat} {E : EK} {o e : Expr} {es : List Expr} {to : TE} {t : TA} {name : Str} {apos cpos : Pos} {id : String} {r : V → List V → Hp → VK → Prop}
end
section
variable {X : Cx}
end
variable {ρ : Y.Env}
@[simp] theorem d_lenF {x : List D} : lenD [.ftu x] = .ok (.int x.length) := id rfl
@[simp] theorem d_itF {x : List D} : itD (.ftu x) = .ok x := id rfl
@[simp] theorem d_ixF {x : List D} {i : Int} : ixD (.ftu x) (.int i) = match atI x i with | some d => .ok d | none => .stk := id rfl
@[simp] theorem isFt_F {ds : List D} : isFt (.ftu ds) = true := id rfl
@[simp] theorem isTup_F {ds : List D} : isTup (.ftu ds) = true := id rfl
@[simp] theorem nlF {ds : List D} : D.nl (.ftu ds) = nls ds := by simp [D.nl]
end Y

set_option Elab.async false
set_option linter.all false
set_option maxRecDepth 100000
set_option maxHeartbeats 4000000
namespace Y
open PySem PySem.Spec PyProof.Rows L2
section
variable {X : Cx}
end
end Y

set_option Elab.async false
set_option linter.all false
set_option maxRecDepth 100000
set_option maxHeartbeats 4000000
namespace Y
open PySem PySem.Spec PyProof.Rows L2
section
variable {prog : Program} {w : World} {A : Around} {E : Value → Shared → Prop} {s : Shared} {R : Result → Shared → Prop} {e it S T : Addr} {fp : List Addr} {n i : Nat} {P : Nat → Value → Prop} {St : Nat → Heap → Prop} {f : Bool} {oT : Obj} {old : Value}
/-- i pairs are out -/
def ESt (e it S : Addr) (St : Nat → Heap → Prop) (i : Nat) (h : Heap) : Prop := St i h ∧
  ((∃ old, IsEnum h e it ((i : Nat) : Int) old) ∨ ∃ old T f oT, IsEnumHeld h e it ((i : Nat) : Int) old T f ∧ h.get? T = some oT ∧ T ≠ e ∧ T ≠ it ∧ T ≠ S)
theorem ESt.ty {h : Heap} (x : ESt e it S St i h) : ∃ o, h.get? e = some o ∧ o.cls = .type "enumerate" := by
  rcases x.2 with ⟨_, y⟩ | ⟨_, _, _, _, y, _⟩
  · exact ⟨_, y, rfl⟩
  · exact ⟨_, y, rfl⟩
theorem ESt.stay (D : Draws prog w A it fp n P St) {h h' : Heap} (x : ESt e it S St i h) (nz : S ≠ e) (n1 : S ∉ fp) (k : ∀ b o, b ≠ S → h.get? b = some o → h'.get? b = some o) : ESt e it S St i h' := by
  obtain ⟨a, d⟩ := x
  refine ⟨D.frame _ _ _ a fun q hq o y => k q o (fun e2 => n1 (e2 ▸ hq)) y, ?_⟩
  rcases d with ⟨old, y⟩ | ⟨old, T, f, oT, y, y2, d3, d4, d5⟩
  · exact .inl ⟨old, k _ _ nz.symm y⟩
  · exact .inr ⟨old, T, f, oT, k _ _ nz.symm y, k _ _ d5 y2, d3, d4, d5⟩
end
end Y

set_option Elab.async false
set_option linter.all false
set_option maxRecDepth 100000
set_option maxHeartbeats 4000000
namespace Y
open PySem PySem.Spec PyProof.Rows L2
section
variable {X : Cx} {pins : List (Addr × Obj)} {σ : L2.St} {H : Hp} {s : Shared}
end
section
variable {X : Cx} {P0 : Pr} {O W : List Nat} {E : EK} {a b : Expr} {ms : AM} {pos : Pos}
end
variable {ρ : Y.Env}
end Y

set_option Elab.async false
set_option linter.all false
set_option maxRecDepth 100000
namespace Y
open PySem PySem.Spec PyProof.Rows L2
section
variable {X : Cx} {P0 : Pr} {O W : List Nat} {E : EK} {k v : Int} {c1 c2} {p1 p2 pos : Pos}
end
end Y

set_option Elab.async false
set_option linter.all false
set_option maxRecDepth 100000
namespace Y
open PySem PySem.Spec PyProof.Rows L2
section
variable {X : Cx} {P0 : Pr} {O W : List Nat} {E : EK} {a e : Expr} {ma mk : EM} {pos : Pos}
end
variable {ρ : Y.Env}
end Y

set_option Elab.async false
set_option linter.all false
set_option maxRecDepth 100000
namespace Y
open PySem PySem.Spec PyProof.Rows L2
section
variable {K : PySem.W.Frag} {P0 : Pr} {O W : List Nat} {ρ : Env} {σ : St} {H : Hp}
end
section
variable {X : Cx} {P0 : Pr} {O W U : List Nat} {E : EK} {st2 st3 : Stmt} {sts : List Stmt} {es : List Expr} {m0 : AM} {m2 m3 mr : SM}
end
end Y

set_option Elab.async false
set_option linter.all false
set_option maxRecDepth 100000
namespace Y
open PySem PySem.Spec PyProof.Rows L2
section
variable {X : Cx} {P0 : Pr} {O W U : List Nat} {E : EK} {e e2 : Expr} {ms : AM} {pos p2 : Pos} {k i : Nat}
end
end Y

set_option Elab.async false
set_option linter.all false
set_option maxRecDepth 100000
namespace Y
open PySem PySem.Spec PyProof.Rows L2
section
variable {X : Cx} {P0 : Pr} {O W U : List Nat} {E : EK} {i : Nat} {x : Str}
end
end Y

set_option Elab.async false
set_option linter.all false
set_option maxRecDepth 100000
namespace Y
open PySem PySem.Spec PyProof.Rows L2
section
variable {K : PySem.W.Frag} {X : Cx} {P0 : Pr} {O W U : List Nat} {E : EK} {a b e : Expr} {ma mb : EM} {pos : Pos}
end
variable {ρ : Y.Env}
end Y

set_option Elab.async false
set_option linter.all false
set_option maxRecDepth 100000
namespace Y
open PySem PySem.Spec PyProof.Rows L2
section
variable {X : Cx} {pins : List (Addr × Obj)} {σ : L2.St} {H : Hp} {s : Shared}
end
/-- what a def with a hidden slot promises; the slot's datum is the last one of g -/
def spT (K : PySem.W.Frag) (mg : Str → Option Value) (np : Nat) (O : List Nat) (g : Fn) : Sp := fun vs H Q E => vs.length = np ∧ ∃ v, spD K mg (np + 1) O g (vs ++ [v]) H Q E
structure GloT (P : Program) (w : World) (K : PySem.W.Frag) (mg : Str → Option Value) (base : Heap) (name : Str) (k np : Nat) (O : List Nat) (g : Fn) : Prop where
  ex : ∃ f fd ps, mg name = some (.ref f) ∧ PySem.W.keepIn K (.ref f) = true ∧ Binds K fd ps [] ∧ ps.length = np ∧ FnOk P w K mg base (L2N.CX P w) k f fd ps (spT K mg np O g)
section
variable {K : PySem.W.Frag} {mg : Str → Option Value} {P0 : Pr} {O Oc W U : List Nat} {ρ : Env} {σ : St} {H H' : Hp} {d : D} {v : V} {np n : Nat}
end
theorem GloT.mono {P : Program} {w : World} {K : PySem.W.Frag} {mg : Str → Option Value} {base : Heap} {name : Str} {k np : Nat} {O : List Nat} {g : Fn} {k' : Nat} (G : GloT P w K mg base name k np O g) (h : k ≤ k' := by decide) : GloT P w K mg base name k' np O g :=
  let ⟨f, fd, ps, h1, h2, h3, h4, F⟩ := G.ex
  ⟨f, fd, ps, h1, h2, h3, h4, F.mono h⟩
section
variable {X : Cx} {P0 : Pr} {O Oc W U : List Nat} {E : EK} {XE : XK} {e : Expr} {es : List Expr} {ms : AM} {pos : Pos} {k np : Nat} {name : Str} {pr : List (Nat × Nat)} {t : Nat}
end
end Y

set_option Elab.async false
set_option linter.all false
set_option maxRecDepth 100000
set_option maxHeartbeats 2000000
namespace Y
open PySem PySem.Spec PyProof.Rows L2
section
variable {X : Cx} {pins : List (Addr × Obj)} {σ : L2.St} {H : Hp} {s : Shared}
end
section
variable {prog : Program} {w : World} {A : Around} {s : Shared} {x q : Str} {params : Arguments} {body : Expr} {scope : Scope} {pm ctv : Value} {c' f : Addr} {v : Value} {Q : Value → Shared → Prop}
end
end Y

set_option Elab.async false
set_option linter.all false
set_option maxRecDepth 100000
set_option maxHeartbeats 2000000
namespace Y
open PySem PySem.Spec PyProof.Rows L2
section
variable {α : Type} {g : α → Int}
end
def cnt (c z : Str) : Int := Txt.count z c
section
variable {X : Cx} {pins : List (Addr × Obj)} {σ : L2.St} {H : Hp} {s : Shared} {x q c : Str} {params : Arguments} {body : Expr} {scope : Scope} {pm ctv : Value} {c' f a : Addr} {xs : List Str} {Q : VK} {k : Nat}
end
end Y

set_option Elab.async false
set_option linter.all false
set_option maxRecDepth 100000
set_option maxHeartbeats 2000000
namespace Y
open PySem PySem.Spec PyProof.Rows L2
section
variable {K : PySem.W.Frag} {P0 : Pr} {O W : List Nat} {ρ : Env} {σ : L2.St} {H H2 : Hp} {t : Nat} {P : Addr} {q : Str}
end
section
variable {X : Cx} {P0 : Pr} {O W : List Nat} {E : EK} {a : Expr} {ma : EM} {pos : Pos} {k : Nat}
end
variable {ρ : Y.Env}
end Y

set_option Elab.async false
set_option linter.all false
set_option maxRecDepth 100000
namespace Y
open PySem PySem.Spec PyProof.Rows L2
section
variable {K : PySem.W.Frag} {mg : Str → Option Value} {O Oc W U : List Nat} {np n : Nat}
end
end Y

set_option Elab.async false
set_option linter.all false
set_option maxRecDepth 100000
namespace Y
open PySem PySem.Spec PyProof.Rows L2
section
variable {X : Cx} {P0 : Pr} {O Oc W : List Nat} {e : Expr} {es : List Expr} {ms : AM} {pos : Pos} {k k0 np : Nat} {name : Str} {pr : List (Nat × Nat)} {t : Nat}
end
end Y

set_option Elab.async false
set_option linter.all false
set_option maxRecDepth 100000
namespace Y
open PySem PySem.Spec PyProof.Rows L2
end Y

set_option Elab.async false
set_option linter.all false
set_option maxRecDepth 100000
set_option maxHeartbeats 4000000
namespace Y
open PySem PySem.Spec PyProof.Rows L2
section
variable {prog : Program} {w : World} {A : Around} {s : Shared} {x : Str} {Q : Value → Shared → Prop}
end

section
variable {X : Cx} {P0 : Pr} {O W : List Nat} {E : EK} {a : Expr} {ma : EM} {pos : Pos} {k : Nat}
end
end Y

set_option Elab.async false
set_option linter.all false
set_option maxRecDepth 100000
set_option maxHeartbeats 2000000
namespace Y
open PySem PySem.Spec PyProof.Rows L2
section
variable {X : Cx} {P0 : Pr} {O W : List Nat} {E : EK} {a : Expr} {ma : EM} {pos : Pos} {k : Nat}
end
variable {ρ : Y.Env}
end Y

set_option Elab.async false
set_option linter.all false
set_option maxRecDepth 100000
set_option maxHeartbeats 2000000
namespace Y
open PySem PySem.Spec PyProof.Rows L2
section
variable {X : Cx} {P0 : Pr} {O W : List Nat} {E : EK} {a : Expr} {ma : EM} {pos : Pos} {k : Nat}
end
variable {ρ : Y.Env}
end Y

set_option Elab.async false
set_option linter.all false
set_option maxRecDepth 100000
set_option maxHeartbeats 4000000
namespace Y
open PySem PySem.Spec PyProof.Rows L2
section
variable {prog : Program} {w : World} {A : Around} {E : Value → Shared → Prop} {s : Shared} {e it T : Addr} {fp : List Addr} {n i : Nat} {P : Nat → Value → Prop} {St : Nat → Heap → Prop} {f : Bool} {old : Value}
end
section
variable {X : Cx} {P0 : Pr} {O W : List Nat} {E : EK} {a e : Expr} {ms : AM} {pos : Pos}
end
end Y

set_option Elab.async false
set_option linter.all false
set_option maxRecDepth 100000
set_option maxHeartbeats 4000000
namespace Y
open PySem PySem.Spec PyProof.Rows L2
section
variable {X : Cx}
end
end Y

set_option Elab.async false
set_option linter.all false
set_option maxRecDepth 100000
set_option maxHeartbeats 4000000
namespace Y
open PySem PySem.Spec PyProof.Rows L2
section
variable {X : Cx}
end
end Y

set_option Elab.async false
set_option linter.all false
set_option maxRecDepth 100000
set_option maxHeartbeats 4000000
namespace Y
open PySem PySem.Spec PyProof.Rows L2
section
variable {P : Program} {w : World} {A : Around} {E : Value → Shared → Prop} {s : Shared}
def IntsE (l : List (Int × Value)) : Prop := ∀ e ∈ l, GoodE e
theorem IntsE.perm {l l' : List (Int × Value)} (h : IntsE l) (p : l'.Perm l) : IntsE l' := fun e he => h e (p.mem_iff.mp he)
end
end Y

namespace Y
open PySem PySem.Spec PyProof.Rows L2
end Y

namespace Y
open PySem PySem.Spec PyProof.Rows L2
section
variable {K : PySem.W.Frag} {X : Cx} {P0 : Pr} {O W : List Nat} {E : EK} {a b : Expr} {ma mb : EM} {pos : Pos}
end
variable {ρ : Y.Env}
end Y

set_option Elab.async false
set_option linter.all false
set_option maxRecDepth 100000
set_option maxHeartbeats 4000000
namespace Y
open PySem PySem.Spec PyProof.Rows L2
section
variable {X : Cx} {P0 : Pr} {O W U : List Nat} {E : EK} {a b : Expr} {ms : AM} {pos : Pos}
end
variable {ρ : Y.Env}
end Y

set_option Elab.async false
set_option linter.all false
set_option maxRecDepth 100000
namespace Y
open PySem PySem.Spec PyProof.Rows L2
section
variable {X : Cx}
end
end Y

set_option Elab.async false
set_option linter.all false
set_option maxRecDepth 100000
set_option maxHeartbeats 4000000
namespace Y
open PySem PySem.Spec PyProof.Rows L2
section
variable {X : Cx}
end
section
variable {K : PySem.W.Frag} {X : Cx} {P0 : Pr} {O W : List Nat} {E : EK} {a b : Expr} {ma mb : EM} {pos : Pos}
end
section
variable {X : Cx} {P0 : Pr} {O W U : List Nat} {E : EK}
end
variable {ρ : Y.Env}
end Y

set_option Elab.async false
set_option linter.all false
set_option maxRecDepth 100000
set_option maxHeartbeats 4000000
namespace Y
open PySem PySem.Spec PyProof.Rows L2
def cKIx (tab : List (Str × Int)) (m : EM) : EM := fun ρ => m ρ >>= fun p => (p.1.d p.2).nox >>= fun d => match d with
  | .str z => (match tab.lookup z with | some i => R.ok (Hd.fr (.int i), p.2) | none => .stk)
  | _ => .stk
/-- the name x holds such a dict -/
structure TabK (K : PySem.W.Frag) (w : World) (mg : Str → Option Value) (x : Str) (tab : List (Str × Int)) : Prop where
  ex : ∃ a, mg x = some (.ref a) ∧ ∀ z i, tab.lookup z = some i → KDct K w a z (.int i)
theorem tabK_of {K : PySem.W.Frag} {w : World} {mg : Str → Option Value} {x : Str} {a : Addr} {tab : List (Str × Int)} (hm : mg x = some (.ref a)) (h : ∀ p ∈ tab, KDct K w a p.1 (.int p.2)) : TabK K w mg x tab :=
  ⟨⟨a, hm, fun z i e => by
    induction tab with
    | nil => cases e
    | cons q t ih =>
      obtain ⟨k, v⟩ := q
      rw [List.lookup_cons] at e
      by_cases c : (z == k) = true
      · rw [c] at e
        have e := Option.some.inj e
        subst e
        rw [beq_iff_eq.mp c]
        exact h (k, v) (by simp)
      · have c : (z == k) = false := by simpa using c
        rw [c] at e
        exact ih (fun p hp => h p (by simp [hp])) e⟩⟩
theorem kdct_of {K : PySem.W.Frag} {w : World} {a : Addr} {es : Array DictEntry} {n : Nat} {x : Str} {i : Int} {t : Tok} (hl : K.lookup a = some ⟨.type "dict", none, .dict es n, #[]⟩) (hk : PySem.W.KeysLit w.params es.toList) (e : PySem.W.nsIn K a x = some (some (.int i t))) : KDct K w a x (.int i) := ⟨es, n, _, hl, hk, e, t, rfl⟩
section
variable {X : Cx} {P0 : Pr} {O W : List Nat} {E : EK} {b : Expr} {mb : EM} {pos p : Pos}
theorem ce_kix {x : Str} {tab : List (Str × Int)} (hT : TabK X.K X.w X.mg x tab) (hb : CEx X P0 O W E b mb) (hg : Gl X x := by rfl) (hdb : (x == ("__debug__" : Str)) = false := by decide) (hs : PlainIx b := by intro _ _; rfl) : CEx X P0 O W E (.Subscript (.Name x p) b pos) (cKIx tab mb) := by
  obtain ⟨a, hm, hd⟩ := hT.ex
  refine PE.imp (pe_ix ix_kdict (pe_glob (v := .ref a) hg hm rfl hdb) hb hs) fun σ H Q ⟨ρ, S, h⟩ => ?_
  refine ⟨ρ, S, h.of_bind.mono fun ⟨h1, ρ1⟩ q y H1 S1 k1 r1 => ?_⟩
  obtain ⟨d, e1, q⟩ := q.of_nox
  have rw1 := r1.d S1 e1
  have q : Res E W σ H (match d with
    | .str z => (match tab.lookup z with | some i => R.ok (Hd.fr (.int i), ρ1) | none => .stk)
    | _ => .stk) _ := q
  cases d with
  | str z =>
    cases e : tab.lookup z with
    | none =>
      simp only [e] at q; exact q.elim
    | some i =>
      simp only [e] at q
      have rs : y = .str z := rw1.str
      exact ⟨a, z, .int i, rfl, rs, hd z i e, (out_of (K := X.K) S1 k1 q) (.int i) H1 (fun _ _ e => e) (by unfold Rep; rfl) fun z => by cases z⟩
  | _ => exact q.elim
end
variable {ρ : Y.Env}
@[simp] theorem e_kix {tab : List (Str × Int)} {m : EM} : cKIx tab m ρ = (m ρ >>= fun p => (p.1.d p.2).nox >>= fun d => match d with
  | .str z => (match tab.lookup z with | some i => R.ok (Hd.fr (.int i), p.2) | none => .stk)
  | _ => .stk) := id rfl
end Y

set_option Elab.async false
set_option linter.all false
set_option maxRecDepth 100000
namespace Y
open PySem PySem.Spec PyProof.Rows L2
section
variable {K : PySem.W.Frag} {P0 : Pr} {O W : List Nat} {E : EK} {m : EM}
end
end Y

set_option Elab.async false
set_option linter.all false
set_option maxRecDepth 100000
namespace Y
open PySem PySem.Spec PyProof.Rows L2
def stripD : D → D → R D
  | .str x, .str y => if x.length ≤ 1000000 then .ok (.str (Txt.stripChars x y)) else .stk
  | _, _ => .stk
def cStrip (a b : EM) : EM := fun ρ => do
  let (h1, ρ1) ← a ρ
  let x ← h1.v.nox
  match x with
  | .str s => do
    let (h2, ρ2) ← b ρ1
    let y ← h2.v.nox
    let z ← (stripD (.str s) y).nox
    pure (.fr z, ρ2)
  | _ => .stk
section
variable {K : PySem.W.Frag} {X : Cx} {P0 : Pr} {O W U : List Nat} {E : EK} {a b e : Expr} {ma mb : EM} {pos : Pos}
theorem ce_strip {apos : Pos} (ha : CEx X P0 O W E a ma) (hb : CEx X P0 O W E e mb) (hs : starEach [e] X.env = [(false, eval e X.env)] := by rfl) (hbase : attributeBase a "strip" X.env (eval a X.env) = eval a X.env := by rfl) (hline : (apos.endLine == pos.line) = true := by rfl) :
    CEx X P0 O W E (.Call (.Attribute a "strip" apos) [e] [] pos) (cStrip ma mb) := PE.imp (pe_m1 PySem.F.slot_str_strip PySem.F.type_str_strip mt_stripChars ha hb hs hbase hline) fun σ H Q ⟨ρ, S, h⟩ => by
  refine ⟨ρ, S, h.of_bind.mono fun ⟨h1, ρ1⟩ q v H1 S1 k1 r1 => ?_⟩
  obtain ⟨d, e1, q⟩ := q.of_nox
  have rd := r1.v e1
  cases d <;> first | (exact q.elim) | skip
  rename_i s
  unfold Rep at rd
  subst rd
  have q : Res E W σ H (mb ρ1 >>= fun p => p.1.v.nox >>= fun y => (stripD (.str s) y).nox >>= fun z => R.ok (Hd.fr z, p.2)) _ := q
  refine ⟨⟨s, rfl⟩, ρ1, S1, (q.of_bind.keep k1).mono fun ⟨h2, ρ2⟩ q2 w H2 S2 k2 r2 => ?_⟩
  obtain ⟨y, e2, q2⟩ := q2.of_nox
  obtain ⟨z, e3, q2⟩ := q2.of_nox
  have rw2 := r2.v e2
  have o := out_of (K := X.K) S2 (k1.trans k2) q2
  unfold stripD at e3
  cases y <;> first | (cases e3; done) | skip
  rename_i y
  unfold Rep at rw2
  subst rw2
  simp only at e3
  split at e3
  · rename_i c
    cases e3
    have sz : sizeLine = 16777216 := by decide
    exact ⟨s, y, rfl, rfl, by rw [sz]; omega, o.flat (by unfold Rep; rfl) rfl⟩
  · cases e3
end
variable {ρ : Y.Env}
@[simp] theorem e_strip {a b : EM} : cStrip a b ρ = (a ρ >>= fun p => p.1.v.nox >>= fun x => match x with | .str s => (b p.2 >>= fun q => q.1.v.nox >>= fun y => (stripD (.str s) y).nox >>= fun z => R.ok (.fr z, q.2)) | _ => .stk) := id rfl
end Y

set_option Elab.async false
set_option linter.all false
set_option maxRecDepth 100000
namespace Y
open PySem PySem.Spec PyProof.Rows L2
def revS (x : Str) : Str := ⟨x.cps.toList.reverse.toArray⟩
theorem pick_revS (x : Str) : (((Builtin.Str.strSliceIndices none none (-1) x.length).filterMap (x.cps[·]?)).toArray) = x.cps.toList.reverse.toArray := by
  rw [picked_rev, filterMap_get, List.map_map]
  · congr 1
    refine List.ext_getElem (by simp [Str.length]) fun i h1 h2 => ?_
    rw [List.length_map, List.length_range] at h1
    rw [List.getElem_map, List.getElem_range, List.getElem_reverse]
    have hx : x.cps.toList.length = x.length := by simp [Str.length]
    show x.cps.getD (x.length - 1 - i) 0 = _
    rw [← getD_list, List.getD_eq_getElem?_getD]
    have h3 : x.length - 1 - i < x.cps.toList.length := by rw [hx]; omega
    rw [List.getElem?_eq_getElem h3]
    simp [hx]
  · intro i hi
    obtain ⟨k, hk, rfl⟩ := List.mem_map.mp hi
    have hk' : k < x.length := List.mem_range.mp hk
    show x.length - 1 - k < x.length
    omega
section
variable {X : Cx} {P0 : Pr} {O W : List Nat} {E : EK} {e k : Expr} {ma : EM} {mk : OM} {p2 pos : Pos}
def rRvS : V → Hp → VK → Prop := fun x H Q => ∃ a, x = .str a ∧ a.length ≤ sizeLine ∧ Q (.str (revS a)) H
theorem rv_str : RvR X rRvS := by
  intro pins s σ H x v vk sl Q I rx hs pk h
  obtain ⟨a, rfl, hz, q⟩ := h
  obtain ⟨t, rfl⟩ := rx
  cases pk with
  | int _ u =>
    obtain ⟨os, hos, hcs, hds⟩ := id hs
    refine ⟨"str", _, PySem.F.slot_str_getitem.lookup, typeIs_str _ _ _, ?_⟩
    refine wpAny_getItem_str_slice (l := none) (u := none) (st := some (-1, u)) ⟨os, hos, hcs, hds⟩ rfl ?_
    have e : sliceMade a t none none (some (-1, u)) = .str (revS a) := by
      unfold sliceMade slicePicked
      have h1 : ¬ (((((some ((-1 : Int), u)).map (·.1)).getD 1 == 1) && ((Builtin.Str.strSliceIndices ((none : Option (Int × Tok)).map (·.1)) ((none : Option (Int × Tok)).map (·.1)) (((some ((-1 : Int), u)).map (·.1)).getD 1) a.length).length == a.length)) = true) := by
        have : ((((some ((-1 : Int), u)).map (·.1)).getD 1 == 1)) = false := rfl
        rw [this]; simp
      rw [if_neg h1]
      exact congrArg (fun z => Made.str ⟨z⟩) (pick_revS a)
    rw [e]
    have hl : (revS a).length = a.length := by simp [revS, Str.length]
    exact ⟨by rw [hl]; exact hz, .str (revS a), H, I.tok _, ⟨_, rfl⟩, q⟩
def revSD : D → R D
  | .str x => if x.length ≤ 1000000 then .ok (.str (revS x)) else .stk
  | _ => .stk
def cRevS (a : EM) (k : OM) : EM := fun ρ => do
  let (h, ρ1) ← a ρ
  let (l, ρ2) ← k ρ1
  let d ← (h.d ρ2).nox
  let z ← (if l = some (-1) then revSD d else .stk).nox
  pure (.fr z, ρ2)
theorem ce_revS (ha : CEx X P0 O W E e ma) (hk : CO X P0 O W E (some k) mk) : CEx X P0 O W E (.Subscript e (.Slice none none (some k) p2) pos) (cRevS ma mk) := PE.imp (pe_rev rv_str ha hk) fun σ H Q ⟨ρ, S, h⟩ => by
  refine ⟨ρ, S, h.of_bind.mono fun ⟨h1, ρ1⟩ q x H1 S1 k1 r1 => ⟨ρ1, S1, (q.keep k1).of_bind.mono fun ⟨l, ρ2⟩ q2 H2 S2 k2 => ?_⟩⟩
  obtain ⟨dx, e1, q4⟩ := q2.of_nox
  obtain ⟨dz, e3, q5⟩ := q4.of_nox
  by_cases c : l = some (-1)
  · refine ⟨c, ?_⟩
    rw [if_pos c] at e3
    have rx := (r1.keep S1 k2).d S2 e1
    have out := out_of S2 (k1.trans k2) q5
    unfold revSD at e3
    split at e3
    · rename_i s
      split at e3
      · rename_i c2
        cases e3
        have rx : x = .str s := rx
        subst rx
        have sz : sizeLine = 16777216 := by decide
        exact ⟨s, rfl, by rw [sz]; omega, out.flat (by unfold Rep; rfl) rfl⟩
      · cases e3
    · cases e3
  · rw [if_neg c] at e3
    cases e3
end
variable {ρ : Y.Env}
@[simp] theorem e_revS {a : EM} {k : OM} : cRevS a k ρ = (a ρ >>= fun p => k p.2 >>= fun q => (p.1.d q.2).nox >>= fun d => (if q.1 = some (-1) then revSD d else .stk).nox >>= fun z => R.ok (.fr z, q.2)) := id rfl
end Y

set_option Elab.async false
set_option linter.all false
set_option maxRecDepth 100000
namespace Y
open PySem PySem.Spec PyProof.Rows L2
section
variable {M : Model} {A : Around} {E : Value → Shared → Prop} {s : Shared} {env : PySem.Env}
end
section
variable {X : Cx} {pins : List (Addr × Obj)} {σ : L2.St} {H : Hp} {s s' : Shared} {E : XK}
end
section
variable {X : Cx} {pins : List (Addr × Obj)} {σ : L2.St} {H3 : Hp} {s3 : Shared} {scope : Scope} {fp : List Addr} {E : XK}
end
end Y

set_option Elab.async false
set_option linter.all false
set_option maxRecDepth 100000
namespace Y
open PySem PySem.Spec PyProof.Rows L2
section
variable {X : Cx} {E : XK}
end
end Y

set_option Elab.async false
set_option linter.all false
set_option maxRecDepth 100000
namespace C
open PySem PySem.Spec PyProof.Rows L2 Y
/-- slots: 0:many 1:found 2:k 3:stand -/
noncomputable def e_stands_of_1 : EM := cOp addD (cTup (cCons (cC (.int 0)) (cNil))) (cVar 3)
noncomputable def e_stands_of_2 : EM := cOp addD (cTup (cCons (cC (.int 1)) (cNil))) (cVar 3)
noncomputable def b_stands_of_1 : SM := sAsg (cOp addD (cComp (cIter (cVar 1)) (tmName 3) (cYes) (e_stands_of_1) [3]) (cComp (cIter (cVar 1)) (tmName 3) (cYes) (e_stands_of_2) [3])) (tmName 1)
noncomputable def m_stands_of : SM := sSeq (sAsg (cLst (cCons (cTup (cNil)) (cNil))) (tmName 1)) (sSeq (sFor [] (cRange rng1D (cCons (cVar 0) (cNil))) (tmName 2) (b_stands_of_1) [2]) (sRet (cVar 1)))
noncomputable def g_stands_of : List D → R Hd := fnP 1 4 m_stands_of
/-- slots: 0:script 1:k -/
noncomputable def m__law_cell : SM := sSeq (sIf (cBl (cOp ltD (cVar 1) (cCall lenD (cCons (cVar 0) (cNil))))) (sRet (cIx (cVar 0) (cVar 1))) (sSkip)) (sRet (cOp addD (cOp mulD (cC (.int 6151)) (cVar 1)) (cC (.int 29))))
noncomputable def g__law_cell : List D → R Hd := fnP 2 2 m__law_cell
/-- slots: 0:script 1:k 2:cell 3:number 4:mixed 5:j -/
noncomputable def b__law_box_2_1 : SM := sSeq (sAsg (cOp modD (cOp addD (cOp addD (cOp addD (cOp mulD (cVar 4) (cC (.int 48271))) (cOp mulD (cOp mulD (cC (.int 7)) (cVar 5)) (cVar 5))) (cOp mulD (cC (.int 11)) (cVar 1))) (cC (.int 1))) (cC (.int 2147483647))) (tmName 4)) (sAsg (cOp addD (cOp mulD (cVar 3) (cC (.int 2147483647))) (cVar 4)) (tmName 3))
noncomputable def m__law_box_2 : SM := sSeq (sAsg (cCallF g__law_cell (cCons (cVar 0) (cCons (cVar 1) (cNil)))) (tmName 2)) (sSeq (sIf (cBl (cOp eqD (cOp modD (cVar 2) (cC (.int 2))) (cC (.int 0)))) (sRet (cLst (cCons (cOp fdivD (cVar 2) (cC (.int 2))) (cNil)))) (sSkip)) (sSeq (sAsg (cC (.int 0)) (tmName 3)) (sSeq (sAsg (cOp modD (cVar 2) (cC (.int 2147483647))) (tmName 4)) (sSeq (sFor [] (cRange rng1D (cCons (cC (.int 24)) (cNil))) (tmName 5) (b__law_box_2_1) [5]) (sRet (cLst (cCons (cVar 3) (cNil))))))))
noncomputable def g__law_box_2 : List D → R Hd := fnP 2 6 m__law_box_2
/-- slots: 0:box 1:many 2:digit -/
noncomputable def m__law_take_2 : SM := sSeq (sAsg (cOp modD (cIx (cOwn 0) (cC (.int 0))) (cVar 1)) (tmName 2)) (sSeq (sSetIx 0 (cC (.int 0)) (cOp fdivD (cIx (cOwn 0) (cC (.int 0))) (cVar 1))) (sRet (cVar 2)))
noncomputable def g__law_take_2 : Fn := fnD 2 3 [0] m__law_take_2
/-- slots: 0:many 1:found 2:k 3:row -/
noncomputable def e__law_readings_1 : EM := cOp addD (cVar 3) (cTup (cCons (cC (.int 0)) (cNil)))
noncomputable def e__law_readings_2 : EM := cOp addD (cVar 3) (cTup (cCons (cC (.int 1)) (cNil)))
noncomputable def b__law_readings_1 : SM := sAsg (cOp addD (cComp (cIter (cVar 1)) (tmName 3) (cYes) (e__law_readings_1) [3]) (cComp (cIter (cVar 1)) (tmName 3) (cYes) (e__law_readings_2) [3])) (tmName 1)
noncomputable def m__law_readings : SM := sSeq (sAsg (cLst (cCons (cTup (cNil)) (cNil))) (tmName 1)) (sSeq (sFor [] (cRange rng1D (cCons (cVar 0) (cNil))) (tmName 2) (b__law_readings_1) [2]) (sRet (cCall sortD (cCons (cVar 1) (cNil)))))
noncomputable def g__law_readings : List D → R Hd := fnP 1 4 m__law_readings
/-- slots: 0:thing -/
noncomputable def m__law_whole_2 : SM := sRet (cAnd (cIsi isInt (cVar 0)) (cNot (cIsi isBl (cVar 0))))
noncomputable def g__law_whole_2 : List D → R Hd := fnP 1 1 m__law_whole_2
/-- slots: 0:thing 1:many 2:one -/
noncomputable def e__law_bits_2_1 : EM := cAnd (cIsi isInt (cVar 2)) (cAnd (cNot (cIsi isBl (cVar 2))) (cOp inD (cVar 2) (cTup (cCons (cC (.int 0)) (cCons (cC (.int 1)) (cNil))))))
noncomputable def m__law_bits_2 : SM := sSeq (sIf (cOrT (cNotT (cTru (cIsi isTup (cVar 0)))) (cBl (cOp neD (cCall lenD (cCons (cVar 0) (cNil))) (cVar 1)))) (sRet (cC (.bl false))) (sSkip)) (sRet (cCall allD (cCons (cComp (cIter (cVar 0)) (tmName 2) (cYes) (e__law_bits_2_1) [2]) (cNil))))
noncomputable def g__law_bits_2 : List D → R Hd := fnP 2 3 m__law_bits_2
/-- slots: 0:box 1:some -/
noncomputable def m__law_odd_2 : SM := sSeq (sAsg (cLst (cCons (cC .non) (cCons (cC (.bl true)) (cCons (cC (.int 7)) (cCons (cC (.str "")) (cCons (cC (.str "s0")) (cCons (cTup (cNil)) (cCons (cLst (cNil)) (cCons (cDic0) (cCons (cTup (cCons (cC (.int 1)) (cCons (cC (.int 2)) (cNil)))) (cCons (cLst (cCons (cTup (cCons (cC (.int 0)) (cNil))) (cNil))) (cCons (cTup (cCons (cTup (cNil)) (cNil))) (cCons (cNeg (cC (.int 1))) (cCons (cTup (cCons (cC (.str "order")) (cCons (cTup (cNil)) (cNil)))) (cCons (cTup (cCons (cTup (cCons (cC (.int 0)) (cCons (cC (.int 1)) (cNil)))) (cCons (cTup (cCons (cC (.int 1)) (cNil))) (cNil)))) (cCons (cC (.bl false)) (cCons (cC (.str "01")) (cNil)))))))))))))))))) (tmName 1)) (sRet (cIx (cVar 1) (cCallIO [(0, 0)] g__law_take_2 (cCons (cOwn 0) (cCons (cC (.int 16)) (cNil))))))
noncomputable def g__law_odd_2 : Fn := fnD 1 2 [0] m__law_odd_2
/-- slots: 0:text 1:parts 2:at 3:sign -/
noncomputable def b_parts_in_1 : SM := sSeq (sAsg (cIx (cVar 0) (cVar 2)) (tmName 3)) (sSeq (sAug (fun i j => i + j) 2 (cC (.int 1))) (sIf (cBl (cOp eqD (cVar 3) (cC (.str "s")))) (sSeq (sIf (cOrT (cBl (cOp eqD (cSlice (cVar 0) (cPart (cVar 2)) (cPart (cOp addD (cVar 2) (cC (.int 1))))) (cC (.str "")))) (cBl (cOp ninD (cIx (cVar 0) (cVar 2)) (cC (.str "01234567"))))) (sRaise "NoRule") (sSkip)) (sSeq (sAppend 1 (cCall intOfD (cCons (cIx (cVar 0) (cVar 2)) (cNil)))) (sAug (fun i j => i + j) 2 (cC (.int 1))))) (sIf (cBl (cOp inD (cVar 3) (cC (.str "01!&^|()")))) (sAppend 1 (cVar 3)) (sIf (cBl (cOp neD (cVar 3) (cC (.str " ")))) (sRaise "NoRule") (sSkip)))))
noncomputable def m_parts_in : SM := sSeq (sOwn [1] [] (cLst (cNil)) 1) (sSeq (sAsg (cC (.int 0)) (tmName 2)) (sSeq (sWhile (cBl (cOp ltD (cVar 2) (cCall lenD (cCons (cVar 0) (cNil))))) (b_parts_in_1) [3]) (sRet (cOwn 1))))
noncomputable def g_parts_in : List D → R Hd := fnP 1 4 m_parts_in
/-- slots: 0:waiting 1:found -/
noncomputable def b_close_bracket_1 : SM := sAppend 1 (cPop 0)
noncomputable def m_close_bracket : SM := sSeq (sWhile (cAndT (cBl (cOp neD (cOwn 0) (cLst (cNil)))) (cBl (cOp neD (cIx (cOwn 0) (cNeg (cC (.int 1)))) (cC (.str "("))))) (b_close_bracket_1) []) (sSeq (sIf (cBl (cOp eqD (cOwn 0) (cLst (cNil)))) (sRaise "NoRule") (sSkip)) (sExpr (cPop 0)))
noncomputable def g_close_bracket : Fn := fnD 2 2 [0, 1] m_close_bracket
/-- slots: 0:parts 1:found 2:waiting 3:open_here 4:part 5:begins -/
noncomputable def b_in_turn_1 : SM := sAppend 1 (cPop 2)
noncomputable def b_in_turn_2 : SM := sSeq (sAsg (cOr (cIsi isInt (cVar 4)) (cOp inD (cVar 4) (cC (.str "01!(")))) (tmName 5)) (sSeq (sIf (cBl (cOp neD (cVar 5) (cVar 3))) (sRaise "NoRule") (sSkip)) (sIf (cOrT (cTru (cIsi isInt (cVar 4))) (cBl (cOp inD (cVar 4) (cC (.str "01"))))) (sSeq (sAppend 1 (cVar 4)) (sAsg (cC (.bl false)) (tmName 3))) (sIf (cBl (cOp inD (cVar 4) (cC (.str "!(")))) (sAppend 2 (cVar 4)) (sIf (cBl (cOp eqD (cVar 4) (cC (.str ")")))) (sExpr (cCallIO [(0, 2), (1, 1)] g_close_bracket (cCons (cOwn 2) (cCons (cOwn 1) (cNil))))) (sSeq (sWhile (cAndT (cBl (cOp neD (cOwn 2) (cLst (cNil)))) (cBl (cOp geD (cKIx [(("!" : Str), (4 : Int)), (("&" : Str), (3 : Int)), (("^" : Str), (2 : Int)), (("|" : Str), (1 : Int)), (("(" : Str), (0 : Int))] (cIx (cOwn 2) (cNeg (cC (.int 1))))) (cKIx [(("!" : Str), (4 : Int)), (("&" : Str), (3 : Int)), (("^" : Str), (2 : Int)), (("|" : Str), (1 : Int)), (("(" : Str), (0 : Int))] (cVar 4))))) (b_in_turn_1) []) (sSeq (sAppend 2 (cVar 4)) (sAsg (cC (.bl true)) (tmName 3))))))))
noncomputable def m_in_turn : SM := sSeq (sOwn [1, 2] [1, 2] (cLst (cNil)) 1) (sSeq (sOwn [1, 2] [1, 2] (cLst (cNil)) 2) (sSeq (sAsg (cC (.bl true)) (tmName 3)) (sSeq (sFor [] (cIter (cVar 0)) (tmName 4) (b_in_turn_2) [4, 5]) (sSeq (sIf (cOrT (cTru (cVar 3)) (cBl (cOp inD (cC (.str "(")) (cOwn 2)))) (sRaise "NoRule") (sSkip)) (sRet (cOp addD (cOwn 1) (cRev (cOwn 2) (cPart (cNeg (cC (.int 1)))))))))))
noncomputable def g_in_turn : List D → R Hd := fnP 1 6 m_in_turn
/-- slots: 0:sign 1:one 2:other -/
noncomputable def m_joined_by : SM := sSeq (sIf (cBl (cOp eqD (cVar 0) (cC (.str "&")))) (sRet (cOp andD (cVar 1) (cVar 2))) (sSkip)) (sSeq (sIf (cBl (cOp eqD (cVar 0) (cC (.str "^")))) (sRet (cOp xorD (cVar 1) (cVar 2))) (sSkip)) (sRet (cOp orD (cVar 1) (cVar 2))))
noncomputable def g_joined_by : List D → R Hd := fnP 3 3 m_joined_by
/-- slots: 0:parts 1:bits 2:held 3:part 4:other -/
noncomputable def b_come_to_1 : SM := sIf (cTru (cIsi isInt (cVar 3))) (sAppend 2 (cDGet (cVar 1) (cVar 3))) (sIf (cBl (cOp inD (cVar 3) (cC (.str "01")))) (sAppend 2 (cCall intOfD (cCons (cVar 3) (cNil)))) (sIf (cBl (cOp eqD (cVar 3) (cC (.str "!")))) (sAppend 2 (cOp subD (cC (.int 1)) (cPop 2))) (sSeq (sAsg (cPop 2) (tmName 4)) (sAppend 2 (cCallF g_joined_by (cCons (cVar 3) (cCons (cPop 2) (cCons (cVar 4) (cNil)))))))))
noncomputable def m_come_to : SM := sSeq (sOwn [2] [2] (cLst (cNil)) 2) (sSeq (sFor [] (cIter (cVar 0)) (tmName 3) (b_come_to_1) [3, 4]) (sRet (cIx (cOwn 2) (cC (.int 0)))))
noncomputable def g_come_to : List D → R Hd := fnP 2 5 m_come_to
/-- slots: 0:text 1:parts 2:ears 3:table 4:reading 5:part -/
noncomputable def t_read_rule_1 : BM := cTru (cIsi isInt (cVar 5))
noncomputable def e_read_rule_1 : EM := cVar 5
noncomputable def b_read_rule_1 : SM := sAppend 3 (cCallF g_come_to (cCons (cVar 1) (cCons (cDictZip (cCons (cVar 2) (cCons (cVar 4) (cNil)))) (cNil))))
noncomputable def m_read_rule : SM := sSeq (sIf (cNotT (cTru (cIsi isStr (cVar 0)))) (sRaise "NoRule") (sSkip)) (sSeq (sAsg (cCallF g_in_turn (cCons (cCallF g_parts_in (cCons (cVar 0) (cNil))) (cNil))) (tmName 1)) (sSeq (sAsg (cCall tupleD (cCons (cSetSort (cComp (cIter (cVar 1)) (tmName 5) (t_read_rule_1) (e_read_rule_1) [5])) (cNil))) (tmName 2)) (sSeq (sIf (cBl (cOp gtD (cCall lenD (cCons (cVar 2) (cNil))) (cC (.int 4)))) (sRaise "TooMany") (sSkip)) (sSeq (sOwn [3] [] (cLst (cNil)) 3) (sSeq (sFor [] (cIter (cCallF g_stands_of (cCons (cCall lenD (cCons (cVar 2) (cNil))) (cNil)))) (tmName 4) (b_read_rule_1) [4]) (sRet (cTup (cCons (cVar 2) (cCons (cCall tupleD (cCons (cOwn 3) (cNil))) (cNil))))))))))
noncomputable def g_read_rule : List D → R Hd := fnP 1 6 m_read_rule
/-- slots: 0:found 1:due 2:ear -/
noncomputable def e__law_is_rule_2_1 : EM := cCallF g__law_whole_2 (cCons (cVar 2) (cNil))
noncomputable def m__law_is_rule_2 : SM := sSeq (sIf (cOrT (cNotT (cTru (cIsi isTup (cVar 0)))) (cOrT (cBl (cOp neD (cCall lenD (cCons (cVar 0) (cNil))) (cC (.int 2)))) (cNotT (cTru (cCallF g__law_bits_2 (cCons (cIx (cVar 0) (cC (.int 1))) (cCons (cCall lenD (cCons (cIx (cVar 1) (cC (.int 1))) (cNil))) (cNil)))))))) (sRet (cC (.bl false))) (sSkip)) (sSeq (sIf (cOrT (cNotT (cTru (cIsi isTup (cIx (cVar 0) (cC (.int 0)))))) (cNotT (cTru (cCall allD (cCons (cComp (cIter (cIx (cVar 0) (cC (.int 0)))) (tmName 2) (cYes) (e__law_is_rule_2_1) [2]) (cNil)))))) (sRet (cC (.bl false))) (sSkip)) (sRet (cOp eqD (cVar 0) (cVar 1))))
noncomputable def g__law_is_rule_2 : List D → R Hd := fnP 2 3 m__law_is_rule_2
/-- slots: 0:box 1:ears 2:deep 3:way 4:sign -/
noncomputable def m__law_tree (G : Fn) : SM := sSeq (sAsg (cCallIO [(0, 0)] g__law_take_2 (cCons (cOwn 0) (cCons (cC (.int 9)) (cNil)))) (tmName 3)) (sSeq (sIf (cOrT (cBl (cOp eqD (cVar 2) (cC (.int 0)))) (cBl (cOp ltD (cVar 3) (cC (.int 2))))) (sSeq (sIf (cOrT (cBl (cOp eqD (cVar 1) (cLst (cNil)))) (cBl (cOp eqD (cCallIO [(0, 0)] g__law_take_2 (cCons (cOwn 0) (cCons (cC (.int 9)) (cNil)))) (cC (.int 0))))) (sRet (cTup (cCons (cCall strOfD (cCons (cCallIO [(0, 0)] g__law_take_2 (cCons (cOwn 0) (cCons (cC (.int 2)) (cNil)))) (cNil))) (cNil)))) (sSkip)) (sRet (cTup (cCons (cC (.str "s")) (cCons (cIx (cVar 1) (cCallIO [(0, 0)] g__law_take_2 (cCons (cOwn 0) (cCons (cCall lenD (cCons (cVar 1) (cNil))) (cNil))))) (cNil)))))) (sSkip)) (sSeq (sIf (cBl (cOp ltD (cVar 3) (cC (.int 4)))) (sRet (cTup (cCons (cC (.str "!")) (cCons (cCallIO [(0, 0)] G (cCons (cOwn 0) (cCons (cVar 1) (cCons (cOp subD (cVar 2) (cC (.int 1))) (cNil))))) (cNil))))) (sSkip)) (sSeq (sAsg (cIx (cC (.str "&^|")) (cCallIO [(0, 0)] g__law_take_2 (cCons (cOwn 0) (cCons (cC (.int 3)) (cNil))))) (tmName 4)) (sRet (cTup (cCons (cVar 4) (cCons (cCallIO [(0, 0)] G (cCons (cOwn 0) (cCons (cVar 1) (cCons (cOp subD (cVar 2) (cC (.int 1))) (cNil))))) (cCons (cCallIO [(0, 0)] G (cCons (cOwn 0) (cCons (cVar 1) (cCons (cOp subD (cVar 2) (cC (.int 1))) (cNil))))) (cNil)))))))))
noncomputable def r__law_tree : Nat → Fn
  | 0 => fnD 3 5 [0] (fun _ => .stk)
  | n + 1 => fnD 3 5 [0] (m__law_tree (r__law_tree n))
noncomputable def g__law_tree : Fn := r__law_tree 40
/-- slots: 0:tree 1:bits 2:one 3:other -/
noncomputable def m__law_worth (G : List D → R Hd) : SM := sSeq (sIf (cBl (cOp eqD (cIx (cVar 0) (cC (.int 0))) (cC (.str "s")))) (sRet (cDGet (cVar 1) (cIx (cVar 0) (cC (.int 1))))) (sSkip)) (sSeq (sIf (cBl (cOp inD (cIx (cVar 0) (cC (.int 0))) (cLst (cCons (cC (.str "0")) (cCons (cC (.str "1")) (cNil)))))) (sRet (cCall intOfD (cCons (cIx (cVar 0) (cC (.int 0))) (cNil)))) (sSkip)) (sSeq (sAsg (cCallF G (cCons (cIx (cVar 0) (cC (.int 1))) (cCons (cVar 1) (cNil)))) (tmName 2)) (sSeq (sIf (cBl (cOp eqD (cIx (cVar 0) (cC (.int 0))) (cC (.str "!")))) (sRet (cOp subD (cC (.int 1)) (cVar 2))) (sSkip)) (sSeq (sAsg (cCallF G (cCons (cIx (cVar 0) (cC (.int 2))) (cCons (cVar 1) (cNil)))) (tmName 3)) (sSeq (sIf (cBl (cOp eqD (cIx (cVar 0) (cC (.int 0))) (cC (.str "&")))) (sRet (cCall min2D (cCons (cVar 2) (cCons (cVar 3) (cNil))))) (sSkip)) (sSeq (sIf (cBl (cOp eqD (cIx (cVar 0) (cC (.int 0))) (cC (.str "|")))) (sRet (cCall max2D (cCons (cVar 2) (cCons (cVar 3) (cNil))))) (sSkip)) (sRet (cCall intOfD (cCons (cOp neD (cVar 2) (cVar 3)) (cNil))))))))))
noncomputable def r__law_worth : Nat → List D → R Hd
  | 0 => fnP 2 4 (fun _ => .stk)
  | n + 1 => fnP 2 4 (m__law_worth (r__law_worth n))
noncomputable def g__law_worth : List D → R Hd := r__law_worth 40
/-- slots: 0:box 1:tree 2:above 3:gap 4:own -/
noncomputable def m__law_text_2 (G : Fn) : SM := sSeq (sAsg (cOp mulD (cC (.str " ")) (cIx (cLst (cCons (cC (.int 0)) (cCons (cC (.int 0)) (cCons (cC (.int 1)) (cCons (cC (.int 0)) (cCons (cC (.int 2)) (cNil))))))) (cCallIO [(0, 0)] g__law_take_2 (cCons (cOwn 0) (cCons (cC (.int 5)) (cNil)))))) (tmName 3)) (sSeq (sIf (cBl (cOp eqD (cIx (cVar 1) (cC (.int 0))) (cC (.str "s")))) (sRet (cOp addD (cOp addD (cVar 3) (cC (.str "s"))) (cCall strOfD (cCons (cIx (cVar 1) (cC (.int 1))) (cNil))))) (sSkip)) (sSeq (sIf (cBl (cOp inD (cIx (cVar 1) (cC (.int 0))) (cLst (cCons (cC (.str "0")) (cCons (cC (.str "1")) (cNil)))))) (sRet (cOp addD (cVar 3) (cIx (cVar 1) (cC (.int 0))))) (sSkip)) (sSeq (sAsg (cIndex (cC (.str "|^&!")) (cIx (cVar 1) (cC (.int 0)))) (tmName 4)) (sSeq (sIf (cOrT (cBl (cOp ltD (cVar 4) (cVar 2))) (cAndT (cBl (cOp geD (cVar 2) (cC (.int 0)))) (cBl (cOp eqD (cCallIO [(0, 0)] g__law_take_2 (cCons (cOwn 0) (cCons (cC (.int 5)) (cNil)))) (cC (.int 1)))))) (sRet (cOp addD (cOp addD (cOp addD (cOp addD (cVar 3) (cC (.str "("))) (cCallIO [(0, 0)] G (cCons (cOwn 0) (cCons (cVar 1) (cCons (cNeg (cC (.int 1))) (cNil)))))) (cVar 3)) (cC (.str ")")))) (sSkip)) (sSeq (sIf (cBl (cOp eqD (cIx (cVar 1) (cC (.int 0))) (cC (.str "!")))) (sRet (cOp addD (cOp addD (cVar 3) (cC (.str "!"))) (cCallIO [(0, 0)] G (cCons (cOwn 0) (cCons (cIx (cVar 1) (cC (.int 1))) (cCons (cC (.int 3)) (cNil))))))) (sSkip)) (sRet (cOp addD (cOp addD (cOp addD (cCallIO [(0, 0)] G (cCons (cOwn 0) (cCons (cIx (cVar 1) (cC (.int 1))) (cCons (cVar 4) (cNil))))) (cVar 3)) (cIx (cVar 1) (cC (.int 0)))) (cCallIO [(0, 0)] G (cCons (cOwn 0) (cCons (cIx (cVar 1) (cC (.int 2))) (cCons (cOp addD (cVar 4) (cC (.int 1))) (cNil))))))))))))
noncomputable def r__law_text_2 : Nat → Fn
  | 0 => fnD 3 5 [0] (fun _ => .stk)
  | n + 1 => fnD 3 5 [0] (m__law_text_2 (r__law_text_2 n))
noncomputable def g__law_text_2 : Fn := r__law_text_2 40
/-- slots: 0:tree 1:found 2:part -/
noncomputable def b__law_named_1 (G : List D → R Hd) : SM := sAsg (cOp addD (cVar 1) (cCallF G (cCons (cVar 2) (cNil)))) (tmName 1)
noncomputable def m__law_named (G : List D → R Hd) : SM := sSeq (sIf (cBl (cOp eqD (cIx (cVar 0) (cC (.int 0))) (cC (.str "s")))) (sRet (cLst (cCons (cIx (cVar 0) (cC (.int 1))) (cNil)))) (sSkip)) (sSeq (sAsg (cLst (cNil)) (tmName 1)) (sSeq (sFor [] (cIter (cSlice (cVar 0) (cPart (cC (.int 1))) (cNoPart))) (tmName 2) ((b__law_named_1 G)) [2]) (sRet (cSetSort (cVar 1)))))
noncomputable def r__law_named : Nat → List D → R Hd
  | 0 => fnP 1 3 (fun _ => .stk)
  | n + 1 => fnP 1 3 (m__law_named (r__law_named n))
noncomputable def g__law_named : List D → R Hd := r__law_named 40
/-- slots: 0:tree 1:ears 2:rows 3:row 4:k -/
noncomputable def e__law_due_13_1 : EM := cTup (cCons (cIx (cVar 1) (cVar 4)) (cCons (cIx (cVar 3) (cVar 4)) (cNil)))
noncomputable def b__law_due_13_1 : SM := sAppend 2 (cCallF g__law_worth (cCons (cVar 0) (cCons (cCall dictPD (cCons (cComp (cRange rng1D (cCons (cCall lenD (cCons (cVar 1) (cNil))) (cNil))) (tmName 4) (cYes) (e__law_due_13_1) [4]) (cNil))) (cNil))))
noncomputable def m__law_due_13 : SM := sSeq (sOwn [2] [] (cLst (cNil)) 2) (sSeq (sFor [] (cIter (cCallF g__law_readings (cCons (cCall lenD (cCons (cVar 1) (cNil))) (cNil)))) (tmName 3) (b__law_due_13_1) [3]) (sRet (cTup (cCons (cCall tupleD (cCons (cVar 1) (cNil))) (cCons (cCall tupleD (cCons (cOwn 2) (cNil))) (cNil))))))
noncomputable def g__law_due_13 : List D → R Hd := fnP 2 5 m__law_due_13
/-- slots: 0:text 1:at 2:sign 3:tree -/
noncomputable def b__law_factor_1 (G : List D → R Hd) : SM := sAsg (cOp addD (cVar 1) (cC (.int 1))) (tmName 1)
noncomputable def m__law_factor (G : List D → R Hd) : SM := sSeq (sAsg (cSlice (cVar 0) (cPart (cVar 1)) (cPart (cOp addD (cVar 1) (cC (.int 1))))) (tmName 2)) (sSeq (sIf (cAndT (cBl (cOp eqD (cVar 2) (cC (.str "s")))) (cAndT (cBl (cOp neD (cSlice (cVar 0) (cPart (cOp addD (cVar 1) (cC (.int 1)))) (cPart (cOp addD (cVar 1) (cC (.int 2))))) (cC (.str "")))) (cBl (cOp inD (cIx (cVar 0) (cOp addD (cVar 1) (cC (.int 1)))) (cC (.str "01234567")))))) (sRet (cTup (cCons (cTup (cCons (cC (.str "s")) (cCons (cCall intOfD (cCons (cIx (cVar 0) (cOp addD (cVar 1) (cC (.int 1)))) (cNil))) (cNil)))) (cCons (cOp addD (cVar 1) (cC (.int 2))) (cNil))))) (sSkip)) (sSeq (sIf (cAndT (cBl (cOp neD (cVar 2) (cC (.str "")))) (cBl (cOp inD (cVar 2) (cC (.str "01"))))) (sRet (cTup (cCons (cTup (cCons (cVar 2) (cNil))) (cCons (cOp addD (cVar 1) (cC (.int 1))) (cNil))))) (sSkip)) (sSeq (sIf (cBl (cOp eqD (cVar 2) (cC (.str "!")))) (sSeq (sAsg (cCallF G (cCons (cVar 0) (cCons (cOp addD (cVar 1) (cC (.int 1))) (cCons (cC (.int 3)) (cNil))))) (tmTup [3, 1])) (sRet (cTup (cCons (cIf (cBl (cOp isD (cVar 3) (cC .non))) (cC .non) (cTup (cCons (cC (.str "!")) (cCons (cVar 3) (cNil))))) (cCons (cVar 1) (cNil)))))) (sSkip)) (sSeq (sIf (cBl (cOp neD (cVar 2) (cC (.str "(")))) (sRet (cTup (cCons (cC .non) (cCons (cVar 1) (cNil))))) (sSkip)) (sSeq (sAsg (cCallF G (cCons (cVar 0) (cCons (cOp addD (cVar 1) (cC (.int 1))) (cCons (cC (.int 0)) (cNil))))) (tmTup [3, 1])) (sSeq (sWhile (cAndT (cBl (cOp ltD (cVar 1) (cCall lenD (cCons (cVar 0) (cNil))))) (cBl (cOp eqD (cIx (cVar 0) (cVar 1)) (cC (.str " "))))) ((b__law_factor_1 G)) []) (sSeq (sIf (cOrT (cBl (cOp isD (cVar 3) (cC .non))) (cBl (cOp neD (cSlice (cVar 0) (cPart (cVar 1)) (cPart (cOp addD (cVar 1) (cC (.int 1))))) (cC (.str ")"))))) (sRet (cTup (cCons (cC .non) (cCons (cVar 1) (cNil))))) (sSkip)) (sRet (cTup (cCons (cVar 3) (cCons (cOp addD (cVar 1) (cC (.int 1))) (cNil))))))))))))
/-- slots: 0:text 1:at 2:level 3:tree 4:more -/
noncomputable def b__law_part_1 (G G2 : List D → R Hd) : SM := sAsg (cOp addD (cVar 1) (cC (.int 1))) (tmName 1)
noncomputable def b__law_part_2 (G G2 : List D → R Hd) : SM := sAsg (cOp addD (cVar 1) (cC (.int 1))) (tmName 1)
noncomputable def b__law_part_3 (G G2 : List D → R Hd) : SM := sSeq (sWhile (cAndT (cBl (cOp ltD (cVar 1) (cCall lenD (cCons (cVar 0) (cNil))))) (cBl (cOp eqD (cIx (cVar 0) (cVar 1)) (cC (.str " "))))) ((b__law_part_2 G G2)) []) (sSeq (sIf (cOrT (cBl (cOp eqD (cVar 1) (cCall lenD (cCons (cVar 0) (cNil))))) (cBl (cOp neD (cIx (cVar 0) (cVar 1)) (cIx (cC (.str "|^&")) (cVar 2))))) (sRet (cTup (cCons (cVar 3) (cCons (cVar 1) (cNil))))) (sSkip)) (sSeq (sAsg (cCallF G (cCons (cVar 0) (cCons (cOp addD (cVar 1) (cC (.int 1))) (cCons (cOp addD (cVar 2) (cC (.int 1))) (cNil))))) (tmTup [4, 1])) (sAsg (cIf (cBl (cOp isD (cVar 4) (cC .non))) (cC .non) (cTup (cCons (cIx (cC (.str "|^&")) (cVar 2)) (cCons (cVar 3) (cCons (cVar 4) (cNil)))))) (tmName 3))))
noncomputable def m__law_part (G G2 : List D → R Hd) : SM := sSeq (sWhile (cAndT (cBl (cOp ltD (cVar 1) (cCall lenD (cCons (cVar 0) (cNil))))) (cBl (cOp eqD (cIx (cVar 0) (cVar 1)) (cC (.str " "))))) ((b__law_part_1 G G2)) []) (sSeq (sIf (cBl (cOp eqD (cVar 2) (cC (.int 3)))) (sRet (cCallF G2 (cCons (cVar 0) (cCons (cVar 1) (cNil))))) (sSkip)) (sSeq (sAsg (cCallF G (cCons (cVar 0) (cCons (cVar 1) (cCons (cOp addD (cVar 2) (cC (.int 1))) (cNil))))) (tmTup [3, 1])) (sSeq (sWhile (cBl (cOp isNotD (cVar 3) (cC .non))) ((b__law_part_3 G G2)) [4]) (sRet (cTup (cCons (cC .non) (cCons (cVar 1) (cNil))))))))
noncomputable def r__law_part : Nat → (List D → R Hd) × (List D → R Hd)
  | 0 => (fnP 3 5 (fun _ => .stk), fnP 2 4 (fun _ => .stk))
  | n + 1 => (fnP 3 5 (m__law_part (r__law_part n).1 (r__law_part n).2), fnP 2 4 (m__law_factor (r__law_part n).1))
noncomputable def g__law_part : List D → R Hd := (r__law_part 165).1
/-- slots: 0:text 1:tree 2:at -/
noncomputable def m__law_read : SM := sSeq (sAsg (cCallF g__law_part (cCons (cVar 0) (cCons (cC (.int 0)) (cCons (cC (.int 0)) (cNil))))) (tmTup [1, 2])) (sSeq (sIf (cOrT (cBl (cOp isD (cVar 1) (cC .non))) (cBl (cOp neD (cStrip (cSlice (cVar 0) (cPart (cVar 2)) (cNoPart)) (cC (.str " "))) (cC (.str ""))))) (sRet (cC .non)) (sSkip)) (sRet (cVar 1)))
noncomputable def g__law_read : List D → R Hd := fnP 1 3 m__law_read
/-- slots: 0:box 1:text 2:signs 3:at 4:way -/
noncomputable def m__law_spoilt_4 : SM := sSeq (sAsg (cC (.str "s0123456789!&|^() xS")) (tmName 2)) (sSeq (sAsg (cCallIO [(0, 0)] g__law_take_2 (cCons (cOwn 0) (cCons (cOp addD (cCall lenD (cCons (cVar 1) (cNil))) (cC (.int 1))) (cNil)))) (tmName 3)) (sSeq (sAsg (cCallIO [(0, 0)] g__law_take_2 (cCons (cOwn 0) (cCons (cC (.int 5)) (cNil)))) (tmName 4)) (sSeq (sIf (cBl (cOp eqD (cVar 4) (cC (.int 0)))) (sRet (cOp addD (cSlice (cVar 1) (cNoPart) (cPart (cVar 3))) (cSlice (cVar 1) (cPart (cOp addD (cVar 3) (cC (.int 1)))) (cNoPart)))) (sSkip)) (sSeq (sIf (cBl (cOp eqD (cVar 4) (cC (.int 1)))) (sRet (cOp addD (cOp addD (cSlice (cVar 1) (cNoPart) (cPart (cVar 3))) (cIx (cVar 2) (cCallIO [(0, 0)] g__law_take_2 (cCons (cOwn 0) (cCons (cC (.int 20)) (cNil)))))) (cSlice (cVar 1) (cPart (cVar 3)) (cNoPart)))) (sSkip)) (sSeq (sIf (cBl (cOp eqD (cVar 4) (cC (.int 2)))) (sRet (cOp addD (cOp addD (cSlice (cVar 1) (cNoPart) (cPart (cVar 3))) (cIx (cVar 2) (cCallIO [(0, 0)] g__law_take_2 (cCons (cOwn 0) (cCons (cC (.int 20)) (cNil)))))) (cSlice (cVar 1) (cPart (cOp addD (cVar 3) (cC (.int 1)))) (cNoPart)))) (sSkip)) (sSeq (sIf (cBl (cOp eqD (cVar 4) (cC (.int 3)))) (sRet (cOp addD (cOp addD (cSlice (cVar 1) (cNoPart) (cPart (cVar 3))) (cRevS (cSlice (cVar 1) (cPart (cVar 3)) (cPart (cOp addD (cVar 3) (cC (.int 2))))) (cPart (cNeg (cC (.int 1)))))) (cSlice (cVar 1) (cPart (cOp addD (cVar 3) (cC (.int 2)))) (cNoPart)))) (sSkip)) (sRet (cVar 1))))))))
noncomputable def g__law_spoilt_4 : Fn := fnD 2 5 [0] m__law_spoilt_4
/-- slots: 0:thing 1:e -/
noncomputable def w__law_asked_11_1 : TM := tbRet (cXcall g_read_rule (cCons (cVar 0) (cNil)))
noncomputable def h__law_asked_11_1 : Str → SM := fun cn => sRet (cC (.str (kindW cn)))
noncomputable def m__law_asked_11 : SM := sTry 1 ["NoRule", "TooMany"] w__law_asked_11_1 h__law_asked_11_1
noncomputable def g__law_asked_11 : List D → R Hd := fnP 1 2 m__law_asked_11
/-- slots: 0:text 1:tree 2:found -/
noncomputable def m__law_right_10 : SM := sSeq (sAsg (cCallF g__law_read (cCons (cVar 0) (cNil))) (tmName 1)) (sSeq (sAsg (cCallF g__law_asked_11 (cCons (cVar 0) (cNil))) (tmName 2)) (sSeq (sIf (cBl (cOp isD (cVar 1) (cC .non))) (sRet (cOp eqD (cVar 2) (cC (.str "rule")))) (sSkip)) (sSeq (sIf (cBl (cOp gtD (cCall lenD (cCons (cCallF g__law_named (cCons (cVar 1) (cNil))) (cNil))) (cC (.int 4)))) (sRet (cOp eqD (cVar 2) (cC (.str "many")))) (sSkip)) (sRet (cCallF g__law_is_rule_2 (cCons (cVar 2) (cCons (cCallF g__law_due_13 (cCons (cVar 1) (cCons (cCallF g__law_named (cCons (cVar 1) (cNil))) (cNil)))) (cNil))))))))
noncomputable def g__law_right_10 : List D → R Hd := fnP 1 3 m__law_right_10
/-- slots: 0:script 1:k 2:box 3:text 4:tree 5:thing 6:j -/
noncomputable def e_law_k12_1 : EM := cIx (cC (.str "s01234567!&|^()  sss")) (cCallIO [(0, 2)] g__law_take_2 (cCons (cOwn 2) (cCons (cC (.int 20)) (cNil))))
noncomputable def b_law_k12_1 : SM := sSeq (sOwn [2] [2] (cCallF g__law_box_2 (cCons (cVar 0) (cCons (cVar 1) (cNil)))) 2) (sSeq (sAsg (cJoin (cC (.str "")) (cComp (cRange rng1D (cCons (cCallIO [(0, 2)] g__law_take_2 (cCons (cOwn 2) (cCons (cC (.int 15)) (cNil)))) (cNil))) (tmName 6) (cYes) (e_law_k12_1) [6])) (tmName 3)) (sSeq (sIf (cBl (cOp gtD (cCallIO [(0, 2)] g__law_take_2 (cCons (cOwn 2) (cCons (cC (.int 3)) (cNil)))) (cC (.int 0)))) (sSeq (sAsg (cCallIO [(0, 2)] g__law_tree (cCons (cOwn 2) (cCons (cRg1 true (cCallIO [(0, 2)] g__law_take_2 (cCons (cOwn 2) (cCons (cC (.int 7)) (cNil))))) (cCons (cCallIO [(0, 2)] g__law_take_2 (cCons (cOwn 2) (cCons (cC (.int 5)) (cNil)))) (cNil))))) (tmName 4)) (sAsg (cCallIO [(0, 2)] g__law_spoilt_4 (cCons (cOwn 2) (cCons (cCallIO [(0, 2)] g__law_text_2 (cCons (cOwn 2) (cCons (cVar 4) (cCons (cC (.int 0)) (cNil))))) (cNil)))) (tmName 3))) (sSkip)) (sSeq (sAsg (cCallIO [(0, 2)] g__law_odd_2 (cCons (cOwn 2) (cNil))) (tmName 5)) (sIf (cOrT (cNotT (cTru (cCallF g__law_right_10 (cCons (cVar 3) (cNil))))) (cAndT (cNotT (cTru (cIsi isStr (cVar 5)))) (cBl (cOp neD (cCallF g__law_asked_11 (cCons (cVar 5) (cNil))) (cC (.str "rule")))))) (sRet (cC (.bl false))) (sSkip)))))
noncomputable def m_law_k12 : SM := sSeq (sFor [] (cRange rng1D (cCons (cCall max2D (cCons (cC (.int 1)) (cCons (cCall min2D (cCons (cCall lenD (cCons (cVar 0) (cNil))) (cCons (cC (.int 12)) (cNil)))) (cNil)))) (cNil))) (tmName 1) (b_law_k12_1) [1, 2, 3, 4, 5]) (sRet (cC (.bl true)))
noncomputable def g_law_k12 : List D → R Hd := fnP 1 7 m_law_k12
end C

set_option Elab.async false
set_option linter.all false
set_option maxRecDepth 100000
namespace H
open PySem PySem.Spec PyProof.Rows L2 Y
abbrev ti (xs : List Int) : D := .tup (xs.map D.int)
abbrev dRule (r : List Int × List Int) : D := .tup [ti r.1, ti r.2]
def placeI (xs : List Int) : Int := xs.foldl (fun p b => 2 * p + b) 0
end H

set_option Elab.async false
set_option linter.all false
set_option maxRecDepth 100000
namespace H
open PySem PySem.Spec PyProof.Rows L2 Y
theorem atI_nat' {α : Type} {xs : List α} {k : Nat} (h : k < xs.length) : atI xs (k : Int) = some xs[k] := atI_of (j := k) rfl (List.getElem?_eq_getElem h)
theorem atI_int {xs : List Int} {i : Int} (h0 : 0 ≤ i) (h : i < xs.length) : atI xs i = some (xs.getD i.toNat 0) := by
  rw [atI_lt h0 h, List.getD_eq_getElem?_getD, List.getElem?_eq_getElem (by omega)]
  rfl
abbrev RuleT := List Int × List Int
structure GoodNet (ns : List RuleT) : Prop where
  sz : ns.length ≤ 100
  ear : ∀ r ∈ ns, r.1.length ≤ 100 ∧ (∀ e ∈ r.1, 0 ≤ e ∧ e < ns.length) ∧ r.2.length = 2 ^ r.1.length
structure IsSt (m : Nat) (st : List Int) : Prop where
  len : st.length = m
  bit : ∀ x ∈ st, 0 ≤ x ∧ x < 2
def tellI (r : RuleT) (st : List Int) : Int := r.2.getD (placeI (r.1.map fun e => st.getD e.toNat 0)).toNat 0
def oughtI (ns : List RuleT) (st : List Int) (k : Nat) : Int := tellI (ns.getD k ([], [])) st
theorem getD_bit {st : List Int} (h : ∀ x ∈ st, 0 ≤ x ∧ x < 2) (k : Nat) : 0 ≤ st.getD k 0 ∧ st.getD k 0 < 2 := by
  rw [List.getD_eq_getElem?_getD]
  cases e : st[k]? with
  | none => simp
  | some x => exact h x (List.mem_of_getElem? e)
theorem IsSt.get {m : Nat} {st : List Int} (h : IsSt m st) (k : Nat) : 0 ≤ st.getD k 0 ∧ st.getD k 0 < 2 := getD_bit h.bit k
theorem GoodNet.at {ns : List RuleT} (g : GoodNet ns) {k : Nat} (h : k < ns.length) : (ns.getD k ([], [])).1.length ≤ 100 ∧ (∀ e ∈ (ns.getD k ([], [])).1, 0 ≤ e ∧ e < ns.length) ∧ (ns.getD k ([], [])).2.length = 2 ^ (ns.getD k ([], [])).1.length := by
  rw [List.getD_eq_getElem?_getD, List.getElem?_eq_getElem h]
  exact g.ear _ (List.getElem_mem h)
abbrev ln' (xs : List Nat) : D := .lst (xs.map fun k => D.int (k : Nat))
def stands : Nat → List (List Int)
  | 0 => [[]]
  | m + 1 => (stands m).map (0 :: ·) ++ (stands m).map (1 :: ·)
theorem stands_len : ∀ m, (stands m).length = 2 ^ m
  | 0 => rfl
  | m + 1 => by simp [stands, stands_len m, Nat.pow_succ]; omega
theorem stands_st : ∀ {m : Nat} {st : List Int}, st ∈ stands m → IsSt m st
  | 0, st, h => by simp [stands] at h; subst h; exact ⟨rfl, by simp⟩
  | m + 1, st, h => by
    simp only [stands, List.mem_append, List.mem_map] at h
    rcases h with ⟨s, h, rfl⟩ | ⟨s, h, rfl⟩
    · exact ⟨by simp [(stands_st h).len], by simpa using (stands_st h).bit⟩
    · exact ⟨by simp [(stands_st h).len], by simpa using (stands_st h).bit⟩
abbrev lti (xs : List (List Int)) : D := .lst (xs.map ti)
theorem stands_of_ok {m : Nat} (hm : m ≤ 20) : C.g_stands_of [.int m] = .ok (.vl (lti (stands m))) := by
  have hp : ∀ k, k ≤ 20 → 2 ^ k ≤ 1048576 := fun k hk => Nat.pow_le_pow_right (by omega) hk
  have h := for_rng (tm := tmName 2) (body := C.b_stands_of_1) (vs := [2]) (ws := []) (n := m) (fun k : Nat => D.int (k : Nat)) (fun k => [some (.int m), some (lti (stands k)), none, none]) (fun i hi => by
    have hz := hp i (by omega)
    have hz2 := hp (i + 1) (by omega)
    have c1 : cCompL (tmName 3) cYes C.e_stands_of_1 [3] [] ((stands i).map ti) [some (.int m), some (lti (stands i)), some (.int (i : Nat)), none] = .ok (((stands i).map fun s => ti (0 :: s)), [some (.int m), some (lti (stands i)), some (.int (i : Nat)), none]) :=
      comp_map ti (fun s => ti (0 :: s)) (stands i) (fun s hs => by
        have := (stands_st hs).len
        simp [turnC, C.e_stands_of_1, szOk_of (show 1 + s.length ≤ 16777216 by omega)])
    have c2 : cCompL (tmName 3) cYes C.e_stands_of_2 [3] [] ((stands i).map ti) [some (.int m), some (lti (stands i)), some (.int (i : Nat)), none] = .ok (((stands i).map fun s => ti (1 :: s)), [some (.int m), some (lti (stands i)), some (.int (i : Nat)), none]) :=
      comp_map ti (fun s => ti (1 :: s)) (stands i) (fun s hs => by
        have := (stands_st hs).len
        simp [turnC, C.e_stands_of_2, szOk_of (show 1 + s.length ≤ 16777216 by omega)])
    have hl := stands_len i
    have z1 : szOk (stands i).length = true := szOk_of (by omega)
    have z2 : szOk ((stands i).length + (stands i).length) = true := szOk_of (by rw [Nat.pow_succ] at hz2; omega)
    refine ⟨by simp, ?_⟩
    simp only [turnF, C.b_stands_of_1]
    simp [c1, c2, z1, z2, stands, Function.comp_def])
  have hr : rngOk m = true := rngOk_of (by omega) (by omega)
  have hz2 : szOk m = true := szOk_of (by omega)
  have h : forL (tmName 2) C.b_stands_of_1 [2] [] ((List.range m).map fun k : Nat => D.int (k : Nat)) [some (.int m), some (.lst [.tup []]), none, none] = _ := h
  simp [C.g_stands_of, C.m_stands_of, e_fnP, hr, hz2, h]
end H

set_option Elab.async false
set_option linter.all false
set_option maxRecDepth 100000
set_option exponentiation.threshold 300
namespace H
open PySem PySem.Spec PyProof.Rows L2 Y
def cellI (ns : List Int) (k : Nat) : Int := if k < ns.length then ns.getD k 0 else 6151 * k + 29
def isOk (r : R Hd) (d : D) : Prop := r = .ok (.fr d) ∨ r = .ok (.vl d)
theorem cell_ok {ns : List Int} {k : Nat} : isOk (C.g__law_cell [.arg ns, .int k]) (.int (cellI ns k)) := by
  unfold cellI
  by_cases h : k < ns.length
  · right
    have a := atI_int (xs := ns) (i := k) (by omega) (by omega)
    simp only [Int.toNat_natCast] at a
    simp [C.g__law_cell, C.m__law_cell, e_fnP, h, a, -List.getD_eq_getElem?_getD]
  · left
    simp [C.g__law_cell, C.m__law_cell, e_fnP, h, mulOk_l]
/-- numbers that the machine bears as factors -/
def Big (n : Nat) (z : Int) : Prop := z.natAbs < 2 ^ n
theorem Big.times {a b : Int} {n m : Nat} (h : Big n a) (h2 : Big m b) : Big (n + m) (a * b) := by
  unfold Big at *
  rw [Int.natAbs_mul, Nat.pow_add]
  exact Nat.mul_lt_mul'' h h2
theorem Big.up {a : Int} {n m : Nat} (h : Big n a) (hm : n ≤ m) : Big m a := Nat.lt_of_lt_of_le h (Nat.pow_le_pow_right (by omega) hm)
/-- a rule for m switches -/
structure RuleOk (m : Nat) (r : RuleT) : Prop where
  len : r.1.length ≤ 4
  sub : ∃ es : List Nat, r.1 = es.map (fun j : Nat => (j : Int)) ∧ es.Sublist (List.range m)
  tab : r.2.length = 2 ^ r.1.length
  bit : ∀ x ∈ r.2, 0 ≤ x ∧ x < 2
end H

set_option Elab.async false
set_option linter.all false
set_option maxRecDepth 100000
namespace H
open PySem PySem.Spec PyProof.Rows L2 Y
structure NetOk (ns : List RuleT) (most : Nat) : Prop where
  pos : 1 ≤ ns.length
  le : ns.length ≤ most
  rule : ∀ r ∈ ns, RuleOk ns.length r
theorem NetOk.good {ns : List RuleT} {most : Nat} (h : NetOk ns most) (hm : most ≤ 100) : GoodNet ns where
  sz := Nat.le_trans h.le hm
  ear := fun r hr => by
    have k := h.rule r hr
    refine ⟨by have := k.len; omega, fun e he => ?_, k.tab⟩
    obtain ⟨es, e1, sub⟩ := k.sub
    rw [e1] at he
    obtain ⟨j, hj, rfl⟩ := List.mem_map.mp he
    have := List.mem_range.mp (sub.subset hj)
    omega
end H

set_option Elab.async false
set_option linter.all false
set_option maxRecDepth 100000
namespace H
open PySem PySem.Spec PyProof.Rows L2 Y
end H

set_option Elab.async false
set_option linter.all false
set_option maxRecDepth 100000
namespace H
open PySem PySem.Spec PyProof.Rows L2 Y
abbrev tn (b : List Nat) : D := .tup (b.map fun k : Nat => D.int (k : Nat))
def TabBits (ns : List RuleT) : Prop := ∀ r ∈ ns, ∀ x ∈ r.2, 0 ≤ x ∧ x < 2
theorem NetOk.tab {ns : List RuleT} {most : Nat} (h : NetOk ns most) : TabBits ns := fun r hr => (h.rule r hr).bit
end H

set_option Elab.async false
set_option linter.all false
set_option maxRecDepth 100000
namespace H
open PySem PySem.Spec PyProof.Rows L2 Y
end H

set_option Elab.async false
set_option linter.all false
set_option maxRecDepth 100000
namespace H
open PySem PySem.Spec PyProof.Rows L2 Y
structure OrdOk (m : Nat) (o : List (List Nat)) : Prop where
  ne : ∀ b ∈ o, b ≠ []
  sub : ∀ b ∈ o, b.Sublist (List.range m)
  perm : o.flatten.Perm (List.range m)
theorem OrdOk.len {m : Nat} {o : List (List Nat)} (h : OrdOk m o) : o.length ≤ m := by
  have : ∀ o : List (List Nat), (∀ b ∈ o, b ≠ []) → o.length ≤ o.flatten.length := fun o => by
    induction o with
    | nil => simp
    | cons b o ih =>
      intro h
      have h1 := h b (by simp)
      have h2 := ih fun c hc => h c (by simp [hc])
      have : 0 < b.length := List.length_pos_iff.mpr h1
      rw [List.flatten_cons, List.length_append, List.length_cons]
      omega
  have h2 := this o h.ne
  rw [h.perm.length_eq, List.length_range] at h2
  exact h2
theorem OrdOk.apart {m : Nat} {o : List (List Nat)} (h : OrdOk m o) : o.Pairwise (fun b c => ∀ k ∈ b, k ∉ c) := by
  have : o.flatten.Nodup := h.perm.nodup_iff.mpr List.nodup_range
  have := (List.pairwise_flatten.mp this).2
  exact this.imp fun h k hk z => h k hk k z rfl
end H

set_option Elab.async false
set_option linter.all false
set_option maxRecDepth 100000
namespace H
open PySem PySem.Spec PyProof.Rows L2 Y
@[simp] theorem neD_bl {a b : Bool} : neD (.bl a) (.bl b) = .ok (.bl (a != b)) := by
  rw [neD_of (n := 0) fit_bl fit_bl, eqP_bl]
  cases a <;> cases b <;> rfl
theorem OrdOk.turn {m : Nat} {o : List (List Nat)} (h : OrdOk m o) (w : Nat) : OrdOk m (o.drop w ++ o.take w) := by
  have p : (o.drop w ++ o.take w).Perm o := by
    have := List.perm_append_comm (l₁ := o.drop w) (l₂ := o.take w)
    rwa [List.take_append_drop] at this
  exact ⟨fun b hb => h.ne b (p.mem_iff.mp hb), fun b hb => h.sub b (p.mem_iff.mp hb), p.flatten.trans h.perm⟩
end H

set_option Elab.async false
set_option linter.all false
set_option maxRecDepth 100000
namespace H
open PySem PySem.Spec PyProof.Rows L2 Y
def blk (ks : List Int) (m j : Nat) : List Nat := (List.range m).filter fun k => decide (ks.getD k 0 = (j : Nat))
end H

set_option Elab.async false
set_option linter.all false
set_option maxRecDepth 100000
set_option exponentiation.threshold 300
namespace H
open PySem PySem.Spec PyProof.Rows L2 Y
abbrev tx (l : List Nat) : Str := ⟨l.toArray⟩
abbrev dt (l : List Nat) : D := .str (tx l)
theorem tx_inj {a b : List Nat} : tx a = tx b ↔ a = b := by
  constructor
  · intro h
    have := congrArg (fun s : Str => s.cps.toList) h
    simpa using this
  · rintro rfl; rfl
theorem tx_len {a : List Nat} : (tx a).length = a.length := by
  show (a.toArray).size = _
  simp
theorem tx_add {a b : List Nat} : tx a ++ tx b = tx (a ++ b) := by
  show Str.append (tx a) (tx b) = _
  unfold Str.append
  simp
theorem add_dt {a b : List Nat} (h : a.length + b.length ≤ 16777216) : addD (dt a) (dt b) = .ok (dt (a ++ b)) := by
  rw [d_addS, tx_len, tx_len, if_pos (szOk_of h), tx_add]
theorem cut_lo {l : List Nat} {k : Nat} : cutS (tx l) none (some (k : Int)) = tx (l.take k) := by
  unfold cutS
  rw [HT.sIx_none, HT.sIx_nat, tx_len]
  simp
theorem cut_up {l : List Nat} {k : Nat} : cutS (tx l) (some (k : Int)) none = tx (l.drop k) := by
  unfold cutS
  rw [HT.sIx_none, HT.sIx_nat, tx_len]
  show tx _ = _
  rw [tx_inj]
  by_cases h : k ≤ l.length
  · rw [Nat.min_eq_left h, List.take_of_length_le (by simp)]
  · rw [Nat.min_eq_right (by omega), List.drop_of_length_le (by simp), List.drop_of_length_le (by omega)]
    simp
theorem slice_lo {l : List Nat} {k : Nat} (h : l.length ≤ 16777216) : sliceD (dt l) none (some (k : Int)) = .ok (dt (l.take k)) := by
  show (if szOk (tx l).length = true then R.ok (D.str (cutS (tx l) none (some (k : Int)))) else .stk) = _
  rw [tx_len, if_pos (szOk_of h), cut_lo]
theorem slice_up {l : List Nat} {k : Nat} (h : l.length ≤ 16777216) : sliceD (dt l) (some (k : Int)) none = .ok (dt (l.drop k)) := by
  show (if szOk (tx l).length = true then R.ok (D.str (cutS (tx l) (some (k : Int)) none)) else .stk) = _
  rw [tx_len, if_pos (szOk_of h), cut_up]
theorem ix_dt {l : List Nat} {k : Nat} (hk : k < l.length) (h : l.length ≤ 16777216) : ixD (dt l) (.int k) = .ok (dt [l.getD k 0]) := by
  have e : atI l (k : Int) = some (l.getD k 0) := by rw [atI_nat' hk, List.getD_eq_getElem?_getD, List.getElem?_eq_getElem hk]; rfl
  show (match atI (tx l).cps.toList (k : Int) with | some c => if szOk (tx l).length = true then R.ok (D.str ⟨#[c]⟩) else .stk | none => .stk) = _
  show (match atI l (k : Int) with | some c => if szOk (tx l).length = true then R.ok (D.str ⟨#[c]⟩) else .stk | none => .stk) = _
  rw [e, tx_len]
  simp [szOk_of h]
/-- signs that the machine bears -/
def SgOk (l : List Nat) : Prop := ∀ c ∈ l, c < 1114112
theorem fit_dt {n : Nat} {l : List Nat} (h : SgOk l) : Fit n (dt l) := by
  have : PyData.strOk (tx l) = true := by
    unfold PyData.strOk
    rw [← Array.all_toList, List.all_eq_true]
    intro c hc
    simpa using h c (by simpa using hc)
  cases n <;> exact this
theorem eqP_dt {a b : List Nat} : eqP (dt a) (dt b) = decide (a = b) := by
  rw [eqP_str, Bool.eq_iff_iff, beq_iff_eq, decide_eq_true_eq, tx_inj]
theorem eq_dt {a b : List Nat} (ha : SgOk a) (hb : SgOk b) : eqD (dt a) (dt b) = .ok (.bl (decide (a = b))) := by
  rw [eqD_of (n := 0) (fit_dt ha) (fit_dt hb), eqP_dt]
theorem ne_dt {a b : List Nat} (ha : SgOk a) (hb : SgOk b) : neD (dt a) (dt b) = .ok (.bl (!decide (a = b))) := by
  rw [neD_of (n := 0) (fit_dt ha) (fit_dt hb), eqP_dt]
abbrev ldt (xs : List (List Nat)) : D := .lst (xs.map dt)
theorem fit_ldt {n : Nat} {xs : List (List Nat)} (h : ∀ x ∈ xs, SgOk x) : Fit (n + 1) (ldt xs) := fun d hd => by
  obtain ⟨x, hx, rfl⟩ := List.mem_map.mp hd
  exact fit_dt (h x hx)
theorem in_ldt {a : List Nat} {xs : List (List Nat)} (ha : SgOk a) (h : ∀ x ∈ xs, SgOk x) : inD (dt a) (ldt xs) = .ok (.bl (decide (a ∈ xs))) := by
  have c1 : dOk (dt a) = true := dOk_fit (n := 1) (fit_dt ha)
  have c2 : dOk (ldt xs) = true := dOk_fit (n := 1) (fit_ldt h)
  have e : ((xs.map dt).any fun z => eqP z (dt a)) = decide (a ∈ xs) := by
    rw [List.any_map, Bool.eq_iff_iff, List.any_eq_true, decide_eq_true_eq]
    constructor
    · rintro ⟨x, hx, h⟩
      have : eqP (dt x) (dt a) = true := h
      rw [eqP_dt, decide_eq_true_eq] at this
      rw [← this]; exact hx
    · intro h
      exact ⟨a, h, by show eqP (dt a) (dt a) = true; rw [eqP_dt]; simp⟩
  show (match (if (dOk (dt a) && dOk (ldt xs)) = true then some ((xs.map dt).any fun z => eqP z (dt a)) else none) with | some b => R.ok (D.bl b) | none => .stk) = _
  rw [c1, c2, e]
  rfl
theorem s_none : Str.ofString "" = tx [] := by decide +kernel
end H

set_option Elab.async false
set_option linter.all false
set_option maxRecDepth 100000
set_option exponentiation.threshold 300
namespace H
open PySem PySem.Spec PyProof.Rows L2 Y
theorem take2_ok {n m : Int} (h0 : 0 < m) (h1 : m < 1073741824) : C.g__law_take_2 [.lst [.int n], .int m] = .ok (.vl (.int (n % m)), [some (.lst [.int (n / m)]), none]) := by
  have a : atI [D.int n] 0 = some (.int n) := rfl
  have b : ixN 1 0 = some 0 := rfl
  simp only [C.g__law_take_2, C.m__law_take_2]
  simp [e_fnD, smallPos_of h0 h1, h0, a, b, ixD]
def box2N (c : Int) (k : Nat) : Nat → Int × Int
  | 0 => (0, c % 2147483647)
  | j + 1 =>
    let m := ((box2N c k j).2 * 48271 + 7 * (j : Int) * j + 11 * k + 1) % 2147483647
    ((box2N c k j).1 * 2147483647 + m, m)
theorem box2_ok {ns : List Int} {k : Nat} (hk : k < 1000) : ∃ b : Int, C.g__law_box_2 [.arg ns, .int k] = .ok (.fr (.lst [.int b])) := by
  have h : forL (tmName 5) C.b__law_box_2_1 [5] [] ((List.range 24).map fun j : Nat => D.int (j : Nat)) [some (.arg ns), some (.int k), some (.int (cellI ns k)), some (.int 0), some (.int (cellI ns k % 2147483647)), none] = .ok (.nx, [some (.arg ns), some (.int k), some (.int (cellI ns k)), some (.int (box2N (cellI ns k) k 24).1), some (.int (box2N (cellI ns k) k 24).2), none]) :=
    for_rng (fun j : Nat => D.int (j : Nat)) (fun j => [some (.arg ns), some (.int k), some (.int (cellI ns k)), some (.int (box2N (cellI ns k) k j).1), some (.int (box2N (cellI ns k) k j).2), none]) (fun j hj => by
      refine ⟨by simp, ?_⟩
      have b1 : ∀ p : Int, mulOk p 2147483647 = true := fun p => mulOk_r (by decide)
      have b2 : ∀ p : Int, mulOk p 48271 = true := fun p => mulOk_r (by decide)
      have b3 : mulOk 7 j = true := mulOk_l (by decide)
      have b4 : mulOk 11 k = true := mulOk_l (by decide)
      have b5 : mulOk (7 * (j : Int)) j = true := mulOk_l (by omega)
      simp only [turnF, C.b__law_box_2_1]
      simp [b1, b2, b3, b4, b5, box2N])
  have hr : rngOk 24 = true := by decide
  have hz : szOk 24 = true := by decide
  have r24 : rng1D [.int 24] = .ok ((List.range 24).map fun j : Nat => D.int (j : Nat)) := by rw [d_rng1, if_pos hr]; rfl
  have z24 : szOk ((List.range 24).map fun j : Nat => D.int (j : Nat)).length = true := by simp [hz]
  by_cases e : cellI ns k % 2 = 0
  · refine ⟨cellI ns k / 2, ?_⟩
    rcases cell_ok (ns := ns) (k := k) with c | c <;> simp only [C.g__law_box_2, C.m__law_box_2] <;> simp [e_fnP, c, e, smallPos_of]
  · refine ⟨(box2N (cellI ns k) k 24).1, ?_⟩
    rcases cell_ok (ns := ns) (k := k) with c | c <;> simp only [C.g__law_box_2, C.m__law_box_2] <;> generalize C.b__law_box_2_1 = B at h ⊢ <;> generalize (List.range 24).map (fun j : Nat => D.int (j : Nat)) = L24 at h r24 z24 <;> simp [e_fnP, c, e, r24, z24, h, -d_rng1]
theorem mem_stands : ∀ {m : Nat} {st : List Int}, st ∈ stands m ↔ IsSt m st
  | 0, st => by
    constructor
    · exact stands_st
    · intro h
      have := h.len
      cases st with
      | nil => simp [stands]
      | cons => simp at this
  | m + 1, st => by
    constructor
    · exact stands_st
    · intro h
      cases st with
      | nil => have := h.len; simp at this
      | cons x st =>
        have hx := h.bit x (by simp)
        have hs : IsSt m st := ⟨by have := h.len; simpa using this, fun y hy => h.bit y (by simp [hy])⟩
        have : st ∈ stands m := mem_stands.mpr hs
        have e : x = 0 ∨ x = 1 := by omega
        rcases e with rfl | rfl <;> simp [stands, this]
theorem stands_lt : ∀ m, (stands m).Pairwise fun a b => ltL a b = true
  | 0 => by simp [stands]
  | m + 1 => by
    have ih := stands_lt m
    unfold stands
    rw [List.pairwise_append]
    refine ⟨?_, ?_, ?_⟩
    · rw [List.pairwise_map]; exact ih.imp fun h => by simpa [ltL] using h
    · rw [List.pairwise_map]; exact ih.imp fun h => by simpa [ltL] using h
    · intro a ha b hb
      obtain ⟨x, _, rfl⟩ := List.mem_map.mp ha
      obtain ⟨y, _, rfl⟩ := List.mem_map.mp hb
      simp [ltL]
theorem stands_nodup (m : Nat) : (stands m).Nodup := (stands_lt m).imp fun {a b} h e => by
  subst e
  rw [ltL_asym h] at h
  cases h
theorem stands_sorted {m : Nat} {xs : List (List Int)} (p : xs.Perm (stands m)) : sortL xs = stands m :=
  (sortL_of p.symm ((stands_lt m).imp fun h => ltL_asym h)).symm
/-- readings, the last bit grown -/
def rowsR : Nat → List (List Int)
  | 0 => [[]]
  | m + 1 => (rowsR m).map (· ++ [0]) ++ (rowsR m).map (· ++ [1])
theorem rowsR_st : ∀ {m : Nat} {st : List Int}, st ∈ rowsR m → IsSt m st
  | 0, st, h => by simp [rowsR] at h; subst h; exact ⟨rfl, by simp⟩
  | m + 1, st, h => by
    simp only [rowsR, List.mem_append, List.mem_map] at h
    rcases h with ⟨s, h, rfl⟩ | ⟨s, h, rfl⟩
    · have := rowsR_st h
      refine ⟨by simp [this.len], fun x hx => ?_⟩
      rcases List.mem_append.mp hx with hx | hx
      · exact this.bit x hx
      · simp at hx; omega
    · have := rowsR_st h
      refine ⟨by simp [this.len], fun x hx => ?_⟩
      rcases List.mem_append.mp hx with hx | hx
      · exact this.bit x hx
      · simp at hx; omega
theorem rowsR_len : ∀ m, (rowsR m).length = 2 ^ m
  | 0 => rfl
  | m + 1 => by simp [rowsR, rowsR_len m, Nat.pow_succ]; omega
theorem rowsR_nodup : ∀ m, (rowsR m).Nodup
  | 0 => by simp [rowsR]
  | m + 1 => by
    have ih := rowsR_nodup m
    unfold rowsR
    refine List.pairwise_append.mpr ⟨?_, ?_, ?_⟩
    · rw [List.pairwise_map]; exact ih.imp fun h e => h (List.append_cancel_right e)
    · rw [List.pairwise_map]; exact ih.imp fun h e => h (List.append_cancel_right e)
    · intro a ha b hb e
      obtain ⟨x, _, rfl⟩ := List.mem_map.mp ha
      obtain ⟨y, _, rfl⟩ := List.mem_map.mp hb
      have := List.append_inj' e rfl
      simp at this
theorem mem_rowsR : ∀ {m : Nat} {st : List Int}, IsSt m st → st ∈ rowsR m
  | 0, st, h => by
    have := h.len
    cases st with
    | nil => simp [rowsR]
    | cons => simp at this
  | m + 1, st, h => by
    rcases List.eq_nil_or_concat st with rfl | ⟨s, b, rfl⟩
    · have := h.len; simp at this
    · have hs : IsSt m s := ⟨by have := h.len; simpa using this, fun y hy => h.bit y (by simp [hy])⟩
      have hb := h.bit b (by simp)
      have := mem_rowsR hs
      have e : b = 0 ∨ b = 1 := by omega
      rcases e with rfl | rfl <;> simp [rowsR, this]
theorem rowsR_perm (m : Nat) : (rowsR m).Perm (stands m) :=
  (List.perm_ext_iff_of_nodup (rowsR_nodup m) (stands_nodup m)).mpr fun st => ⟨fun h => mem_stands.mpr (rowsR_st h), fun h => mem_rowsR (stands_st h)⟩
theorem readings_ok {m : Nat} (hm : m ≤ 20) : C.g__law_readings [.int m] = .ok (.fr (lti (stands m))) := by
  have hp : ∀ k, k ≤ 20 → 2 ^ k ≤ 1048576 := fun k hk => Nat.pow_le_pow_right (by omega) hk
  have h := for_rng (tm := tmName 2) (body := C.b__law_readings_1) (vs := [2]) (ws := []) (n := m) (fun k : Nat => D.int (k : Nat)) (fun k => [some (.int m), some (lti (rowsR k)), none, none]) (fun i hi => by
    have hz := hp i (by omega)
    have hz2 := hp (i + 1) (by omega)
    have c1 : cCompL (tmName 3) cYes C.e__law_readings_1 [3] [] ((rowsR i).map ti) [some (.int m), some (lti (rowsR i)), some (.int (i : Nat)), none] = .ok (((rowsR i).map fun s => ti (s ++ [0])), [some (.int m), some (lti (rowsR i)), some (.int (i : Nat)), none]) :=
      comp_map ti (fun s => ti (s ++ [0])) (rowsR i) (fun s hs => by
        have := (rowsR_st hs).len
        simp only [turnC, C.e__law_readings_1]
        simp [szOk_of (show s.length + 1 ≤ 16777216 by omega)])
    have c2 : cCompL (tmName 3) cYes C.e__law_readings_2 [3] [] ((rowsR i).map ti) [some (.int m), some (lti (rowsR i)), some (.int (i : Nat)), none] = .ok (((rowsR i).map fun s => ti (s ++ [1])), [some (.int m), some (lti (rowsR i)), some (.int (i : Nat)), none]) :=
      comp_map ti (fun s => ti (s ++ [1])) (rowsR i) (fun s hs => by
        have := (rowsR_st hs).len
        simp only [turnC, C.e__law_readings_2]
        simp [szOk_of (show s.length + 1 ≤ 16777216 by omega)])
    have hl := rowsR_len i
    have z1 : szOk (rowsR i).length = true := szOk_of (by omega)
    have z2 : szOk ((rowsR i).length + (rowsR i).length) = true := szOk_of (by rw [Nat.pow_succ] at hz2; omega)
    refine ⟨by simp, ?_⟩
    simp only [turnF, C.b__law_readings_1]
    simp [c1, c2, z1, z2, rowsR, Function.comp_def])
  have hr : rngOk m = true := rngOk_of (by omega) (by omega)
  have hz2 : szOk m = true := szOk_of (by omega)
  have h : forL (tmName 2) C.b__law_readings_1 [2] [] ((List.range m).map fun k : Nat => D.int (k : Nat)) [some (.int m), some (.lst [.tup []]), none, none] = _ := h
  have hs : sortD [lti (rowsR m)] = .ok (lti (stands m)) := by
    cases e : rowsR m with
    | nil => have := rowsR_len m; rw [e] at this; have := Nat.pow_pos (n := m) (show 0 < 2 by omega); simp at *; omega
    | cons x xs =>
      have ok : sortOk (x :: xs) = true := by
        unfold sortOk
        cases m with
        | zero => simp [rowsR] at e; obtain ⟨rfl, rfl⟩ := e; rfl
        | succ m =>
          rw [Bool.or_eq_true]
          right
          rw [← e, List.all_eq_true]
          intro y hy
          have := (rowsR_st hy).len
          cases y with
          | nil => simp at this
          | cons => rfl
      have := sortD_tups ok
      rw [← e] at this
      rw [← e, this, stands_sorted (rowsR_perm m)]
  generalize lti (rowsR m) = F at h hs
  simp only [C.g__law_readings, C.m__law_readings]
  simp [e_fnP, hr, hz2, h, hs]
end H

set_option Elab.async false
set_option linter.all false
set_option maxRecDepth 100000
set_option exponentiation.threshold 300
namespace H
open PySem PySem.Spec PyProof.Rows L2 Y
theorem sub_range {es : List Nat} {m : Nat} (h : es.Pairwise (· < ·)) (hm : ∀ x ∈ es, x < m) : es.Sublist (List.range m) := by
  have e : es = (List.range m).filter fun k => decide (k ∈ es) := by
    have hf : ((List.range m).filter fun k => decide (k ∈ es)).Pairwise (· < ·) := List.Pairwise.filter _ List.pairwise_lt_range
    refine List.Perm.eq_of_pairwise (le := fun a b : Nat => a < b) (fun a b _ _ h1 h2 => by omega) h hf ?_
    refine (List.perm_ext_iff_of_nodup (h.imp fun h => by omega) (hf.imp fun h => by omega)).mpr fun k => ?_
    rw [List.mem_filter, List.mem_range, decide_eq_true_eq]
    exact ⟨fun h => ⟨hm k h, h⟩, fun h => h.2⟩
  rw [e]
  exact List.filter_sublist
end H

set_option Elab.async false
set_option linter.all false
set_option maxRecDepth 100000
namespace H
open PySem PySem.Spec PyProof.Rows L2 Y
structure RuleLk (r : RuleT) : Prop where
  len : r.1.length ≤ 8
  tab : r.2.length = 2 ^ r.1.length
  bit : ∀ x ∈ r.2, 0 ≤ x ∧ x < 2
theorem RuleOk.lk {m : Nat} {r : RuleT} (h : RuleOk m r) : RuleLk r := ⟨Nat.le_trans h.len (by omega), h.tab, h.bit⟩
theorem sg1 {c : Nat} (h : c < 1114112) : SgOk [c] := fun x hx => by simp at hx; omega
end H

set_option Elab.async false
set_option linter.all false
set_option maxRecDepth 100000
namespace H
open PySem PySem.Spec PyProof.Rows L2 Y
end H

set_option Elab.async false
set_option linter.all false
set_option maxRecDepth 100000
namespace H
open PySem PySem.Spec PyProof.Rows L2 Y
structure EarsOk (m : Nat) (r : RuleT) : Prop where
  sub : ∃ es : List Nat, r.1 = es.map (fun j : Nat => (j : Int)) ∧ es.Nodup ∧ ∀ j ∈ es, j < m
theorem RuleOk.ears {m : Nat} {r : RuleT} (h : RuleOk m r) : EarsOk m r := by
  obtain ⟨es, e1, s⟩ := h.sub
  exact ⟨es, e1, s.nodup List.nodup_range, fun j hj => List.mem_range.mp (s.subset hj)⟩
end H

set_option Elab.async false
set_option linter.all false
set_option maxRecDepth 100000
namespace H
open PySem PySem.Spec PyProof.Rows L2 Y
theorem in_text {c : Nat} {l : List Nat} : inD (dt [c]) (dt l) = .ok (.bl (decide (c ∈ l))) := by
  have e : (tx [c]).length = 1 := rfl
  have e2 : (tx [c]).cps.getD 0 0 = c := rfl
  have e3 : (tx l).cps.toList = l := by simp [tx]
  show (match (if (tx [c]).length = 1 then some (decide ((tx [c]).cps.getD 0 0 ∈ (tx l).cps.toList)) else none) with | some b => R.ok (D.bl b) | none => .stk) = _
  rw [if_pos e, e2, e3]
theorem int_of_sg {c : Nat} (h : c = 48 ∨ c = 49) : intOfD [dt [c]] = .ok (.int ((c : Int) - 48)) := by
  rcases h with rfl | rfl <;> rfl
abbrev li (xs : List Int) : D := .lst (xs.map D.int)
theorem NetOk.lk {ns : List RuleT} {most k : Nat} (h : NetOk ns most) (hk : k < ns.length) : RuleOk ns.length (ns.getD k ([], [])) := by
  rw [List.getD_eq_getElem?_getD, List.getElem?_eq_getElem hk]
  exact h.rule _ (List.getElem_mem hk)
theorem fit_li {n : Nat} {xs : List Int} : Fit (n + 1) (li xs) := fun d h => by
  obtain ⟨x, _, rfl⟩ := List.mem_map.mp h
  cases n <;> trivial
end H

set_option Elab.async false
set_option linter.all false
set_option maxRecDepth 100000
namespace H
open PySem PySem.Spec PyProof.Rows L2 Y
end H

set_option Elab.async false
set_option linter.all false
set_option maxRecDepth 100000
namespace H
open PySem PySem.Spec PyProof.Rows L2 Y
section
variable {α : Type}
end
end H

set_option Elab.async false
set_option linter.all false
set_option maxRecDepth 100000
namespace H
open PySem PySem.Spec PyProof.Rows L2 Y
end H

set_option Elab.async false
set_option linter.all false
set_option maxRecDepth 100000
namespace H
open PySem PySem.Spec PyProof.Rows L2 Y
end H

set_option Elab.async false
set_option linter.all false
set_option maxRecDepth 100000
namespace H
open PySem PySem.Spec PyProof.Rows L2 Y
section
variable {r : RuleT} {bit : Int} {ys : List (List Nat)}
end
end H

set_option Elab.async false
set_option linter.all false
set_option maxRecDepth 100000
namespace H
open PySem PySem.Spec PyProof.Rows L2 Y
section
variable {r : RuleT} {bit : Int}
end
end H

set_option Elab.async false
set_option linter.all false
set_option maxRecDepth 100000
namespace H
open PySem PySem.Spec PyProof.Rows L2 Y
end H

set_option Elab.async false
set_option linter.all false
set_option maxRecDepth 100000
namespace H
open PySem PySem.Spec PyProof.Rows L2 Y
end H

set_option Elab.async false
set_option linter.all false
set_option maxRecDepth 100000
namespace H
open PySem PySem.Spec PyProof.Rows L2 Y
section
variable {r : RuleT}
end
end H

set_option Elab.async false
set_option linter.all false
set_option maxRecDepth 100000
namespace H
open PySem PySem.Spec PyProof.Rows L2 Y
end H

set_option Elab.async false
set_option linter.all false
set_option maxRecDepth 100000
namespace H
open PySem PySem.Spec PyProof.Rows L2 Y
def Nd : Nat → D → Prop
  | 0, d => noDit d = true
  | n + 1, d => noDit d = true ∧ ∀ xs, d = .tup xs → xs.length ≤ 1000000 ∧ ∀ x ∈ xs, Nd n x
theorem Nd.no : ∀ {n : Nat} {d : D}, Nd n d → noDit d = true
  | 0, _, h => h
  | _ + 1, _, h => h.1
theorem Nd.down : ∀ {n : Nat} {d : D}, Nd (n + 1) d → Nd n d
  | 0, _, h => h.1
  | n + 1, _, h => ⟨h.1, fun xs e => ⟨(h.2 xs e).1, fun x hx => Nd.down ((h.2 xs e).2 x hx)⟩⟩
theorem nd_flat {n : Nat} {d : D} (h : noDit d = true) (h2 : ∀ xs, d ≠ .tup xs) : Nd n d := by
  cases n with
  | zero => exact h
  | succ n => exact ⟨h, fun xs e => absurd e (h2 xs)⟩
@[simp] theorem nd_int {n : Nat} {i : Int} : Nd n (.int i) := nd_flat rfl (by simp)
@[simp] theorem nd_bl {n : Nat} {b : Bool} : Nd n (.bl b) := nd_flat rfl (by simp)
@[simp] theorem nd_non {n : Nat} : Nd n .non := nd_flat rfl (by simp)
@[simp] theorem nd_str {n : Nat} {x : Str} : Nd n (.str x) := nd_flat rfl (by simp)
@[simp] theorem nd_lst {n : Nat} {x : List D} : Nd n (.lst x) := nd_flat rfl (by simp)
@[simp] theorem nd_dik {n : Nat} {k : List Key} {x : List D} : Nd n (.dik k x) := nd_flat rfl (by simp)
theorem Nd.tup {n : Nat} {xs : List D} (h : Nd (n + 1) (.tup xs)) : xs.length ≤ 1000000 ∧ ∀ x ∈ xs, Nd n x := h.2 xs rfl
theorem atI_any {L : List D} {i : Int} {p : D → Prop} (h0 : 0 ≤ i) (h : i < L.length) (hp : ∀ x ∈ L, p x) : ∃ d, atI L i = some d ∧ p d := by
  have e : atI L i = some L[i.toNat] := atI_of (j := i.toNat) (by omega) (List.getElem?_eq_getElem (by omega))
  exact ⟨_, e, hp _ (List.getElem_mem _)⟩
theorem strs_of {α : Type} {f : α → Str} : ∀ {xs : List α}, strsOf (xs.map fun x => D.str (f x)) = some (xs.map f)
  | [] => rfl
  | x :: xs => by simp [strsOf, strs_of (xs := xs)]
theorem joinD_lst {a : Str} {ds : List D} : joinD (.str a) (.lst ds) = (match strsOf ds with | some ys => if (ys.map (·.length)).sum + ys.length * a.length ≤ 16777216 then R.ok (.str (Txt.join a ys)) else .stk | none => .stk) := by
  cases e : strsOf ds <;> simp [joinD, e]
end H

set_option Elab.async false
set_option linter.all false
set_option maxRecDepth 100000
namespace H
open PySem PySem.Spec PyProof.Rows L2 Y
end H

set_option Elab.async false
set_option linter.all false
set_option maxRecDepth 100000
namespace H
open PySem PySem.Spec PyProof.Rows L2 Y
inductive Pap where
  | rest | against (k : Nat) | split (k : Nat) (a b : Pap)
abbrev wRest : D := dt [114, 101, 115, 116]
abbrev wAg : D := dt [97, 103, 97, 105, 110, 115, 116]
abbrev wSplit : D := dt [115, 112, 108, 105, 116]
def Pap.d : Pap → D
  | .rest => .tup [wRest]
  | .against k => .tup [wAg, .int k]
  | .split k a b => .tup [wSplit, .int k, a.d, b.d]
def Pap.ok (m : Nat) : Pap → Prop
  | .rest => True
  | .against k => k < m
  | .split k a b => k < m ∧ a.ok m ∧ b.ok m
def Pap.dep : Pap → Nat
  | .rest => 0
  | .against _ => 0
  | .split _ a b => 1 + max a.dep b.dep
def sign (f : List Nat) (k c : Nat) : List Nat := f.take k ++ c :: f.drop (k + 1)
def both (x y : Option (List (List Int))) : Option (List (List Int)) := match x with
  | none => none
  | some a => match y with
    | none => none
    | some b => some (a ++ b)
end H

set_option Elab.async false
set_option linter.all false
set_option maxRecDepth 100000
namespace H
open PySem PySem.Spec PyProof.Rows L2 Y
end H

set_option Elab.async false
set_option linter.all false
set_option maxRecDepth 100000
namespace H
open PySem PySem.Spec PyProof.Rows L2 Y
end H

set_option Elab.async false
set_option linter.all false
set_option maxRecDepth 100000
namespace H
open PySem PySem.Spec PyProof.Rows L2 Y
end H

set_option Elab.async false
set_option linter.all false
set_option maxRecDepth 100000
namespace H
open PySem PySem.Spec PyProof.Rows L2 Y
structure InS (m : Nat) (L : List (List Int)) : Prop where
  nd : L.Nodup
  st : ∀ x ∈ L, IsSt m x
theorem nodup_len {α : Type} [DecidableEq α] : ∀ {A B : List α}, A.Nodup → (∀ x ∈ A, x ∈ B) → A.length ≤ B.length
  | [], B, _, _ => by simp
  | x :: A, B, h, s => by
    obtain ⟨h1, h2⟩ := List.nodup_cons.mp h
    have hx := s x (by simp)
    have ih := nodup_len (A := A) (B := B.erase x) h2 fun y hy => (List.mem_erase_of_ne fun z : y = x => h1 (by rw [← z]; exact hy)).mpr (s y (by simp [hy]))
    rw [List.length_erase_of_mem hx] at ih
    have : 0 < B.length := List.length_pos_of_mem hx
    rw [List.length_cons]
    omega
theorem InS.len {m : Nat} {L : List (List Int)} (h : InS m L) : L.length ≤ 2 ^ m := by
  have := nodup_len h.nd (B := stands m) fun x hx => mem_stands.mpr (h.st x hx)
  rwa [stands_len] at this
abbrev kt (t : List Int) : List Key := t.map Sum.inl
theorem keys_ti : ∀ t : List Int, keysOf (t.map D.int) = some (kt t)
  | [] => rfl
  | x :: t => by
    rw [List.map_cons]
    unfold keysOf
    rw [keys_ti t]
    rfl
end H

set_option Elab.async false
set_option linter.all false
set_option maxRecDepth 100000
namespace H
open PySem PySem.Spec PyProof.Rows L2 Y
end H

set_option Elab.async false
set_option linter.all false
set_option maxRecDepth 100000
namespace H
open PySem PySem.Spec PyProof.Rows L2 Y
end H

set_option Elab.async false
set_option linter.all false
set_option maxRecDepth 100000
namespace H
open PySem PySem.Spec PyProof.Rows L2 Y
end H

set_option Elab.async false
set_option linter.all false
set_option maxRecDepth 100000
namespace H
open PySem PySem.Spec PyProof.Rows L2 Y
@[simp] theorem e_dget {a b : EM} {ρ : Y.Env} : cDGet a b ρ = (a ρ >>= fun p => b p.2 >>= fun q => (p.1.d q.2).nox >>= fun x => (q.1.d q.2).nox >>= fun y => (getDic x y).nox >>= fun o => match o with | some z => R.ok (.vl z, q.2) | none => .stk) := id rfl
end H

set_option Elab.async false
set_option linter.all false
set_option maxRecDepth 100000
namespace H
open PySem PySem.Spec PyProof.Rows L2 Y
end H

set_option Elab.async false
set_option linter.all false
set_option maxRecDepth 100000
namespace H
open PySem PySem.Spec PyProof.Rows L2 Y
end H

set_option Elab.async false
set_option linter.all false
set_option maxRecDepth 100000
namespace H
open PySem PySem.Spec PyProof.Rows L2 Y
end H

set_option Elab.async false
set_option linter.all false
set_option maxRecDepth 100000
namespace H
open PySem PySem.Spec PyProof.Rows L2 Y
end H

set_option Elab.async false
set_option linter.all false
set_option maxRecDepth 100000
namespace H
open PySem PySem.Spec PyProof.Rows L2 Y
end H

set_option Elab.async false
set_option linter.all false
set_option maxRecDepth 100000
namespace H
open PySem PySem.Spec PyProof.Rows L2 Y
structure NetM (m : Nat) (ns : List RuleT) : Prop where
  len : ns.length = m
  rule : ∀ r ∈ ns, RuleOk m r
theorem NetM.good {m : Nat} {ns : List RuleT} (h : NetM m ns) (hm : m ≤ 100) : GoodNet ns where
  sz := by rw [h.len]; exact hm
  ear := fun r hr => by
    have k := h.rule r hr
    refine ⟨by have := k.len; omega, fun e he => ?_, k.tab⟩
    obtain ⟨es, e1, sub⟩ := k.sub
    rw [e1] at he
    obtain ⟨j, hj, rfl⟩ := List.mem_map.mp he
    have := List.mem_range.mp (sub.subset hj)
    rw [h.len]
    omega
theorem NetM.at {m k : Nat} {ns : List RuleT} (h : NetM m ns) (hk : k < m) : RuleOk m (ns.getD k ([], [])) := by
  rw [List.getD_eq_getElem?_getD, List.getElem?_eq_getElem (by rw [h.len]; exact hk)]
  exact h.rule _ (List.getElem_mem _)
theorem NetM.bit {m k : Nat} {ns : List RuleT} {st : List Int} (h : NetM m ns) (hk : k < m) : oughtI ns st k = 0 ∨ oughtI ns st k = 1 := by
  have := getD_bit (h.at hk).bit (placeI ((ns.getD k ([], [])).1.map fun e => st.getD e.toNat 0)).toNat
  unfold oughtI tellI
  omega
inductive Tree where
  | is (i : Int) | look (st : List Int) (k : Nat) (a b : Tree)
abbrev wIs : D := dt [105, 115]
abbrev wLk : D := dt [108, 111, 111, 107]
def Tree.d : Tree → D
  | .is i => .tup [wIs, .int i]
  | .look st k a b => .tup [wLk, ti st, .int k, a.d, b.d]
def Tree.ok (m : Nat) : Tree → Prop
  | .is _ => True
  | .look st k a b => IsSt m st ∧ k < m ∧ a.ok m ∧ b.ok m
def Tree.dep : Tree → Nat
  | .is _ => 0
  | .look _ _ a b => 1 + max a.dep b.dep
theorem i2 {a b : D} : atI [a, b] 0 = some a ∧ atI [a, b] 1 = some b := ⟨atI_of (j := 0) rfl rfl, atI_of (j := 1) rfl rfl⟩
end H

set_option Elab.async false
set_option linter.all false
set_option maxRecDepth 100000
namespace H
open PySem PySem.Spec PyProof.Rows L2 Y
theorem fit_ti {n : Nat} {xs : List Int} : Fit (n + 1) (ti xs) := fun d h => by
  obtain ⟨x, _, rfl⟩ := List.mem_map.mp h
  cases n <;> trivial
theorem fit_rule {n : Nat} {r : RuleT} : Fit (n + 2) (dRule r) := fun d h => by
  simp only [List.mem_cons, List.not_mem_nil, or_false] at h
  rcases h with rfl | rfl
  · exact fit_ti
  · exact fit_ti
def Made (m : Nat) (nss : List (List RuleT)) (lim : Nat) (h : Hd) (ρ : Y.Env) : Prop := ∃ (t : Tree) (b : Int), h = .fr t.d ∧ ρ.getD 0 none = some (.lst [.int b]) ∧ t.ok m ∧ t.dep ≤ lim
theorem law_whole2_ok {i : Int} : C.g__law_whole_2 [.int i] = .ok (.fr (.bl true)) := by
  simp [C.g__law_whole_2, C.m__law_whole_2, e_fnP, noDit, Y.isInt, Y.isBl]
end H

set_option Elab.async false
set_option linter.all false
set_option maxRecDepth 100000
namespace H
open PySem PySem.Spec PyProof.Rows L2 Y
theorem in_ti {x : Int} {xs : List Int} : inD (.int x) (ti xs) = .ok (.bl (decide (x ∈ xs))) := by
  have c1 : flatD (.int x) = true := rfl
  have c2 : (xs.map D.int).all flatD = true := by
    rw [List.all_map, List.all_eq_true]
    exact fun _ _ => rfl
  have e : ((xs.map D.int).any fun z => eqP z (.int x)) = decide (x ∈ xs) := by
    rw [List.any_map, Bool.eq_iff_iff, List.any_eq_true, decide_eq_true_eq]
    constructor
    · rintro ⟨y, hy, h⟩
      have : eqP (.int y) (.int x) = true := h
      rw [eqP_int, beq_iff_eq] at this
      rw [← this]; exact hy
    · intro h
      exact ⟨x, h, by show eqP (.int x) (.int x) = true; rw [eqP_int]; simp⟩
  show (match (if (flatD (.int x) && (xs.map D.int).all flatD) = true then some ((xs.map D.int).any fun z => eqP z (.int x)) else none) with | some b => R.ok (D.bl b) | none => .stk) = _
  rw [c1, c2, e]
  rfl
end H

set_option Elab.async false
set_option linter.all false
set_option maxRecDepth 100000
namespace H
open PySem PySem.Spec PyProof.Rows L2 Y
section
variable {ns : List RuleT} {o : List (List Nat)}
end
theorem bits2_ok {m : Nat} {st : List Int} (hm : m ≤ 1000) (hs : IsSt m st) : C.g__law_bits_2 [ti st, .int m] = .ok (.fr (.bl true)) := by
  obtain rfl := hs.len
  have c1 := comp_map (tm := tmName 2) (t := cYes) (e := C.e__law_bits_2_1) (vs := [2]) (ws := []) (ρ := [some (ti st), some (.int st.length), none]) D.int (fun _ => D.bl true) st fun x hx => by
    have hb := hs.bit x hx
    have it := in_ti (x := x) (xs := [0, 1])
    have hm : decide (x ∈ [(0 : Int), 1]) = true := by
      refine decide_eq_true ?_
      have : x = 0 ∨ x = 1 := by omega
      rcases this with rfl | rfl <;> simp
    rw [hm] at it
    have it : inD (.int x) (.tup [.int 0, .int 1]) = _ := it
    simp only [turnC, C.e__law_bits_2_1]
    simp [it, noDit, Y.isInt, Y.isBl]
  have e1 : (st.map fun _ => D.bl true) = (st.map fun _ => true).map D.bl := by rw [List.map_map]; rfl
  rw [e1] at c1
  have al := d_all (xs := st.map fun _ => true)
  have at' : (st.map fun _ => true).all id = true := by simp
  rw [at'] at al
  have zl : szOk st.length = true := szOk_of (by omega)
  generalize hq : (st.map fun _ => true).map D.bl = Q at c1 al
  have zq : szOk Q.length = true := by rw [← hq]; simpa using zl
  simp only [C.g__law_bits_2, C.m__law_bits_2]
  generalize C.e__law_bits_2_1 = E1 at *
  simp [e_fnP, noDit, Y.isTup, c1, al, zl, zq]
end H

set_option Elab.async false
set_option linter.all false
set_option maxRecDepth 100000
namespace H
open PySem PySem.Spec PyProof.Rows L2 Y
end H

set_option Elab.async false
set_option linter.all false
set_option maxRecDepth 100000
namespace H
open PySem PySem.Spec PyProof.Rows L2 Y
end H

set_option Elab.async false
set_option linter.all false
set_option maxRecDepth 100000
namespace H
open PySem PySem.Spec PyProof.Rows L2 Y
end H

set_option Elab.async false
set_option linter.all false
set_option maxRecDepth 100000
namespace H
open PySem PySem.Spec PyProof.Rows L2 Y
end H

set_option Elab.async false
set_option linter.all false
set_option maxRecDepth 100000
namespace H
open PySem PySem.Spec PyProof.Rows L2 Y
abbrev SeT := List Int × Nat × Int
end H

set_option Elab.async false
set_option linter.all false
set_option maxRecDepth 100000
namespace H
open PySem PySem.Spec PyProof.Rows L2 Y
end H

set_option Elab.async false
set_option linter.all false
set_option maxRecDepth 100000
namespace H
open PySem PySem.Spec PyProof.Rows L2 Y
theorem RuleOk.up {m k : Nat} {r : RuleT} (h : RuleOk k r) (hk : k ≤ m) : RuleOk m r := ⟨h.len, let ⟨es, e, s⟩ := h.sub; ⟨es, e, s.trans (by
  obtain ⟨d, rfl⟩ : ∃ d, m = k + d := ⟨m - k, by omega⟩
  rw [List.range_add]
  exact List.sublist_append_left _ _)⟩, h.tab, h.bit⟩
end H

set_option Elab.async false
set_option linter.all false
set_option maxRecDepth 100000
namespace H
open PySem PySem.Spec PyProof.Rows L2 Y
theorem flat_len {α β : Type} {f : α → List β} {c : Nat} : ∀ {xs : List α}, (∀ x ∈ xs, (f x).length ≤ c) → (xs.flatMap f).length ≤ xs.length * c
  | [], _ => by simp
  | x :: xs, h => by
    rw [List.flatMap_cons, List.length_append, List.length_cons, Nat.succ_mul]
    have := h x (by simp)
    have := flat_len (xs := xs) fun y hy => h y (by simp [hy])
    omega
theorem NetOk.lkAt {ns : List RuleT} {most k : Nat} (h : NetOk ns most) (hk : k < ns.length) : RuleOk ns.length (ns.getD k ([], [])) := by
  rw [List.getD_eq_getElem?_getD, List.getElem?_eq_getElem hk]
  exact h.rule _ (List.getElem_mem hk)
def WOk (m : Nat) (L : List (List Int)) : Prop := L.Nodup ∧ ∀ t ∈ L, ∃ j k : Nat, j < m ∧ k < m ∧ (t = [(j : Int), (k : Int), 1] ∨ t = [(j : Int), (k : Int), -1])
theorem WOk.len {m : Nat} {L : List (List Int)} (h : WOk m L) : L.length ≤ m * (m * 2) := by
  have := nodup_len (B := (List.range m).flatMap fun j => (List.range m).flatMap fun k => [[((j : Nat) : Int), ((k : Nat) : Int), 1], [(j : Int), (k : Int), -1]]) h.1 fun t ht => by
    obtain ⟨j, k, hj, hk, e⟩ := h.2 t ht
    exact List.mem_flatMap.mpr ⟨j, List.mem_range.mpr hj, List.mem_flatMap.mpr ⟨k, List.mem_range.mpr hk, by simpa using e⟩⟩
  refine Nat.le_trans this ?_
  have a := flat_len (xs := List.range m) (f := fun j => (List.range m).flatMap fun k => [[((j : Nat) : Int), ((k : Nat) : Int), 1], [(j : Int), (k : Int), -1]]) (c := m * 2) fun j _ => by
    have := flat_len (xs := List.range m) (f := fun k => [[((j : Nat) : Int), ((k : Nat) : Int), 1], [(j : Int), (k : Int), -1]]) (c := 2) fun k _ => by simp
    rwa [List.length_range] at this
  rwa [List.length_range] at a
theorem NetOk.bit {ns : List RuleT} {most k : Nat} (h : NetOk ns most) (hk : k < ns.length) (st : List Int) : oughtI ns st k = 0 ∨ oughtI ns st k = 1 := by
  have := getD_bit (h.lkAt hk).bit (placeI ((ns.getD k ([], [])).1.map fun e => st.getD e.toNat 0)).toNat
  have e : oughtI ns st k = (ns.getD k ([], [])).2.getD (placeI ((ns.getD k ([], [])).1.map fun e => st.getD e.toNat 0)).toNat 0 := rfl
  omega
end H

set_option Elab.async false
set_option linter.all false
set_option maxRecDepth 100000
namespace H
open PySem PySem.Spec PyProof.Rows L2 Y
/-- pairs of switches -/
def PrOk (m : Nat) (L : List (List Int)) : Prop := L.Nodup ∧ ∀ p ∈ L, ∃ j k : Nat, j < m ∧ k < m ∧ p = [(j : Int), (k : Int)]
theorem PrOk.len {m : Nat} {L : List (List Int)} (h : PrOk m L) : L.length ≤ m * m := by
  have sub : L ⊆ (List.range m).flatMap fun j : Nat => (List.range m).map fun k : Nat => [(j : Int), (k : Int)] := fun p hp => by
    obtain ⟨j, k, hj, hk, rfl⟩ := h.2 p hp
    exact List.mem_flatMap.mpr ⟨j, List.mem_range.mpr hj, List.mem_map.mpr ⟨k, List.mem_range.mpr hk, rfl⟩⟩
  have := nodup_len h.1 fun p hp => sub hp
  have l : ((List.range m).flatMap fun j : Nat => (List.range m).map fun k : Nat => [(j : Int), (k : Int)]).length ≤ (List.range m).length * m := flat_len fun j _ => by simp
  rw [List.length_range] at l
  omega
end H

set_option Elab.async false
set_option linter.all false
set_option maxRecDepth 100000
namespace H
open PySem PySem.Spec PyProof.Rows L2 Y
def tk (t : List Int) : List Key × Int := ([.inl (t.getD 0 0), .inl (t.getD 1 0)], t.getD 2 0)
end H

set_option Elab.async false
set_option linter.all false
set_option maxRecDepth 100000
namespace H
open PySem PySem.Spec PyProof.Rows L2 Y
end H

set_option Elab.async false
set_option linter.all false
set_option maxRecDepth 100000
namespace H
open PySem PySem.Spec PyProof.Rows L2 Y
end H

set_option Elab.async false
set_option linter.all false
set_option maxRecDepth 100000
namespace H
open PySem PySem.Spec PyProof.Rows L2 Y
end H

set_option Elab.async false
set_option linter.all false
set_option maxRecDepth 100000
namespace H
open PySem PySem.Spec PyProof.Rows L2 Y
end H

set_option Elab.async false
set_option linter.all false
set_option maxRecDepth 100000
namespace H
open PySem PySem.Spec PyProof.Rows L2 Y
end H

set_option Elab.async false
set_option linter.all false
set_option maxRecDepth 100000
namespace H
open PySem PySem.Spec PyProof.Rows L2 Y
theorem fm_congr {α β : Type} {f g : α → List β} : ∀ {L : List α}, (∀ x ∈ L, f x = g x) → L.flatMap f = L.flatMap g
  | [], _ => rfl
  | x :: L, h => by rw [List.flatMap_cons, List.flatMap_cons, h x (by simp), fm_congr fun y hy => h y (by simp [hy])]
end H

set_option Elab.async false
set_option linter.all false
set_option maxRecDepth 100000
namespace H
open PySem PySem.Spec PyProof.Rows L2 Y
end H

set_option Elab.async false
set_option linter.all false
set_option maxRecDepth 100000
namespace H
open PySem PySem.Spec PyProof.Rows L2 Y
end H

set_option Elab.async false
set_option linter.all false
set_option maxRecDepth 100000
namespace H
open PySem PySem.Spec PyProof.Rows L2 Y
end H

set_option Elab.async false
set_option linter.all false
set_option maxRecDepth 100000
namespace H
open PySem PySem.Spec PyProof.Rows L2 Y
end H

set_option Elab.async false
set_option linter.all false
set_option maxRecDepth 100000
namespace H
open PySem PySem.Spec PyProof.Rows L2 Y
end H

set_option Elab.async false
set_option linter.all false
set_option maxRecDepth 100000
namespace H
open PySem PySem.Spec PyProof.Rows L2 Y
end H

set_option Elab.async false
set_option linter.all false
set_option maxRecDepth 100000
namespace H
open PySem PySem.Spec PyProof.Rows L2 Y
section
variable {ss : List SeT} {k : Nat}
end
end H

set_option Elab.async false
set_option linter.all false
set_option maxRecDepth 100000
namespace H
open PySem PySem.Spec PyProof.Rows L2 Y
end H

set_option Elab.async false
set_option linter.all false
set_option maxRecDepth 100000
namespace H
open PySem PySem.Spec PyProof.Rows L2 Y
end H

set_option Elab.async false
set_option linter.all false
set_option maxRecDepth 100000
namespace H
open PySem PySem.Spec PyProof.Rows L2 Y
end H

set_option Elab.async false
set_option linter.all false
set_option maxRecDepth 100000
namespace H
open PySem PySem.Spec PyProof.Rows L2 Y
end H

set_option Elab.async false
set_option linter.all false
set_option maxRecDepth 100000
namespace H
open PySem PySem.Spec PyProof.Rows L2 Y
end H

set_option Elab.async false
set_option linter.all false
set_option maxRecDepth 100000
namespace H
open PySem PySem.Spec PyProof.Rows L2 Y
end H

set_option Elab.async false
set_option linter.all false
set_option maxRecDepth 100000
namespace H
open PySem PySem.Spec PyProof.Rows L2 Y
end H

set_option Elab.async false
set_option linter.all false
set_option maxRecDepth 100000
namespace H
open PySem PySem.Spec PyProof.Rows L2 Y
end H

set_option Elab.async false
set_option linter.all false
set_option maxRecDepth 100000
namespace H
open PySem PySem.Spec PyProof.Rows L2 Y
end H

set_option Elab.async false
set_option linter.all false
set_option maxRecDepth 100000
namespace H
open PySem PySem.Spec PyProof.Rows L2 Y
section
variable {U : List (List Int)} {m : Nat}
end
end H

set_option Elab.async false
set_option linter.all false
set_option maxRecDepth 100000
namespace H
open PySem PySem.Spec PyProof.Rows L2 Y
section
variable {ss : List SeT} {m k : Nat}
end
end H

set_option Elab.async false
set_option linter.all false
set_option maxRecDepth 100000
namespace H
open PySem PySem.Spec PyProof.Rows L2 Y
section
variable {ss : List SeT} {m k : Nat}
end
end H

set_option Elab.async false
set_option linter.all false
set_option maxRecDepth 100000
namespace H
open PySem PySem.Spec PyProof.Rows L2 Y
def spB (ss : List SeT) (k bit : Int) (x : Nat) : Bool := decide ([((ss.getD x ([], 0, 0)).2.1 : Int), (ss.getD x ([], 0, 0)).2.2] = [k, bit])
def spL (ss : List SeT) (k bit : Int) : List Nat := (List.range ss.length).filter (spB ss k bit)
abbrev nD (L : List Nat) : D := .lst (L.map fun x : Nat => D.int (x : Nat))
section
variable {ss : List SeT} {m k : Nat}
end
end H

set_option Elab.async false
set_option linter.all false
set_option maxRecDepth 100000
namespace H
open PySem PySem.Spec PyProof.Rows L2 Y
section
variable {k m : Nat} {e : List Int} {s : SeT}
end
end H

set_option Elab.async false
set_option linter.all false
set_option maxRecDepth 100000
namespace H
open PySem PySem.Spec PyProof.Rows L2 Y
section
variable {k m : Nat} {e : List Int} {ss : List SeT}
end
end H

set_option Elab.async false
set_option linter.all false
set_option maxRecDepth 100000
namespace H
open PySem PySem.Spec PyProof.Rows L2 Y
section
variable {k m : Nat} {ss : List SeT}
end
end H

set_option Elab.async false
set_option linter.all false
set_option maxRecDepth 100000
namespace H
open PySem PySem.Spec PyProof.Rows L2 Y
end H

set_option Elab.async false
set_option linter.all false
set_option maxRecDepth 100000
namespace H
open PySem PySem.Spec PyProof.Rows L2 Y
end H

set_option Elab.async false
set_option linter.all false
set_option maxRecDepth 100000
namespace H
open PySem PySem.Spec PyProof.Rows L2 Y
section
variable {ss : List SeT} {m k : Nat}
end
end H

set_option Elab.async false
set_option linter.all false
set_option maxRecDepth 100000
namespace H
open PySem PySem.Spec PyProof.Rows L2 Y
def pI (p : Nat × Nat) : List Int := [(p.1 : Int), (p.2 : Int)]
section
variable {ss : List SeT} {m k : Nat}
end
end H

set_option Elab.async false
set_option linter.all false
set_option maxRecDepth 100000
namespace H
open PySem PySem.Spec PyProof.Rows L2 Y
section
variable {ss : List SeT} {m k : Nat}
end
end H

set_option Elab.async false
set_option linter.all false
set_option maxRecDepth 100000
namespace H
open PySem PySem.Spec PyProof.Rows L2 Y
section
variable {ss : List SeT} {m k : Nat} {PL : List (Nat × Nat)}
end
end H

set_option Elab.async false
set_option linter.all false
set_option maxRecDepth 100000
namespace H
open PySem PySem.Spec PyProof.Rows L2 Y
section
variable {k m : Nat} {e : List Int} {ss : List SeT}
end
end H

set_option Elab.async false
set_option linter.all false
set_option maxRecDepth 100000
namespace H
open PySem PySem.Spec PyProof.Rows L2 Y
section
variable {k m : Nat} {e : List Int} {ss : List SeT}
end
end H

set_option Elab.async false
set_option linter.all false
set_option maxRecDepth 100000
namespace H
open PySem PySem.Spec PyProof.Rows L2 Y
section
variable {r : RuleT}
end
section
variable {ns : List RuleT} {most k : Nat} {ss : List SeT}
end
end H

set_option Elab.async false
set_option linter.all false
set_option maxRecDepth 100000
namespace H
open PySem PySem.Spec PyProof.Rows L2 Y
theorem getD_lt {α : Type} {xs : List α} {i : Nat} {d : α} (h : i < xs.length) : xs.getD i d = xs[i] := by
  rw [List.getD_eq_getElem?_getD, List.getElem?_eq_getElem h]; rfl
section
variable {r : RuleT}
end
section
variable {ns : List RuleT} {most : Nat}
end
end H

set_option Elab.async false
set_option linter.all false
set_option maxRecDepth 100000
namespace H
open PySem PySem.Spec PyProof.Rows L2 Y
section
variable {ns : List RuleT} {most k : Nat}
/-- what stands at a key -/
def lkI : List Int → List Int → Int → Int
  | e :: E, v :: V, k => if e = k then v else lkI E V k
  | _, _, _ => 0
theorem lkI_bit : ∀ {E V : List Int} {k : Int}, (∀ x ∈ V, 0 ≤ x ∧ x < 2) → 0 ≤ lkI E V k ∧ lkI E V k < 2
  | [], V, k, h => by cases V <;> exact ⟨Int.le_refl _, by show (0 : Int) < 2; decide⟩
  | e :: E, [], k, h => ⟨Int.le_refl _, by show (0 : Int) < 2; decide⟩
  | e :: E, v :: V, k, h => by
    show 0 ≤ (if e = k then v else lkI E V k) ∧ (if e = k then v else lkI E V k) < 2
    split
    · exact h v (by simp)
    · exact lkI_bit fun x hx => h x (by simp [hx])
end
end H

set_option Elab.async false
set_option linter.all false
set_option maxRecDepth 100000
namespace H
open PySem PySem.Spec PyProof.Rows L2 Y
section
variable {ns : List RuleT} {most k : Nat}
end
end H

set_option Elab.async false
set_option linter.all false
set_option maxRecDepth 100000
namespace H
open PySem PySem.Spec PyProof.Rows L2 Y
end H

set_option Elab.async false
set_option linter.all false
set_option maxRecDepth 100000
namespace H
open PySem PySem.Spec PyProof.Rows L2 Y
section
variable {m : Nat}
end
end H

set_option Elab.async false
set_option linter.all false
set_option maxRecDepth 100000
namespace H
open PySem PySem.Spec PyProof.Rows L2 Y
end H

set_option Elab.async false
set_option linter.all false
set_option maxRecDepth 100000
namespace H
open PySem PySem.Spec PyProof.Rows L2 Y
abbrev dkI (E V : List Int) : D := .dik (kt E) (V.map D.int)
theorem find_in : ∀ {E V : List Int} {k : Int}, E.length = V.length → k ∈ E → findD (kt E) (V.map D.int) (Sum.inl k) = some (.int (lkI E V k))
  | [], V, k, _, h => by simp at h
  | e :: E, [], k, h, _ => by simp at h
  | e :: E, v :: V, k, h, hk => by
    show (if (Sum.inl e : Key) = Sum.inl k then some (D.int v) else findD (kt E) (V.map D.int) (Sum.inl k)) = some (D.int (if e = k then v else lkI E V k))
    by_cases c : e = k
    · rw [if_pos (by rw [c]), if_pos c]
    · rw [if_neg (fun z => c (Sum.inl.inj z)), if_neg c]
      exact find_in (by simpa using h) ((List.mem_cons.mp hk).resolve_left fun z => c z.symm)
end H

set_option Elab.async false
set_option linter.all false
set_option maxRecDepth 100000
set_option maxHeartbeats 2000000
namespace H
open PySem PySem.Spec PyProof.Rows L2 Y
theorem s_spQ : Str.ofString " " = tx [32] := by decide +kernel
theorem s_figQ : Str.ofString "01234567" = tx [48, 49, 50, 51, 52, 53, 54, 55] := by decide +kernel
theorem s_bitQ : Str.ofString "01" = tx [48, 49] := by decide +kernel
theorem str_digQ : ((List.range 10).all fun k => decide (Str.ofString (toString (k : Int)) = tx [48 + k])) = true := by decide +kernel
theorem str_intQ {k : Nat} (h : k < 10) : strOfD [.int (k : Nat)] = .ok (dt [48 + k]) := by
  have e := str_digQ
  rw [List.all_eq_true] at e
  have e := of_decide_eq_true (e k (List.mem_range.mpr h))
  show (if (k : Int).natAbs.log2 < 1920 then R.ok (D.str (Str.ofString (toString (k : Int)))) else .stk) = _
  rw [if_pos (by
    have : (k : Int).natAbs = k := rfl
    rw [this]
    have : k.log2 ≤ k := Nat.log2_le_self k
    omega), e]
theorem join_dtQ {sep : List Nat} {xs : List (List Nat)} (h : (xs.map List.length).sum + xs.length * sep.length ≤ 16777216) : joinD (dt sep) (.lst (xs.map dt)) = .ok (dt (TL.joinL sep xs)) := by
  have e1 : xs.map dt = (xs.map tx).map D.str := by rw [List.map_map]; rfl
  rw [e1, joinD_lst, strs_of (f := fun x : Str => x), List.map_id']
  have e2 : ((xs.map tx).map (·.length)).sum = (xs.map List.length).sum := by
    rw [List.map_map]
    exact congrArg List.sum (List.map_congr_left fun x _ => tx_len)
  show (if ((xs.map tx).map (·.length)).sum + (xs.map tx).length * (tx sep).length ≤ 16777216 then R.ok (D.str (Txt.join (tx sep) (xs.map tx))) else .stk) = _
  rw [if_pos (by rw [e2, List.length_map, tx_len]; exact h)]
  exact congrArg (fun s => R.ok (D.str s)) (SX.join_S sep xs)
inductive Tk where
  | num (k : Nat) | sg (c : Nat)
deriving DecidableEq
def dTk : Tk → D
  | .num k => .int (k : Nat)
  | .sg c => dt [c]
def opsL : List Nat := [48, 49, 33, 38, 94, 124, 40, 41]
def figL : List Nat := [48, 49, 50, 51, 52, 53, 54, 55]
def lexF : Nat → List Nat → Option (List Tk)
  | 0, _ => some []
  | _ + 1, [] => some []
  | n + 1, c :: r => if c = 115 then (match r with
      | [] => none
      | e :: r2 => if e ∈ figL then (lexF n r2).map (Tk.num (e - 48) :: ·) else none)
    else if c ∈ opsL then (lexF n r).map (Tk.sg c :: ·) else if c = 32 then lexF n r else none
theorem lexF_up : ∀ {n : Nat} {cs : List Nat}, cs.length ≤ n → lexF (n + 1) cs = lexF n cs
  | 0, [], _ => rfl
  | n + 1, [], _ => rfl
  | n + 1, c :: r, h => by
    rw [List.length_cons] at h
    have ih := lexF_up (n := n) (cs := r) (by omega)
    conv => lhs; unfold lexF
    conv => rhs; unfold lexF
    cases r with
    | nil => rw [ih]
    | cons e r2 =>
      have ih2 := lexF_up (n := n) (cs := r2) (by simp at h; omega)
      simp only [ih, ih2]
def lexN (cs : List Nat) : Option (List Tk) := lexF cs.length cs
theorem lexF_eq {n : Nat} {cs : List Nat} (h : cs.length ≤ n) : lexF n cs = lexN cs := by
  obtain ⟨m, rfl⟩ : ∃ m, n = cs.length + m := ⟨n - cs.length, by omega⟩
  induction m with
  | zero => rfl
  | succ m ih => rw [← Nat.add_assoc, lexF_up (by omega)]; exact ih (by omega)
theorem lex_nil : lexN [] = some [] := rfl
theorem lex_s {e : Nat} {r : List Nat} (h : e ∈ figL) : lexN (115 :: e :: r) = (lexN r).map (Tk.num (e - 48) :: ·) := by
  show lexF ((e :: r).length + 1) (115 :: e :: r) = _
  unfold lexF
  rw [if_pos rfl]
  show (if e ∈ figL then (lexF (e :: r).length r).map _ else none) = _
  rw [if_pos h, lexF_eq (by simp)]
theorem lex_s0 : lexN [115] = none := rfl
theorem lex_sx {e : Nat} {r : List Nat} (h : e ∉ figL) : lexN (115 :: e :: r) = none := by
  show lexF ((e :: r).length + 1) (115 :: e :: r) = _
  unfold lexF
  rw [if_pos rfl]
  show (if e ∈ figL then _ else none) = _
  rw [if_neg h]
theorem lex_op {c : Nat} {r : List Nat} (h : c ∈ opsL) : lexN (c :: r) = (lexN r).map (Tk.sg c :: ·) := by
  have h1 : c ≠ 115 := fun z => by rw [z] at h; simp [opsL] at h
  show lexF (r.length + 1) (c :: r) = _
  unfold lexF
  rw [if_neg h1, if_pos h]
  rfl
theorem lex_sp {r : List Nat} : lexN (32 :: r) = lexN r := by
  show lexF (r.length + 1) (32 :: r) = _
  unfold lexF
  rw [if_neg (by omega), if_neg (by simp [opsL]), if_pos rfl]
  rfl
theorem lex_bad {c : Nat} {r : List Nat} (h1 : c ≠ 115) (h2 : c ∉ opsL) (h3 : c ≠ 32) : lexN (c :: r) = none := by
  show lexF (r.length + 1) (c :: r) = _
  unfold lexF
  rw [if_neg h1, if_neg h2, if_neg h3]
theorem sWhile_is {t : BM} {body : SM} {vs : List Nat} {n : Nat} {ρ : Y.Env} {r : Y.R (Fl × Y.Env)} (hr : r ≠ .stk) (h : whileN t body vs n ρ = r) : sWhile t body vs ρ = r := by
  have hx : ∃ n, whileN t body vs n ρ ≠ .stk := ⟨n, by rw [h]; exact hr⟩
  unfold sWhile
  rw [dif_pos hx]
  have h2 := hx.choose_spec
  rcases Nat.le_total n hx.choose with l | l
  · obtain ⟨m, e⟩ := Nat.exists_eq_add_of_le l
    rw [e, whileN_le (by rw [h]; exact hr), h]
  · obtain ⟨m, e⟩ := Nat.exists_eq_add_of_le l
    rw [← whileN_le h2 m, ← e, h]
theorem wh_step {t : BM} {body : SM} {vs : List Nat} {n : Nat} {ρ ρ1 ρ2 : Y.Env} (h1 : t ρ = .ok (true, ρ1)) (h2 : body ρ1 = .ok (.nx, ρ2)) : whileN t body vs (n + 1) ρ = whileN t body vs n (wipeE ρ2 vs) := by
  conv => lhs; unfold whileN
  rw [h1]
  simp only [R.bind_ok, if_true]
  rw [h2]
  rfl
theorem wh_er {t : BM} {body : SM} {vs : List Nat} {n : Nat} {ρ ρ1 : Y.Env} {c : Str} {ds : List D} (h1 : t ρ = .ok (true, ρ1)) (h2 : body ρ1 = .er c ds) : whileN t body vs (n + 1) ρ = .er c ds := by
  conv => lhs; unfold whileN
  rw [h1]
  simp only [R.bind_ok, if_true]
  rw [h2]
  rfl
theorem wh_stop {t : BM} {body : SM} {vs : List Nat} {n : Nat} {ρ ρ1 : Y.Env} (h1 : t ρ = .ok (false, ρ1)) : whileN t body vs (n + 1) ρ = .ok (.nx, ρ1) := by
  unfold whileN
  rw [h1]
  rfl
theorem s_s : Str.ofString "s" = tx [115] := by decide +kernel
theorem s_ops : Str.ofString "01!&^|()" = tx [48, 49, 33, 38, 94, 124, 40, 41] := by decide +kernel
theorem len_dtQ {l : List Nat} (h : l.length ≤ 16777216) : lenD [dt l] = .ok (.int l.length) := by
  have : lenD [.str (tx l)] = .ok (.int (tx l).length) := by simp [tx_len, szOk_of h]
  rw [tx_len] at this
  exact this
theorem slice_1 {l : List Nat} {k : Nat} (h : l.length ≤ 16777216) : sliceD (dt l) (some (k : Int)) (some ((k : Int) + 1)) = .ok (dt ((l.drop k).take 1)) := by
  show (if szOk (tx l).length = true then R.ok (D.str (cutS (tx l) (some (k : Int)) (some ((k : Int) + 1)))) else .stk) = _
  rw [tx_len, if_pos (szOk_of h)]
  have : cutS (tx l) (some (k : Int)) (some ((k + 1 : Nat) : Int)) = tx ((l.drop k).take 1) := by
    unfold cutS
    rw [HT.sIx_nat, HT.sIx_nat, tx_len]
    show tx _ = _
    rw [tx_inj]
    by_cases c : k < l.length
    · rw [Nat.min_eq_left (by omega), Nat.min_eq_left (by omega)]
      rw [show k + 1 - k = 1 by omega]
    · rw [Nat.min_eq_right (by omega), Nat.min_eq_right (by omega), List.drop_of_length_le (by simp), List.drop_of_length_le (by omega)]
      simp
  rw [show ((k : Int) + 1) = ((k + 1 : Nat) : Int) by omega, this]
theorem int_fig {e : Nat} (h : e ∈ figL) : intOfD [dt [e]] = .ok (.int ((e - 48 : Nat) : Int)) := by
  simp only [figL, List.mem_cons, List.not_mem_nil, or_false] at h
  rcases h with rfl | rfl | rfl | rfl | rfl | rfl | rfl | rfl <;> rfl
theorem nin_text {c : Nat} {l : List Nat} : ninD (dt [c]) (dt l) = .ok (.bl (!decide (c ∈ l))) := by
  have := in_text (c := c) (l := l)
  unfold inD at this
  unfold ninD
  cases e : inB (dt [c]) (dt l) with
  | none => rw [e] at this; cases this
  | some b =>
    rw [e] at this
    have : b = decide (c ∈ l) := by
      have := R.ok.inj this
      exact D.bl.inj this
    rw [this]
theorem parts_go {cs : List Nat} (hc : ∀ c ∈ cs, c < 1000) (hl : cs.length ≤ 100000) : ∀ (n at_ : Nat) (L : List D), cs.length - at_ ≤ n → at_ ≤ cs.length → L.length + (cs.length - at_) ≤ 100000 →
    ∃ N, whileN (cBl (cOp ltD (cVar 2) (cCall lenD (cCons (cVar 0) (cNil))))) C.b_parts_in_1 [3] N [some (dt cs), some (.lst L), some (.int at_), none] =
      (match lexN (cs.drop at_) with | some ts => .ok (.nx, [some (dt cs), some (.lst (L ++ ts.map dTk)), some (.int cs.length), none]) | none => .er "NoRule" [])
  | n, at_, L, hn, ha, hL => by
    have ln := len_dtQ (l := cs) (by omega)
    by_cases c0 : at_ = cs.length
    · subst c0
      rw [List.drop_length]
      refine ⟨1, ?_⟩
      show _ = R.ok (Fl.nx, [some (dt cs), some (.lst (L ++ [])), some (.int cs.length), none])
      rw [List.append_nil]
      refine wh_stop ?_
      generalize dt cs = T at *
      simp [ln, -d_lenT]
    · have hat : at_ < cs.length := by omega
      match n, hn with
      | 0, hn => omega
      | n + 1, hn =>
        have t : cBl (cOp ltD (cVar 2) (cCall lenD (cCons (cVar 0) (cNil)))) [some (dt cs), some (.lst L), some (.int at_), none] = .ok (true, [some (dt cs), some (.lst L), some (.int at_), none]) := by
          have : (at_ : Int) < (cs.length : Int) := by omega
          generalize dt cs = T at *
          generalize (cs.length : Int) = LN at *
          simp [ln, this, -d_lenT]
        have ix := ix_dt (l := cs) (k := at_) hat (by omega)
        have ed : cs.drop at_ = cs.getD at_ 0 :: cs.drop (at_ + 1) := by
          rw [List.drop_eq_getElem_cons hat, List.getD_eq_getElem?_getD, List.getElem?_eq_getElem hat]
          rfl
        have hcm : cs.getD at_ 0 ∈ cs := by
          rw [List.getD_eq_getElem?_getD, List.getElem?_eq_getElem hat]
          exact List.getElem_mem hat
        have hc1 := hc _ hcm
        rw [ed]
        have s1 : SgOk [cs.getD at_ 0] := fun x hx => by rw [List.mem_singleton] at hx; omega
        have e1 := eq_dt (a := [cs.getD at_ 0]) (b := [115]) s1 (fun x hx => by rw [List.mem_singleton] at hx; omega)
        have i1 := in_text (c := cs.getD at_ 0) (l := [48, 49, 33, 38, 94, 124, 40, 41])
        have n1 := ne_dt (a := [cs.getD at_ 0]) (b := [32]) s1 (fun x hx => by rw [List.mem_singleton] at hx; omega)
        have zL : szOk (L.length + 1) = true := szOk_of (by omega)
        have ia : ((at_ : Int) + 1) = ((at_ + 1 : Nat) : Int) := by omega
        generalize hcc : cs.getD at_ 0 = c at *
        by_cases c1 : c = 115
        · subst c1
          rw [decide_eq_true rfl] at e1
          have sl := slice_1 (l := cs) (k := at_ + 1) (by omega)
          have i2 : (((at_ + 1 : Nat) : Int) + 1) = ((at_ + 2 : Nat) : Int) := by omega
          by_cases c2 : at_ + 1 < cs.length
          · have ed2 : cs.drop (at_ + 1) = cs.getD (at_ + 1) 0 :: cs.drop (at_ + 2) := by
              rw [List.drop_eq_getElem_cons c2, List.getD_eq_getElem?_getD, List.getElem?_eq_getElem c2]
              rfl
            have ix2 := ix_dt (l := cs) (k := at_ + 1) c2 (by omega)
            have hem : cs.getD (at_ + 1) 0 ∈ cs := by
              rw [List.getD_eq_getElem?_getD, List.getElem?_eq_getElem c2]
              exact List.getElem_mem c2
            have he1 := hc _ hem
            rw [ed2] at sl ⊢
            have sl : sliceD (dt cs) (some ((at_ + 1 : Nat) : Int)) (some (((at_ + 1 : Nat) : Int) + 1)) = .ok (dt [cs.getD (at_ + 1) 0]) := sl
            have e2 := eq_dt (a := [cs.getD (at_ + 1) 0]) (b := []) (fun x hx => by rw [List.mem_singleton] at hx; omega) (fun x hx => by cases hx)
            have n2 := nin_text (c := cs.getD (at_ + 1) 0) (l := figL)
            have n2 : ninD (dt [cs.getD (at_ + 1) 0]) (dt [48, 49, 50, 51, 52, 53, 54, 55]) = _ := n2
            generalize cs.getD (at_ + 1) 0 = e at *
            have e2 : eqD (dt [e]) (dt []) = .ok (.bl false) := by rw [e2]; simp
            by_cases c3 : e ∈ figL
            · rw [decide_eq_true c3] at n2
              have io := int_fig c3
              rw [lex_s c3]
              obtain ⟨N, hN⟩ := parts_go hc hl n (at_ + 2) (L ++ [.int ((e - 48 : Nat) : Int)]) (by omega) (by omega) (by simp; omega)
              have b : C.b_parts_in_1 [some (dt cs), some (.lst L), some (.int at_), none] = .ok (.nx, [some (dt cs), some (.lst (L ++ [.int ((e - 48 : Nat) : Int)])), some (.int ((at_ + 2 : Nat) : Int)), some (dt [115])]) := by
                simp only [C.b_parts_in_1, s_s, s_none, s_figQ, s_ops, s_spQ]
                simp only [dt] at *
                generalize D.str (tx [48, 49, 50, 51, 52, 53, 54, 55]) = S8 at *
                generalize D.str (tx [48, 49, 33, 38, 94, 124, 40, 41]) = S7 at *
                generalize D.str (tx [115]) = S6 at *
                generalize D.str (tx []) = S5 at *
                generalize D.str (tx [32]) = S4 at *
                try rw [i2] at sl
                try generalize ((at_ + 2 : Nat) : Int) = A2 at *
                generalize ((at_ + 1 : Nat) : Int) = A1 at *
                generalize ((e - 48 : Nat) : Int) = ek at *
                generalize D.str (tx cs) = T at *
                generalize D.str (tx [e]) = DE at *
                simp [ix, e1, ia, i2, sl, e2, ix2, n2, io, zL]
              refine ⟨N + 1, ?_⟩
              rw [wh_step t b]
              refine Eq.trans hN ?_
              cases lexN (cs.drop (at_ + 2)) with
              | none => rfl
              | some ts =>
                show R.ok (Fl.nx, [_, some (D.lst ((L ++ [_]) ++ ts.map dTk)), _, _]) = R.ok (Fl.nx, [_, some (D.lst (L ++ (Tk.num (e - 48) :: ts).map dTk)), _, _])
                rw [List.append_assoc]; rfl
            · rw [decide_eq_false c3] at n2
              rw [lex_sx c3]
              refine ⟨1, wh_er t ?_⟩
              simp only [C.b_parts_in_1, s_s, s_none, s_figQ, s_ops, s_spQ]
              simp only [dt] at *
              generalize D.str (tx [48, 49, 50, 51, 52, 53, 54, 55]) = S8 at *
              generalize D.str (tx [48, 49, 33, 38, 94, 124, 40, 41]) = S7 at *
              generalize D.str (tx [115]) = S6 at *
              generalize D.str (tx []) = S5 at *
              generalize D.str (tx [32]) = S4 at *
              try rw [i2] at sl
              try generalize ((at_ + 2 : Nat) : Int) = A2 at *
              generalize ((at_ + 1 : Nat) : Int) = A1 at *
              generalize D.str (tx cs) = T at *
              generalize D.str (tx [e]) = DE at *
              simp [ix, e1, ia, i2, sl, e2, ix2, n2]
          · have ed2 : cs.drop (at_ + 1) = [] := List.drop_of_length_le (by omega)
            rw [ed2] at sl ⊢
            rw [lex_s0]
            have sl : sliceD (dt cs) (some ((at_ + 1 : Nat) : Int)) (some (((at_ + 1 : Nat) : Int) + 1)) = .ok (dt []) := sl
            have e2 : eqD (dt []) (dt []) = .ok (.bl true) := by
              rw [eq_dt (fun x hx => by cases hx) (fun x hx => by cases hx)]; simp
            refine ⟨1, wh_er t ?_⟩
            simp only [C.b_parts_in_1, s_s, s_none, s_figQ, s_ops, s_spQ]
            simp only [dt] at *
            generalize D.str (tx [48, 49, 50, 51, 52, 53, 54, 55]) = S8 at *
            generalize D.str (tx [48, 49, 33, 38, 94, 124, 40, 41]) = S7 at *
            generalize D.str (tx [115]) = S6 at *
            generalize D.str (tx []) = S5 at *
            generalize D.str (tx [32]) = S4 at *
            try rw [i2] at sl
            try generalize ((at_ + 2 : Nat) : Int) = A2 at *
            generalize ((at_ + 1 : Nat) : Int) = A1 at *
            generalize D.str (tx cs) = T at *
            simp [ix, e1, ia, i2, sl, e2]
        · have e1 : eqD (dt [c]) (dt [115]) = .ok (.bl false) := by rw [e1]; simp [c1]
          by_cases c2 : c ∈ opsL
          · have i1 : inD (dt [c]) (dt [48, 49, 33, 38, 94, 124, 40, 41]) = .ok (.bl true) := by rw [i1]; exact congrArg (fun b => R.ok (D.bl b)) (decide_eq_true c2)
            rw [lex_op c2]
            obtain ⟨N, hN⟩ := parts_go hc hl n (at_ + 1) (L ++ [dt [c]]) (by omega) (by omega) (by simp; omega)
            have b : C.b_parts_in_1 [some (dt cs), some (.lst L), some (.int at_), none] = .ok (.nx, [some (dt cs), some (.lst (L ++ [dt [c]])), some (.int ((at_ + 1 : Nat) : Int)), some (dt [c])]) := by
              have nl : (dt [c]).nl = true := rfl
              simp only [C.b_parts_in_1, s_s, s_none, s_figQ, s_ops, s_spQ]
              simp only [dt] at *
              generalize D.str (tx [48, 49, 50, 51, 52, 53, 54, 55]) = S8 at *
              generalize D.str (tx [48, 49, 33, 38, 94, 124, 40, 41]) = S7 at *
              generalize D.str (tx [115]) = S6 at *
              generalize D.str (tx []) = S5 at *
              generalize D.str (tx [32]) = S4 at *
              try rw [i2] at sl
              try generalize ((at_ + 2 : Nat) : Int) = A2 at *
              generalize ((at_ + 1 : Nat) : Int) = A1 at *
              generalize D.str (tx cs) = T at *
              generalize D.str (tx [c]) = DC at *
              simp [ix, e1, ia, i1, zL, nl]
            refine ⟨N + 1, ?_⟩
            rw [wh_step t b]
            refine Eq.trans hN ?_
            cases lexN (cs.drop (at_ + 1)) with
            | none => rfl
            | some ts =>
              show R.ok (Fl.nx, [_, some (D.lst ((L ++ [_]) ++ ts.map dTk)), _, _]) = R.ok (Fl.nx, [_, some (D.lst (L ++ (Tk.sg c :: ts).map dTk)), _, _])
              rw [List.append_assoc]; rfl
          · have i1 : inD (dt [c]) (dt [48, 49, 33, 38, 94, 124, 40, 41]) = .ok (.bl false) := by rw [i1]; exact congrArg (fun b => R.ok (D.bl b)) (decide_eq_false c2)
            by_cases c3 : c = 32
            · subst c3
              rw [lex_sp]
              have n1 : neD (dt [32]) (dt [32]) = .ok (.bl false) := by rw [n1]; simp
              obtain ⟨N, hN⟩ := parts_go hc hl n (at_ + 1) L (by omega) (by omega) (by omega)
              have b : C.b_parts_in_1 [some (dt cs), some (.lst L), some (.int at_), none] = .ok (.nx, [some (dt cs), some (.lst L), some (.int ((at_ + 1 : Nat) : Int)), some (dt [32])]) := by
                simp only [C.b_parts_in_1, s_s, s_none, s_figQ, s_ops, s_spQ]
                simp only [dt] at *
                generalize D.str (tx [48, 49, 50, 51, 52, 53, 54, 55]) = S8 at *
                generalize D.str (tx [48, 49, 33, 38, 94, 124, 40, 41]) = S7 at *
                generalize D.str (tx [115]) = S6 at *
                generalize D.str (tx []) = S5 at *
                generalize D.str (tx [32]) = S4 at *
                try rw [i2] at sl
                try generalize ((at_ + 2 : Nat) : Int) = A2 at *
                generalize ((at_ + 1 : Nat) : Int) = A1 at *
                generalize D.str (tx cs) = T at *
                simp [ix, e1, ia, i1, n1]
              refine ⟨N + 1, ?_⟩
              rw [wh_step t b]
              exact hN
            · rw [lex_bad c1 c2 c3]
              have n1 : neD (dt [c]) (dt [32]) = .ok (.bl true) := by rw [n1]; simp [c3]
              refine ⟨1, wh_er t ?_⟩
              simp only [C.b_parts_in_1, s_s, s_none, s_figQ, s_ops, s_spQ]
              simp only [dt] at *
              generalize D.str (tx [48, 49, 50, 51, 52, 53, 54, 55]) = S8 at *
              generalize D.str (tx [48, 49, 33, 38, 94, 124, 40, 41]) = S7 at *
              generalize D.str (tx [115]) = S6 at *
              generalize D.str (tx []) = S5 at *
              generalize D.str (tx [32]) = S4 at *
              try rw [i2] at sl
              try generalize ((at_ + 2 : Nat) : Int) = A2 at *
              generalize ((at_ + 1 : Nat) : Int) = A1 at *
              generalize D.str (tx cs) = T at *
              generalize D.str (tx [c]) = DC at *
              simp [ix, e1, ia, i1, n1]
theorem parts_ok {cs : List Nat} (hc : ∀ c ∈ cs, c < 1000) (hl : cs.length ≤ 100000) : C.g_parts_in [dt cs] = (match lexN cs with | some ts => .ok (.fr (.lst (ts.map dTk))) | none => .er "NoRule" []) := by
  obtain ⟨N, hN⟩ := parts_go hc hl cs.length 0 [] (by omega) (by omega) (by simp; omega)
  rw [List.drop_zero] at hN
  have hw := sWhile_is (by cases lexN cs <;> (intro z; cases z)) hN
  have hw : sWhile (cBl (cOp ltD (cVar 2) (cCall lenD (cCons (cVar 0) (cNil))))) C.b_parts_in_1 [3] [some (dt cs), some (.lst []), some (.int 0), none] = _ := hw
  simp only [C.g_parts_in, C.m_parts_in]
  generalize C.b_parts_in_1 = B1 at *
  generalize dt cs = T at *
  cases e : lexN cs with
  | none =>
    rw [e] at hw
    simp [e_fnP, hw, shAt, chkO_ws, szOk_of]
  | some ts =>
    rw [e] at hw
    have hw : sWhile (cBl (cOp ltD (cVar 2) (cCall lenD (cCons (cVar 0) (cNil))))) B1 [3] [some T, some (.lst []), some (.int 0), none] = .ok (.nx, [some T, some (.lst (ts.map dTk)), some (.int cs.length), none]) := hw
    simp [e_fnP, hw, shAt, chkO_ws, szOk_of]
end H

set_option Elab.async false
set_option linter.all false
set_option maxRecDepth 100000
set_option maxHeartbeats 2000000
namespace H
open PySem PySem.Spec PyProof.Rows L2 Y
def stR (c : Nat) : Nat := if c = 33 then 4 else if c = 38 then 3 else if c = 94 then 2 else if c = 124 then 1 else 0
def closeW : List Tk → List Nat → Option (List Tk × List Nat)
  | _, [] => none
  | f, c :: w => if c = 40 then some (f, w) else closeW (f ++ [.sg c]) w
def popW (s : Nat) : List Tk → List Nat → List Tk × List Nat
  | f, [] => (f, [])
  | f, c :: w => if s ≤ stR c then popW s (f ++ [.sg c]) w else (f, c :: w)
structure StW where
  f : List Tk
  w : List Nat
  o : Bool
def beginB : Tk → Bool
  | .num _ => true
  | .sg c => decide (c ∈ [48, 49, 33, 40])
def stepB (s : StW) : Tk → Option StW
  | .num k => some ⟨s.f ++ [.num k], s.w, false⟩
  | .sg c => if c ∈ [48, 49] then some ⟨s.f ++ [.sg c], s.w, false⟩ else if c ∈ [33, 40] then some ⟨s.f, c :: s.w, s.o⟩ else if c = 41 then (closeW s.f s.w).map fun p => ⟨p.1, p.2, s.o⟩
    else some ⟨(popW (stR c) s.f s.w).1, c :: (popW (stR c) s.f s.w).2, true⟩
def stepTk (s : StW) (t : Tk) : Option StW := if beginB t = s.o then stepB s t else none
def runT : StW → List Tk → Option StW
  | s, [] => some s
  | s, t :: ts => (stepTk s t).bind fun s' => runT s' ts
def turnP (ts : List Tk) : Option (List Tk) := (runT ⟨[], [], true⟩ ts).bind fun s => if s.o = true ∨ 40 ∈ s.w then none else some (s.f ++ s.w.map .sg)
def WOkQ (w : List Nat) : Prop := ∀ c ∈ w, c ∈ [33, 38, 94, 124, 40]
def TOk : Tk → Prop
  | .num k => k < 8
  | .sg c => c ∈ opsL
abbrev dc (c : Nat) : D := dt [c]
abbrev wD (w : List Nat) : D := .lst (w.reverse.map dc)
abbrev fD (f : List Tk) : D := .lst (f.map dTk)
theorem wD_cons {c : Nat} {w : List Nat} : wD (c :: w) = .lst (w.reverse.map dc ++ [dc c]) := by
  show D.lst _ = _
  rw [List.reverse_cons, List.map_append]; rfl
theorem ne_dcs {xs : List Nat} (h : ∀ c ∈ xs, c < 1000) : neD (.lst (xs.map dc)) (.lst []) = .ok (.bl (!xs.isEmpty)) := by
  have e : xs.map dc = (xs.map fun c => [c]).map dt := by rw [List.map_map]; rfl
  have s : ∀ x ∈ xs.map (fun c => [c]), SgOk x := fun x hx => by
    obtain ⟨c, hc, rfl⟩ := List.mem_map.mp hx
    intro y hy
    rw [List.mem_singleton] at hy
    have := h c hc
    omega
  have h2 := neD_of (n := 2) (x := .lst ((xs.map fun c => [c]).map dt)) (y := .lst (([] : List (List Nat)).map dt)) (fit_ldt s) (fit_ldt fun _ h => by cases h)
  rw [e]
  refine Eq.trans h2 ?_
  rw [eqP_lst]
  cases xs <;> rfl
theorem eq_dcs {xs : List Nat} (h : ∀ c ∈ xs, c < 1000) : eqD (.lst (xs.map dc)) (.lst []) = .ok (.bl xs.isEmpty) := by
  have e : xs.map dc = (xs.map fun c => [c]).map dt := by rw [List.map_map]; rfl
  have s : ∀ x ∈ xs.map (fun c => [c]), SgOk x := fun x hx => by
    obtain ⟨c, hc, rfl⟩ := List.mem_map.mp hx
    intro y hy
    rw [List.mem_singleton] at hy
    have := h c hc
    omega
  have h2 := eqD_of (n := 2) (x := .lst ((xs.map fun c => [c]).map dt)) (y := .lst (([] : List (List Nat)).map dt)) (fit_ldt s) (fit_ldt fun _ h => by cases h)
  rw [e]
  refine Eq.trans h2 ?_
  rw [eqP_lst]
  cases xs <;> rfl
theorem WOkQ.lt {w : List Nat} (h : WOkQ w) : ∀ c ∈ w.reverse, c < 1000 := fun c hc => by
  have := h c (List.mem_reverse.mp hc)
  simp only [List.mem_cons, List.not_mem_nil, or_false] at this
  omega
theorem atI_last {xs : List D} {x : D} : atI (xs ++ [x]) (-1) = some x := by
  unfold atI ixN
  rw [if_neg (by omega)]
  have h : -(((xs ++ [x]).length : Nat) : Int) ≤ -1 := by simp; omega
  rw [if_pos h]
  have e : ((-1 : Int) + (xs ++ [x]).length).toNat = xs.length := by simp; omega
  show (xs ++ [x])[_]? = _
  rw [e]
  simp
theorem pop_last {xs : List D} {x : D} : (xs ++ [x])[(xs ++ [x]).length - 1]? = some x ∧ (xs ++ [x]).dropLast = xs := by
  refine ⟨?_, by simp⟩
  rw [List.length_append]
  simp
theorem s_open : Str.ofString "(" = tx [40] := by decide +kernel
theorem s_shut : Str.ofString ")" = tx [41] := by decide +kernel
theorem s_not : Str.ofString "!" = tx [33] := by decide +kernel
theorem s_and : Str.ofString "&" = tx [38] := by decide +kernel
theorem s_xor : Str.ofString "^" = tx [94] := by decide +kernel
theorem s_01nb : Str.ofString "01!(" = tx [48, 49, 33, 40] := by decide +kernel
theorem s_nb : Str.ofString "!(" = tx [33, 40] := by decide +kernel
theorem close_go : ∀ (w : List Nat) (f : List Tk), WOkQ w → f.length + w.length ≤ 100000 →
    ∃ N, whileN (cAndT (cBl (cOp neD (cOwn 0) (cLst (cNil)))) (cBl (cOp neD (cIx (cOwn 0) (cNeg (cC (.int 1)))) (cC (.str "("))))) C.b_close_bracket_1 [] N [some (wD w), some (fD f)] =
      (match closeW f w with | some (f', w') => .ok (.nx, [some (wD (40 :: w')), some (fD f')]) | none => .ok (.nx, [some (wD []), some (fD (f ++ w.map .sg))]))
  | [], f, hw, hl => by
    refine ⟨1, ?_⟩
    show _ = R.ok (Fl.nx, [some (wD []), some (fD (f ++ []))])
    rw [List.append_nil]
    have n1 := ne_dcs (xs := []) (fun _ h => by cases h)
    have n1 : neD (.lst []) (.lst []) = .ok (.bl false) := n1
    refine wh_stop ?_
    show cAndT _ _ [some (.lst []), some (fD f)] = R.ok (false, [some (.lst []), some (fD f)])
    generalize fD f = F
    simp [n1]
  | c :: w, f, hw, hl => by
    rw [List.length_cons] at hl
    have hc := hw c (by simp)
    have hc1 : c < 1000 := by
      simp only [List.mem_cons, List.not_mem_nil, or_false] at hc
      omega
    have n1 := ne_dcs (xs := (c :: w).reverse) hw.lt
    have e0 : (c :: w).reverse.isEmpty = false := by simp
    rw [e0] at n1
    have n1 : neD (wD (c :: w)) (.lst []) = .ok (.bl true) := n1
    have at1 := atI_last (xs := w.reverse.map dc) (x := dc c)
    obtain ⟨p1, p2⟩ := pop_last (xs := w.reverse.map dc) (x := dc c)
    have n2 := ne_dt (a := [c]) (b := [40]) (fun x hx => by rw [List.mem_singleton] at hx; omega) (fun x hx => by rw [List.mem_singleton] at hx; omega)
    rw [wD_cons] at n1 ⊢
    by_cases c1 : c = 40
    · subst c1
      refine ⟨1, ?_⟩
      show _ = R.ok (Fl.nx, [some (wD (40 :: w)), some (fD f)])
      rw [wD_cons]
      have n2 : neD (dc 40) (.str (tx [40])) = .ok (.bl false) := by rw [n2]; simp
      refine wh_stop ?_
      rw [s_open]
      generalize w.reverse.map dc ++ [dc 40] = L at *
      generalize dc 40 = D40 at *
      generalize D.str (tx [40]) = S40 at *
      generalize fD f = F at *
      simp [n1, at1, n2]
    · have n2 : neD (dc c) (.str (tx [40])) = .ok (.bl true) := by rw [n2]; simp [c1]
      have e : closeW f (c :: w) = closeW (f ++ [.sg c]) w := by conv => lhs; unfold closeW; rw [if_neg c1]
      rw [e]
      obtain ⟨N, hN⟩ := close_go w (f ++ [.sg c]) (fun x hx => hw x (by simp [hx])) (by simp; omega)
      have zf : szOk ((f.map dTk).length + 1) = true := szOk_of (by rw [List.length_map]; omega)
      have ef : fD (f ++ [.sg c]) = .lst (f.map dTk ++ [dc c]) := by show D.lst _ = _; rw [List.map_append]; rfl
      have nl : (dc c).nl = true := rfl
      refine ⟨N + 1, ?_⟩
      rw [wh_step (ρ1 := [some (.lst (w.reverse.map dc ++ [dc c])), some (fD f)]) (ρ2 := [some (wD w), some (fD (f ++ [.sg c]))]) (by
        rw [s_open]
        generalize w.reverse.map dc ++ [dc c] = L at *
        generalize dc c = D40 at *
        generalize D.str (tx [40]) = S40 at *
        generalize fD f = F at *
        simp [n1, at1, n2]) (by
        rw [ef]
        show C.b_close_bracket_1 [some (.lst (w.reverse.map dc ++ [dc c])), some (.lst (f.map dTk))] = R.ok (Fl.nx, [some (.lst (w.reverse.map dc)), some (.lst (f.map dTk ++ [dc c]))])
        simp only [C.b_close_bracket_1]
        generalize hL : w.reverse.map dc ++ [dc c] = L at *
        generalize w.reverse.map dc = W at *
        generalize f.map dTk = F at *
        generalize dc c = D40 at *
        simp [p1, p2, zf, nl])]
      refine Eq.trans hN ?_
      cases closeW (f ++ [.sg c]) w with
      | none =>
        show R.ok (Fl.nx, [_, some (fD (f ++ [.sg c] ++ w.map .sg))]) = R.ok (Fl.nx, [_, some (fD (f ++ (c :: w).map .sg))])
        rw [List.append_assoc]; rfl
      | some p => rfl
theorem close_ok {w : List Nat} {f : List Tk} (hw : WOkQ w) (hl : f.length + w.length ≤ 100000) : C.g_close_bracket [wD w, fD f] = (match closeW f w with | some (f', w') => .ok (.fr .non, [some (wD w'), some (fD f')]) | none => .er "NoRule" []) := by
  obtain ⟨N, hN⟩ := close_go w f hw hl
  have hwh := sWhile_is (by cases closeW f w <;> (intro z; cases z)) hN
  simp only [C.g_close_bracket, C.m_close_bracket]
  cases e : closeW f w with
  | none =>
    rw [e] at hwh
    have n1 : eqD (.lst []) (.lst []) = .ok (.bl true) := eq_dcs (xs := []) (fun _ h => by cases h)
    have hwh : sWhile (cAndT (cBl (cOp neD (cOwn 0) (cLst (cNil)))) (cBl (cOp neD (cIx (cOwn 0) (cNeg (cC (.int 1)))) (cC (.str "("))))) C.b_close_bracket_1 [] [some (wD w), some (fD f)] = .ok (.nx, [some (.lst []), some (fD (f ++ w.map .sg))]) := hwh
    generalize C.b_close_bracket_1 = B1 at *
    generalize fD (f ++ w.map .sg) = F2 at *
    generalize fD f = F at *
    generalize wD w = W at *
    simp [e_fnD, hwh, n1]
  | some p =>
    obtain ⟨f', w'⟩ := p
    rw [e] at hwh
    have hwh : sWhile (cAndT (cBl (cOp neD (cOwn 0) (cLst (cNil)))) (cBl (cOp neD (cIx (cOwn 0) (cNeg (cC (.int 1)))) (cC (.str "("))))) C.b_close_bracket_1 [] [some (wD w), some (fD f)] = .ok (.nx, [some (wD (40 :: w')), some (fD f')]) := hwh
    have sub : ∀ {w : List Nat} {f : List Tk} {p : List Tk × List Nat}, closeW f w = some p → WOkQ w → WOkQ (40 :: p.2) := fun {w} => by
      induction w with
      | nil => intro f p h _; cases h
      | cons c w ih =>
        intro f p h hw
        unfold closeW at h
        by_cases c1 : c = 40
        · rw [if_pos c1] at h
          cases h
          rw [← c1]; exact hw
        · rw [if_neg c1] at h
          exact ih h fun x hx => hw x (by simp [hx])
    have hw' := sub e hw
    have n1 := eq_dcs (xs := (40 :: w').reverse) hw'.lt
    have e0 : (40 :: w').reverse.isEmpty = false := by simp
    rw [e0] at n1
    have n1 : eqD (wD (40 :: w')) (.lst []) = .ok (.bl false) := n1
    obtain ⟨p1, p2⟩ := pop_last (xs := w'.reverse.map dc) (x := dc 40)
    rw [wD_cons] at hwh n1
    show _ = R.ok (Hd.fr D.non, [some (D.lst (w'.reverse.map dc)), some (fD f')])
    generalize C.b_close_bracket_1 = B1 at *
    generalize hL : w'.reverse.map dc ++ [dc 40] = L at *
    generalize w'.reverse.map dc = W2 at *
    generalize fD f' = F2 at *
    generalize fD f = F at *
    generalize wD w = W at *
    simp [e_fnD, hwh, n1, p1, p2]
end H

set_option Elab.async false
set_option linter.all false
set_option maxRecDepth 100000
set_option maxHeartbeats 4000000
namespace H
open PySem PySem.Spec PyProof.Rows L2 Y
abbrev tabS : List (Str × Int) := [(("!" : Str), (4 : Int)), (("&" : Str), (3 : Int)), (("^" : Str), (2 : Int)), (("|" : Str), (1 : Int)), (("(" : Str), (0 : Int))]
theorem kix_of {c : Nat} (h : c ∈ [33, 38, 94, 124, 40]) : List.lookup (tx [c]) tabS = some ((stR c : Nat) : Int) := by
  simp only [List.mem_cons, List.not_mem_nil, or_false] at h
  rcases h with rfl | rfl | rfl | rfl | rfl <;> decide +kernel
theorem ne_bb {a b : Bool} : neD (.bl a) (.bl b) = .ok (.bl (a != b)) := by
  rw [neD_of (n := 1) (x := .bl a) (y := .bl b) (by unfold Fit; trivial) (by unfold Fit; trivial)]
  cases a <;> cases b <;> rfl
theorem pop_go {P O3 B : Option D} {c : Nat} (hc : c ∈ [38, 94, 124]) : ∀ (w : List Nat) (f : List Tk), WOkQ w → f.length + w.length ≤ 100000 →
    ∃ N, whileN (cAndT (cBl (cOp neD (cOwn 2) (cLst (cNil)))) (cBl (cOp geD (cKIx tabS (cIx (cOwn 2) (cNeg (cC (.int 1))))) (cKIx tabS (cVar 4))))) C.b_in_turn_1 [] N [P, some (fD f), some (wD w), O3, some (dc c), B] =
      .ok (.nx, [P, some (fD (popW (stR c) f w).1), some (wD (popW (stR c) f w).2), O3, some (dc c), B])
  | [], f, hw, hl => by
    refine ⟨1, ?_⟩
    have n1 : neD (.lst []) (.lst []) = .ok (.bl false) := ne_dcs (xs := []) (fun _ h => by cases h)
    refine wh_stop ?_
    show cAndT _ _ [P, some (fD f), some (.lst []), O3, some (dc c), B] = R.ok (false, [P, some (fD f), some (.lst []), O3, some (dc c), B])
    generalize fD f = F
    generalize tabS = TAB
    simp [n1]
  | a :: w, f, hw, hl => by
    rw [List.length_cons] at hl
    have ha := hw a (by simp)
    have ka := kix_of ha
    have kc := kix_of (c := c) (by simp only [List.mem_cons, List.not_mem_nil, or_false] at hc ⊢; omega)
    have n1 := ne_dcs (xs := (a :: w).reverse) hw.lt
    have e0 : (a :: w).reverse.isEmpty = false := by simp
    rw [e0] at n1
    have n1 : neD (wD (a :: w)) (.lst []) = .ok (.bl true) := n1
    have at1 := atI_last (xs := w.reverse.map dc) (x := dc a)
    obtain ⟨p1, p2⟩ := pop_last (xs := w.reverse.map dc) (x := dc a)
    by_cases c1 : stR c ≤ stR a
    · have e : popW (stR c) f (a :: w) = popW (stR c) (f ++ [.sg a]) w := by conv => lhs; unfold popW; rw [if_pos c1]
      rw [e]
      obtain ⟨N, hN⟩ := pop_go (P := P) (O3 := O3) (B := B) hc w (f ++ [.sg a]) (fun x hx => hw x (by simp [hx])) (by simp; omega)
      have zf : szOk ((f.map dTk).length + 1) = true := szOk_of (by rw [List.length_map]; omega)
      have ef : fD (f ++ [.sg a]) = .lst (f.map dTk ++ [dc a]) := by show D.lst _ = _; rw [List.map_append]; rfl
      have nl : (dc a).nl = true := rfl
      have ci : ((stR c : Nat) : Int) ≤ ((stR a : Nat) : Int) := by omega
      refine ⟨N + 1, ?_⟩
      rw [wD_cons] at n1 ⊢
      rw [wh_step (ρ1 := [P, some (fD f), some (.lst (w.reverse.map dc ++ [dc a])), O3, some (dc c), B]) (ρ2 := [P, some (fD (f ++ [.sg a])), some (wD w), O3, some (dc c), B]) (by
        generalize fD f = F at *
        generalize ((stR c : Nat) : Int) = SC at *
        generalize ((stR a : Nat) : Int) = SA at *
        generalize tabS = TAB at *
        generalize w.reverse.map dc = W at *
        simp only [dc, dt] at *
        generalize tx [a] = ZA at *
        generalize tx [c] = ZC at *
        generalize W ++ [D.str ZA] = L at *
        simp [n1, at1, ka, kc, ci]) (by
        rw [ef]
        show C.b_in_turn_1 [P, some (.lst (f.map dTk)), some (.lst (w.reverse.map dc ++ [dc a])), O3, some (dc c), B] = R.ok (Fl.nx, [P, some (.lst (f.map dTk ++ [dc a])), some (.lst (w.reverse.map dc)), O3, some (dc c), B])
        simp only [C.b_in_turn_1]
        generalize hL : w.reverse.map dc ++ [dc a] = L at *
        generalize w.reverse.map dc = W at *
        generalize f.map dTk = F at *
        generalize dc a = D40 at *
        simp [p1, p2, zf, nl])]
      exact hN
    · have e : popW (stR c) f (a :: w) = (f, a :: w) := by conv => lhs; unfold popW; rw [if_neg c1]
      rw [e]
      have ci : ¬ ((stR c : Nat) : Int) ≤ ((stR a : Nat) : Int) := by omega
      refine ⟨1, ?_⟩
      show _ = R.ok (Fl.nx, [P, some (fD f), some (wD (a :: w)), O3, some (dc c), B])
      rw [wD_cons] at n1 ⊢
      refine wh_stop ?_
      generalize fD f = F at *
      generalize ((stR c : Nat) : Int) = SC at *
      generalize ((stR a : Nat) : Int) = SA at *
      generalize tabS = TAB at *
      generalize w.reverse.map dc = W at *
      simp only [dc, dt] at *
      generalize tx [a] = ZA at *
      generalize tx [c] = ZC at *
      generalize W ++ [D.str ZA] = L at *
      simp [n1, at1, ka, kc, ci]
abbrev rhoT (P : Option D) (s : StW) : Y.Env := [P, some (fD s.f), some (wD s.w), some (.bl s.o), none, none]
theorem turn_tok {P : Option D} {t : Tk} {s : StW} (ht : TOk t) (hw : WOkQ s.w) (hl : s.f.length + s.w.length ≤ 50000) :
    turnF (tmName 4) C.b_in_turn_2 [4, 5] (dTk t) (rhoT P s) = (match stepTk s t with | some s' => .ok (.nx, rhoT P s') | none => .er "NoRule" []) := by
  obtain ⟨f, w, o⟩ := s
  have hl : f.length + w.length ≤ 50000 := hl
  have hw : WOkQ w := hw
  have zf : szOk ((f.map dTk).length + 1) = true := szOk_of (by rw [List.length_map]; omega)
  have zw : szOk ((w.reverse.map dc).length + 1) = true := szOk_of (by rw [List.length_map, List.length_reverse]; omega)
  have ef : ∀ t, fD (f ++ [t]) = .lst (f.map dTk ++ [dTk t]) := fun t => by show D.lst _ = _; rw [List.map_append]; rfl
  have nb := ne_bb (a := beginB t) (b := o)
  show turnF (tmName 4) C.b_in_turn_2 [4, 5] (dTk t) [P, some (.lst (f.map dTk)), some (.lst (w.reverse.map dc)), some (.bl o), none, none] = _
  by_cases hb : beginB t = o
  · have st : stepTk ⟨f, w, o⟩ t = stepB ⟨f, w, o⟩ t := by unfold stepTk; rw [if_pos hb]
    rw [st, ← hb]
    rw [← hb] at nb
    have nb : neD (.bl (beginB t)) (.bl (beginB t)) = .ok (.bl false) := by rw [nb]; simp
    cases t with
    | num k =>
      show _ = R.ok (Fl.nx, [P, some (fD (f ++ [.num k])), some (wD w), some (.bl false), none, none])
      rw [ef]
      have nb : neD (.bl true) (.bl true) = .ok (.bl false) := nb
      show turnF _ _ _ (.int (k : Nat)) [P, some (.lst (f.map dTk)), some (.lst (w.reverse.map dc)), some (.bl true), none, none] = R.ok (Fl.nx, [P, some (.lst (f.map dTk ++ [.int (k : Nat)])), some (.lst (w.reverse.map dc)), some (.bl false), none, none])
      simp only [turnF, C.b_in_turn_2]
      generalize w.reverse.map dc = W at *
      generalize f.map dTk = F at *
      generalize C.b_in_turn_1 = B1 at *
      simp [nb, zf, noDit, Y.isInt]
    | sg c =>
      have hc : c ∈ opsL := ht
      have hc1 : c < 1000 := by
        simp only [opsL, List.mem_cons, List.not_mem_nil, or_false] at hc
        omega
      have s1 : SgOk [c] := fun x hx => by rw [List.mem_singleton] at hx; omega
      have i1 := in_text (c := c) (l := [48, 49, 33, 40])
      have i2 := in_text (c := c) (l := [48, 49])
      have i3 := in_text (c := c) (l := [33, 40])
      have e1 := eq_dt (a := [c]) (b := [41]) s1 (fun x hx => by rw [List.mem_singleton] at hx; omega)
      have nl : (dt [c]).nl = true := rfl
      have cok := close_ok (w := w) (f := f) hw (by omega)
      have pg := fun (B : Option D) => pop_go (P := P) (O3 := some (.bl false)) (B := B) (c := c)
      show turnF _ _ _ (dt [c]) [P, some (.lst (f.map dTk)), some (.lst (w.reverse.map dc)), some (.bl (decide (c ∈ [48, 49, 33, 40]))), none, none] = (match (if c ∈ [48, 49] then some (StW.mk (f ++ [.sg c]) w false) else if c ∈ [33, 40] then some ⟨f, c :: w, decide (c ∈ [48, 49, 33, 40])⟩ else if c = 41 then (closeW f w).map fun p => ⟨p.1, p.2, decide (c ∈ [48, 49, 33, 40])⟩
      else some ⟨(popW (stR c) f w).1, c :: (popW (stR c) f w).2, true⟩ : Option StW) with | some s' => .ok (.nx, rhoT P s') | none => .er "NoRule" [])
      have nb : neD (.bl (decide (c ∈ [48, 49, 33, 40]))) (.bl (decide (c ∈ [48, 49, 33, 40]))) = .ok (.bl false) := nb
      by_cases c1 : c ∈ [48, 49]
      · have c0 : c ∈ [48, 49, 33, 40] := by simp only [List.mem_cons, List.not_mem_nil, or_false] at c1 ⊢; omega
        rw [if_pos c1]
        rw [decide_eq_true c1] at i2
        rw [decide_eq_true c0] at i1 nb ⊢
        show _ = R.ok (Fl.nx, [P, some (fD (f ++ [.sg c])), some (wD w), some (.bl false), none, none])
        rw [ef]
        show _ = R.ok (Fl.nx, [P, some (.lst (f.map dTk ++ [dt [c]])), some (.lst (w.reverse.map dc)), some (.bl false), none, none])
        simp only [turnF, C.b_in_turn_2, s_01nb, s_bitQ, s_nb, s_shut]
        simp only [dt] at *
        generalize tx [c] = Z at *
        generalize D.str (tx [48, 49, 33, 40]) = S4 at *
        generalize D.str (tx [48, 49]) = S2 at *
        generalize D.str (tx [33, 40]) = S3 at *
        generalize w.reverse.map dc = W at *
        generalize f.map dTk = F at *
        generalize C.b_in_turn_1 = B1 at *
        simp [i1, i2, nb, zf, nl, noDit, Y.isInt]
      · rw [if_neg c1]
        rw [decide_eq_false c1] at i2
        by_cases c2 : c ∈ [33, 40]
        · have c0 : c ∈ [48, 49, 33, 40] := by simp only [List.mem_cons, List.not_mem_nil, or_false] at c2 ⊢; omega
          rw [if_pos c2]
          rw [decide_eq_true c2] at i3
          rw [decide_eq_true c0] at i1 nb ⊢
          show _ = R.ok (Fl.nx, [P, some (fD f), some (wD (c :: w)), some (.bl true), none, none])
          rw [wD_cons]
          show _ = R.ok (Fl.nx, [P, some (.lst (f.map dTk)), some (.lst (w.reverse.map dc ++ [dt [c]])), some (.bl true), none, none])
          simp only [turnF, C.b_in_turn_2, s_01nb, s_bitQ, s_nb, s_shut]
          simp only [dt] at *
          generalize tx [c] = Z at *
          generalize D.str (tx [48, 49, 33, 40]) = S4 at *
          generalize D.str (tx [48, 49]) = S2 at *
          generalize D.str (tx [33, 40]) = S3 at *
          generalize w.reverse.map dc = W at *
          generalize f.map dTk = F at *
          generalize C.b_in_turn_1 = B1 at *
          simp [i1, i2, i3, nb, zw, nl, noDit, Y.isInt]
        · have c0 : c ∉ [48, 49, 33, 40] := fun z => by
            simp only [List.mem_cons, List.not_mem_nil, or_false] at z c1 c2
            omega
          rw [if_neg c2]
          rw [decide_eq_false c2] at i3
          rw [decide_eq_false c0] at i1 nb ⊢
          by_cases c3 : c = 41
          · subst c3
            rw [if_pos rfl]
            have e1 : eqD (dt [41]) (.str (tx [41])) = .ok (.bl true) := by rw [e1]; simp
            cases e : closeW f w with
            | none =>
              rw [e] at cok
              have cok : C.g_close_bracket [.lst (w.reverse.map dc), .lst (f.map dTk)] = .er "NoRule" [] := cok
              show _ = R.er "NoRule" []
              simp only [turnF, C.b_in_turn_2, s_01nb, s_bitQ, s_nb, s_shut]
              simp only [dt] at *
              generalize tx [41] = Z at *
              generalize D.str (tx [48, 49, 33, 40]) = S4 at *
              generalize D.str (tx [48, 49]) = S2 at *
              generalize D.str (tx [33, 40]) = S3 at *
              generalize w.reverse.map dc = W at *
              generalize f.map dTk = F at *
              generalize C.b_in_turn_1 = B1 at *
              simp [i1, i2, i3, e1, nb, cok, noDit, Y.isInt]
            | some p =>
              obtain ⟨f', w'⟩ := p
              rw [e] at cok
              have cok : C.g_close_bracket [.lst (w.reverse.map dc), .lst (f.map dTk)] = .ok (.fr .non, [some (wD w'), some (fD f')]) := cok
              show _ = R.ok (Fl.nx, [P, some (fD f'), some (wD w'), some (.bl false), none, none])
              simp only [turnF, C.b_in_turn_2, s_01nb, s_bitQ, s_nb, s_shut]
              simp only [dt] at *
              generalize tx [41] = Z at *
              generalize D.str (tx [48, 49, 33, 40]) = S4 at *
              generalize D.str (tx [48, 49]) = S2 at *
              generalize D.str (tx [33, 40]) = S3 at *
              generalize wD w' = W2 at *
              generalize fD f' = F2 at *
              generalize w.reverse.map dc = W at *
              generalize f.map dTk = F at *
              generalize C.b_in_turn_1 = B1 at *
              simp [i1, i2, i3, e1, nb, cok, noDit, Y.isInt]
          · rw [if_neg c3]
            have c4 : c ∈ [38, 94, 124] := by
              simp only [opsL, List.mem_cons, List.not_mem_nil, or_false] at hc c0 ⊢
              omega
            have e1 : eqD (dt [c]) (.str (tx [41])) = .ok (.bl false) := by rw [e1]; simp [c3]
            obtain ⟨N, hN⟩ := pg (some (.bl false)) c4 w f hw (by omega)
            have hwh := sWhile_is (by intro z; cases z) hN
            show _ = R.ok (Fl.nx, [P, some (fD (popW (stR c) f w).1), some (wD (c :: (popW (stR c) f w).2)), some (.bl true), none, none])
            rw [wD_cons]
            have pl : (popW (stR c) f w).2.length ≤ w.length := by
              have : ∀ (w : List Nat) (f : List Tk), (popW (stR c) f w).2.length ≤ w.length := fun w => by
                induction w with
                | nil => intro f; exact Nat.le_refl _
                | cons a w ih =>
                  intro f
                  unfold popW
                  split
                  · rw [List.length_cons]; have := ih (f ++ [.sg a]); omega
                  · exact Nat.le_refl _
              exact this w f
            have zp : szOk (((popW (stR c) f w).2.reverse.map dc).length + 1) = true := szOk_of (by rw [List.length_map, List.length_reverse]; omega)
            generalize popW (stR c) f w = PW at *
            have hwh : sWhile (cAndT (cBl (cOp neD (cOwn 2) (cLst (cNil)))) (cBl (cOp geD (cKIx [(("!" : Str), (4 : Int)), (("&" : Str), (3 : Int)), (("^" : Str), (2 : Int)), (("|" : Str), (1 : Int)), (("(" : Str), (0 : Int))] (cIx (cOwn 2) (cNeg (cC (.int 1))))) (cKIx [(("!" : Str), (4 : Int)), (("&" : Str), (3 : Int)), (("^" : Str), (2 : Int)), (("|" : Str), (1 : Int)), (("(" : Str), (0 : Int))] (cVar 4))))) C.b_in_turn_1 [] [P, some (.lst (f.map dTk)), some (.lst (w.reverse.map dc)), some (.bl false), some (dt [c]), some (.bl false)] = .ok (.nx, [P, some (fD PW.1), some (.lst (PW.2.reverse.map dc)), some (.bl false), some (dt [c]), some (.bl false)]) := hwh
            show _ = R.ok (Fl.nx, [P, some (fD PW.1), some (.lst (PW.2.reverse.map dc ++ [dt [c]])), some (.bl true), none, none])
            simp only [turnF, C.b_in_turn_2, s_01nb, s_bitQ, s_nb, s_shut]
            generalize hWH : sWhile (cAndT (cBl (cOp neD (cOwn 2) (cLst (cNil)))) (cBl (cOp geD (cKIx [(("!" : Str), (4 : Int)), (("&" : Str), (3 : Int)), (("^" : Str), (2 : Int)), (("|" : Str), (1 : Int)), (("(" : Str), (0 : Int))] (cIx (cOwn 2) (cNeg (cC (.int 1))))) (cKIx [(("!" : Str), (4 : Int)), (("&" : Str), (3 : Int)), (("^" : Str), (2 : Int)), (("|" : Str), (1 : Int)), (("(" : Str), (0 : Int))] (cVar 4))))) C.b_in_turn_1 [] = WH at *
            simp only [dt] at *
            generalize tx [c] = Z at *
            generalize D.str (tx [48, 49, 33, 40]) = S4 at *
            generalize D.str (tx [48, 49]) = S2 at *
            generalize D.str (tx [33, 40]) = S3 at *
            generalize fD PW.1 = F2 at *
            generalize PW.2.reverse.map dc = W2 at *
            generalize w.reverse.map dc = W at *
            generalize f.map dTk = F at *
            simp [i1, i2, i3, e1, nb, hwh, zp, nl, noDit, Y.isInt]
  · have st : stepTk ⟨f, w, o⟩ t = none := by unfold stepTk; rw [if_neg hb]
    rw [st]
    show _ = R.er "NoRule" []
    have nb : neD (.bl (beginB t)) (.bl o) = .ok (.bl true) := by
      rw [nb]
      have : (beginB t != o) = true := by simpa using hb
      rw [this]
    cases t with
    | num k =>
      have nb : neD (.bl true) (.bl o) = .ok (.bl true) := nb
      show turnF _ _ _ (.int (k : Nat)) _ = _
      simp only [turnF, C.b_in_turn_2]
      generalize w.reverse.map dc = W at *
      generalize f.map dTk = F at *
      generalize C.b_in_turn_1 = B1 at *
      simp [nb, noDit, Y.isInt]
    | sg c =>
      have i1 := in_text (c := c) (l := [48, 49, 33, 40])
      have nb : neD (.bl (decide (c ∈ [48, 49, 33, 40]))) (.bl o) = .ok (.bl true) := nb
      generalize decide (c ∈ [48, 49, 33, 40]) = b at *
      show turnF _ _ _ (dt [c]) _ = _
      simp only [turnF, C.b_in_turn_2, s_01nb, s_bitQ, s_nb, s_shut]
      simp only [dt] at *
      generalize tx [c] = Z at *
      generalize D.str (tx [48, 49, 33, 40]) = S4 at *
      generalize D.str (tx [48, 49]) = S2 at *
      generalize D.str (tx [33, 40]) = S3 at *
      generalize w.reverse.map dc = W at *
      generalize f.map dTk = F at *
      generalize C.b_in_turn_1 = B1 at *
      simp [i1, nb, noDit, Y.isInt]
end H

set_option Elab.async false
set_option linter.all false
set_option maxRecDepth 100000
set_option maxHeartbeats 2000000
namespace H
open PySem PySem.Spec PyProof.Rows L2 Y
theorem closeW_inv : ∀ {w : List Nat} {f : List Tk} {p : List Tk × List Nat}, closeW f w = some p → WOkQ w → WOkQ p.2 ∧ p.1.length + p.2.length + 1 = f.length + w.length
  | [], f, p, h, _ => by cases h
  | c :: w, f, p, h, hw => by
    unfold closeW at h
    by_cases c1 : c = 40
    · rw [if_pos c1] at h
      cases h
      exact ⟨fun x hx => hw x (by simp [hx]), by simp; omega⟩
    · rw [if_neg c1] at h
      obtain ⟨a, b⟩ := closeW_inv h fun x hx => hw x (by simp [hx])
      exact ⟨a, by rw [b]; simp; omega⟩
theorem popW_inv {s : Nat} : ∀ {w : List Nat} {f : List Tk}, WOkQ w → WOkQ (popW s f w).2 ∧ (popW s f w).1.length + (popW s f w).2.length = f.length + w.length
  | [], f, h => ⟨h, rfl⟩
  | c :: w, f, h => by
    unfold popW
    by_cases c1 : s ≤ stR c
    · rw [if_pos c1]
      obtain ⟨a, b⟩ := popW_inv (s := s) (w := w) (f := f ++ [.sg c]) fun x hx => h x (by simp [hx])
      exact ⟨a, by rw [b]; simp; omega⟩
    · rw [if_neg c1]
      exact ⟨h, rfl⟩
theorem stepTk_inv {s s' : StW} {t : Tk} (h : stepTk s t = some s') (ht : TOk t) (hw : WOkQ s.w) : WOkQ s'.w ∧ s'.f.length + s'.w.length ≤ s.f.length + s.w.length + 1 := by
  unfold stepTk at h
  by_cases hb : beginB t = s.o
  · rw [if_pos hb] at h
    cases t with
    | num k =>
      cases h
      exact ⟨hw, by simp; omega⟩
    | sg c =>
      have hc : c ∈ opsL := ht
      have h : (if c ∈ [48, 49] then some (StW.mk (s.f ++ [.sg c]) s.w false) else if c ∈ [33, 40] then some (StW.mk s.f (c :: s.w) s.o) else if c = 41 then (closeW s.f s.w).map fun p => StW.mk p.1 p.2 s.o
        else some (StW.mk (popW (stR c) s.f s.w).1 (c :: (popW (stR c) s.f s.w).2) true)) = some s' := h
      by_cases c1 : c ∈ [48, 49]
      · rw [if_pos c1] at h
        cases h
        exact ⟨hw, by simp; omega⟩
      · rw [if_neg c1] at h
        by_cases c2 : c ∈ [33, 40]
        · rw [if_pos c2] at h
          cases h
          refine ⟨fun x hx => ?_, by simp; omega⟩
          rcases List.mem_cons.mp hx with rfl | hx
          · simp only [List.mem_cons, List.not_mem_nil, or_false] at c2 ⊢; omega
          · exact hw x hx
        · rw [if_neg c2] at h
          by_cases c3 : c = 41
          · rw [if_pos c3] at h
            obtain ⟨p, hp, rfl⟩ := Option.map_eq_some_iff.mp h
            obtain ⟨a, b⟩ := closeW_inv hp hw
            exact ⟨a, by show p.1.length + p.2.length ≤ _; omega⟩
          · rw [if_neg c3] at h
            cases h
            obtain ⟨a, b⟩ := popW_inv (s := stR c) (f := s.f) hw
            refine ⟨fun x hx => ?_, by show (popW (stR c) s.f s.w).1.length + (c :: (popW (stR c) s.f s.w).2).length ≤ _; rw [List.length_cons]; omega⟩
            rcases List.mem_cons.mp hx with rfl | hx
            · simp only [opsL, List.mem_cons, List.not_mem_nil, or_false] at hc c1 c2 ⊢; omega
            · exact a x hx
  · rw [if_neg hb] at h
    cases h
theorem forQ_er {tm : GM} {body : SM} {vs ws : List Nat} {x : D} {xs : List D} {ρ : Y.Env} {c : Str} {ds : List D} (h : turnF tm body vs x ρ = .er c ds) : forL tm body vs ws (x :: xs) ρ = .er c ds := by
  unfold turnF at h
  unfold forL
  cases e1 : tm x ρ with
  | stk => rw [e1] at h; cases h
  | er c' ds' => rw [e1] at h; cases h
  | ok ρ1 =>
    rw [e1] at h
    have h : (body ρ1 >>= fun p => match p.1 with | .nx => R.ok (Fl.nx, wipeE p.2 vs) | .ct => R.ok (.nx, wipeE p.2 vs) | f => R.ok (f, p.2)) = R.er c ds := h
    show (body ρ1 >>= _) = _
    cases e2 : body ρ1 with
    | stk => rw [e2] at h; cases h
    | er c' ds' => rw [e2] at h; exact h
    | ok p =>
      rw [e2] at h
      obtain ⟨f, ρ2⟩ := p
      cases f <;> cases h
theorem run_loop {P : Option D} : ∀ (ts : List Tk) (s : StW), (∀ t ∈ ts, TOk t) → WOkQ s.w → s.f.length + s.w.length + ts.length ≤ 50000 →
    forL (tmName 4) C.b_in_turn_2 [4, 5] [] (ts.map dTk) (rhoT P s) = (match runT s ts with | some s' => .ok (.nx, rhoT P s') | none => .er "NoRule" [])
  | [], s, _, _, _ => rfl
  | t :: ts, s, ht, hw, hl => by
    rw [List.length_cons] at hl
    have tt := turn_tok (P := P) (ht t (by simp)) hw (by omega)
    rw [List.map_cons]
    unfold runT
    cases e : stepTk s t with
    | none =>
      rw [e] at tt
      exact forQ_er tt
    | some s' =>
      rw [e] at tt
      obtain ⟨a, b⟩ := stepTk_inv e (ht t (by simp)) hw
      exact for_cons tt (fun _ z => by cases z) (run_loop ts s' (fun x hx => ht x (by simp [hx])) a (by omega))
theorem runT_inv : ∀ {ts : List Tk} {s s' : StW}, runT s ts = some s' → (∀ t ∈ ts, TOk t) → WOkQ s.w → WOkQ s'.w ∧ s'.f.length + s'.w.length ≤ s.f.length + s.w.length + ts.length
  | [], s, s', h, _, hw => by cases h; exact ⟨hw, by simp⟩
  | t :: ts, s, s', h, ht, hw => by
    unfold runT at h
    cases e : stepTk s t with
    | none => rw [e] at h; cases h
    | some s1 =>
      rw [e] at h
      obtain ⟨a, b⟩ := stepTk_inv e (ht t (by simp)) hw
      obtain ⟨c, d⟩ := runT_inv (ts := ts) h (fun x hx => ht x (by simp [hx])) a
      exact ⟨c, by rw [List.length_cons]; omega⟩
theorem in_dcs {w : List Nat} (hw : WOkQ w) : inD (.str (tx [40])) (.lst (w.reverse.map dc)) = .ok (.bl (decide (40 ∈ w))) := by
  have e : w.reverse.map dc = (w.reverse.map fun c => [c]).map dt := by rw [List.map_map]; rfl
  have s : ∀ x ∈ w.reverse.map (fun c => [c]), SgOk x := fun x hx => by
    obtain ⟨c, hc, rfl⟩ := List.mem_map.mp hx
    intro y hy
    rw [List.mem_singleton] at hy
    have := hw.lt c hc
    omega
  have q := in_ldt (a := [40]) (xs := w.reverse.map fun c => [c]) (fun x hx => by rw [List.mem_singleton] at hx; omega) s
  rw [e]
  refine Eq.trans q ?_
  refine congrArg (fun b => R.ok (D.bl b)) ?_
  rw [Bool.eq_iff_iff, decide_eq_true_eq, decide_eq_true_eq, List.mem_map]
  constructor
  · rintro ⟨c, hc, e⟩
    have : c = 40 := by simpa using e
    rw [this] at hc
    exact List.mem_reverse.mp hc
  · intro h
    exact ⟨40, List.mem_reverse.mpr h, rfl⟩
theorem in_turn_ok {ts : List Tk} (ht : ∀ t ∈ ts, TOk t) (hl : ts.length ≤ 40000) : C.g_in_turn [.lst (ts.map dTk)] = (match turnP ts with | some r => .ok (.fr (.lst (r.map dTk))) | none => .er "NoRule" []) := by
  have lp := run_loop (P := some (.lst (ts.map dTk))) ts ⟨[], [], true⟩ ht (fun c hc => by cases hc) (by simp; omega)
  have lp : forL (tmName 4) C.b_in_turn_2 [4, 5] [] (ts.map dTk) [some (.lst (ts.map dTk)), some (.lst []), some (.lst []), some (.bl true), none, none] = (match runT ⟨[], [], true⟩ ts with | some s' => .ok (.nx, rhoT (some (.lst (ts.map dTk))) s') | none => .er "NoRule" []) := lp
  have zt : szOk (ts.map dTk).length = true := szOk_of (by rw [List.length_map]; omega)
  unfold turnP
  simp only [C.g_in_turn, C.m_in_turn]
  cases e : runT ⟨[], [], true⟩ ts with
  | none =>
    rw [e] at lp
    have lp : forL (tmName 4) C.b_in_turn_2 [4, 5] [] (ts.map dTk) [some (.lst (ts.map dTk)), some (.lst []), some (.lst []), some (.bl true), none, none] = .er "NoRule" [] := lp
    show _ = R.er "NoRule" []
    generalize C.b_in_turn_2 = B2 at *
    generalize ts.map dTk = T at *
    simp [e_fnP, zt, lp, shAt, chkO_ws, szOk_of]
  | some s =>
    rw [e] at lp
    obtain ⟨hw, hl2⟩ := runT_inv e ht (fun c hc => by cases hc)
    have lp : forL (tmName 4) C.b_in_turn_2 [4, 5] [] (ts.map dTk) [some (.lst (ts.map dTk)), some (.lst []), some (.lst []), some (.bl true), none, none] = .ok (.nx, [some (.lst (ts.map dTk)), some (.lst (s.f.map dTk)), some (.lst (s.w.reverse.map dc)), some (.bl s.o), none, none]) := lp
    have hl2 : s.f.length + s.w.length ≤ 0 + 0 + ts.length := hl2
    have i1 := in_dcs hw
    have rv : revD (.lst (s.w.reverse.map dc)) = .ok (.lst (s.w.map dc)) := by
      show R.ok (D.lst _) = _
      rw [← List.map_reverse, List.reverse_reverse]
    have za : szOk ((s.f.map dTk).length + (s.w.map dc).length) = true := szOk_of (by rw [List.length_map, List.length_map]; omega)
    have er : (s.f ++ s.w.map Tk.sg).map dTk = s.f.map dTk ++ s.w.map dc := by rw [List.map_append, List.map_map]; rfl
    show _ = (match (if s.o = true ∨ 40 ∈ s.w then none else some (s.f ++ s.w.map Tk.sg) : Option (List Tk)) with | some r => R.ok (Hd.fr (.lst (r.map dTk))) | none => R.er "NoRule" [])
    cases ho : s.o with
    | true =>
      rw [if_pos (.inl rfl)]
      rw [ho] at lp
      show _ = R.er "NoRule" []
      generalize C.b_in_turn_2 = B2 at *
      generalize ts.map dTk = T at *
      generalize s.f.map dTk = F at *
      generalize s.w.reverse.map dc = W at *
      simp [e_fnP, zt, lp, shAt, chkO_ws, szOk_of]
    | false =>
      rw [ho] at lp
      by_cases h40 : 40 ∈ s.w
      · rw [if_pos (.inr h40)]
        rw [decide_eq_true h40] at i1
        show _ = R.er "NoRule" []
        rw [s_open]
        generalize D.str (tx [40]) = S4 at *
        generalize C.b_in_turn_2 = B2 at *
        generalize ts.map dTk = T at *
        generalize s.f.map dTk = F at *
        generalize s.w.reverse.map dc = W at *
        simp [e_fnP, zt, lp, i1, shAt, chkO_ws, szOk_of]
      · rw [if_neg (fun z => z.elim (fun y => by cases y) h40)]
        rw [decide_eq_false h40] at i1
        show _ = R.ok (Hd.fr (.lst ((s.f ++ s.w.map Tk.sg).map dTk)))
        rw [er, s_open]
        generalize D.str (tx [40]) = S4 at *
        generalize C.b_in_turn_2 = B2 at *
        generalize ts.map dTk = T at *
        generalize s.f.map dTk = F at *
        generalize s.w.map dc = W2 at *
        generalize s.w.reverse.map dc = W at *
        simp [e_fnP, zt, lp, i1, rv, za, shAt, chkO_ws, szOk_of, -d_revL]
inductive Fm where
  | bit (b : Nat) | var (k : Nat) | neg (a : Fm) | op (c : Nat) (a b : Fm)
def joinI (c : Nat) (a b : Int) : Int := if c = 38 then Builtin.bitAnd a b else if c = 94 then Builtin.bitXor a b else Builtin.bitOr a b
def Fm.val (env : Nat → Int) : Fm → Int
  | .bit b => b
  | .var k => env k
  | .neg a => 1 - a.val env
  | .op c a b => joinI c (a.val env) (b.val env)
def Fm.rpn : Fm → List Tk
  | .bit b => [.sg (48 + b)]
  | .var k => [.num k]
  | .neg a => a.rpn ++ [.sg 33]
  | .op c a b => a.rpn ++ b.rpn ++ [.sg c]
def opC (l : Nat) : Nat := if l = 0 then 124 else if l = 1 then 94 else 38
/-- ts writes the tree at a level: 0 |, 1 ^, 2 &, 3 what is done first -/
inductive Wr : Nat → List Tk → Fm → Prop where
  | bit {b : Nat} (h : b < 2) : Wr 3 [.sg (48 + b)] (.bit b)
  | var {k : Nat} (h : k < 8) : Wr 3 [.num k] (.var k)
  | neg {ts : List Tk} {a : Fm} (h : Wr 3 ts a) : Wr 3 (.sg 33 :: ts) (.neg a)
  | par {ts : List Tk} {a : Fm} (h : Wr 0 ts a) : Wr 3 (.sg 40 :: (ts ++ [.sg 41])) a
  | op {l : Nat} {ts us : List Tk} {a b : Fm} (hl : l ≤ 2) (h : Wr l ts a) (h2 : Wr (l + 1) us b) : Wr l (ts ++ .sg (opC l) :: us) (.op (opC l) a b)
  | up {l : Nat} {ts : List Tk} {a : Fm} (hl : l ≤ 2) (h : Wr (l + 1) ts a) : Wr l ts a
theorem runT_app : ∀ {ts us : List Tk} {s : StW}, runT s (ts ++ us) = (runT s ts).bind fun s' => runT s' us
  | [], us, s => rfl
  | t :: ts, us, s => by
    show (stepTk s t).bind (fun s' => runT s' (ts ++ us)) = ((stepTk s t).bind fun s' => runT s' ts).bind _
    cases stepTk s t with
    | none => rfl
    | some s' => exact runT_app
theorem popW_all {s : Nat} : ∀ {pend w : List Nat} {f : List Tk}, (∀ c ∈ pend, s ≤ stR c) → (∀ c r, w = c :: r → stR c < s) → popW s f (pend ++ w) = (f ++ pend.map .sg, w)
  | [], w, f, _, hw => by
    rw [List.nil_append, List.map_nil, List.append_nil]
    cases w with
    | nil => rfl
    | cons c r =>
      unfold popW
      rw [if_neg (by have := hw c r rfl; omega)]
  | c :: pend, w, f, hp, hw => by
    rw [List.cons_append]
    unfold popW
    rw [if_pos (hp c (by simp)), popW_all (fun x hx => hp x (by simp [hx])) hw, List.map_cons, List.append_assoc]
    rfl
theorem closeW_all : ∀ {pend w : List Nat} {f : List Tk}, (∀ c ∈ pend, c ≠ 40) → closeW f (pend ++ 40 :: w) = some (f ++ pend.map .sg, w)
  | [], w, f, _ => by
    rw [List.nil_append, List.map_nil, List.append_nil]
    unfold closeW
    rw [if_pos rfl]
  | c :: pend, w, f, hp => by
    rw [List.cons_append]
    unfold closeW
    rw [if_neg (hp c (by simp)), closeW_all fun x hx => hp x (by simp [hx]), List.map_cons, List.append_assoc]
    rfl
theorem stR_op {l : Nat} (h : l ≤ 2) : stR (opC l) = l + 1 := by
  have : l = 0 ∨ l = 1 ∨ l = 2 := by omega
  rcases this with rfl | rfl | rfl <;> rfl
theorem run_wr {l : Nat} {ts : List Tk} {t : Fm} (h : Wr l ts t) : ∀ (f : List Tk) (w : List Nat), (l ≤ 2 → ∀ c r, w = c :: r → stR c ≤ l) →
    ∃ r' pend, runT ⟨f, w, true⟩ ts = some ⟨f ++ r', pend ++ w, false⟩ ∧ r' ++ pend.map .sg = t.rpn ∧ ∀ c ∈ pend, l + 1 ≤ stR c ∧ c ≠ 40 := by
  induction h with
  | @bit b hb =>
    intro f w _
    refine ⟨[.sg (48 + b)], [], ?_, rfl, fun c hc => by cases hc⟩
    have : b = 0 ∨ b = 1 := by omega
    rcases this with rfl | rfl <;> rfl
  | @var k hk =>
    intro f w _
    exact ⟨[.num k], [], rfl, rfl, fun c hc => by cases hc⟩
  | @neg ts a h ih =>
    intro f w _
    obtain ⟨r', pend, e, er, hp⟩ := ih f (33 :: w) (fun z => by omega)
    refine ⟨r', pend ++ [33], ?_, ?_, fun c hc => ?_⟩
    · show (some (StW.mk f (33 :: w) true)).bind (fun s' => runT s' ts) = _
      rw [List.append_assoc]
      exact e
    · rw [List.map_append, ← List.append_assoc, er]; rfl
    · rcases List.mem_append.mp hc with hc | hc
      · exact hp c hc
      · rw [List.mem_singleton] at hc
        subst hc
        exact ⟨by decide, by omega⟩
  | @par ts a h ih =>
    intro f w _
    obtain ⟨r', pend, e, er, hp⟩ := ih f (40 :: w) (fun _ c r z => by
      have : c = 40 := by simpa using (List.cons.inj z).1.symm
      rw [this]; decide)
    refine ⟨r' ++ pend.map .sg, [], ?_, by rw [List.map_nil, List.append_nil]; exact er, fun c hc => by cases hc⟩
    show (some (StW.mk f (40 :: w) true)).bind (fun s' => runT s' (ts ++ [.sg 41])) = _
    show runT ⟨f, 40 :: w, true⟩ (ts ++ [.sg 41]) = _
    rw [runT_app, e]
    show (stepTk ⟨f ++ r', pend ++ 40 :: w, false⟩ (.sg 41)).bind (fun s' => runT s' []) = _
    have st : stepTk ⟨f ++ r', pend ++ 40 :: w, false⟩ (.sg 41) = some ⟨f ++ r' ++ pend.map .sg, w, false⟩ := by
      show (closeW (f ++ r') (pend ++ 40 :: w)).map (fun p => StW.mk p.1 p.2 false) = _
      rw [closeW_all fun c hc => (hp c hc).2]
      rfl
    rw [st, List.append_assoc]
    rfl
  | @op l ts us a b hl h h2 ih ih2 =>
    intro f w hw
    obtain ⟨r1, p1, e1, er1, hp1⟩ := ih f w hw
    obtain ⟨r2, p2, e2, er2, hp2⟩ := ih2 (f ++ r1 ++ p1.map .sg) (opC l :: w) (fun _ c r z => by
      have : c = opC l := by simpa using (List.cons.inj z).1.symm
      rw [this, stR_op hl]; exact Nat.le_refl _)
    refine ⟨r1 ++ p1.map .sg ++ r2, p2 ++ [opC l], ?_, ?_, fun c hc => ?_⟩
    · rw [runT_app, e1]
      show (stepTk ⟨f ++ r1, p1 ++ w, false⟩ (.sg (opC l))).bind (fun s' => runT s' us) = _
      have st : stepTk ⟨f ++ r1, p1 ++ w, false⟩ (.sg (opC l)) = some ⟨f ++ r1 ++ p1.map .sg, opC l :: w, true⟩ := by
        have pw := popW_all (s := stR (opC l)) (pend := p1) (w := w) (f := f ++ r1) (fun c hc => by rw [stR_op hl]; exact (hp1 c hc).1) (fun c r z => by rw [stR_op hl]; have := hw hl c r z; omega)
        have : l = 0 ∨ l = 1 ∨ l = 2 := by omega
        rcases this with rfl | rfl | rfl
        · show some (StW.mk (popW (stR 124) (f ++ r1) (p1 ++ w)).1 (124 :: (popW (stR 124) (f ++ r1) (p1 ++ w)).2) true) = _
          have pw : popW (stR 124) (f ++ r1) (p1 ++ w) = _ := pw
          rw [pw]; rfl
        · show some (StW.mk (popW (stR 94) (f ++ r1) (p1 ++ w)).1 (94 :: (popW (stR 94) (f ++ r1) (p1 ++ w)).2) true) = _
          have pw : popW (stR 94) (f ++ r1) (p1 ++ w) = _ := pw
          rw [pw]; rfl
        · show some (StW.mk (popW (stR 38) (f ++ r1) (p1 ++ w)).1 (38 :: (popW (stR 38) (f ++ r1) (p1 ++ w)).2) true) = _
          have pw : popW (stR 38) (f ++ r1) (p1 ++ w) = _ := pw
          rw [pw]; rfl
      rw [st]
      show runT ⟨f ++ r1 ++ p1.map .sg, opC l :: w, true⟩ us = _
      rw [e2]
      simp [List.append_assoc]
    · show r1 ++ p1.map .sg ++ r2 ++ (p2 ++ [opC l]).map .sg = a.rpn ++ b.rpn ++ [.sg (opC l)]
      rw [List.map_append, ← er1, ← er2]
      simp [List.append_assoc]
    · rcases List.mem_append.mp hc with hc | hc
      · have := hp2 c hc
        exact ⟨by omega, this.2⟩
      · rw [List.mem_singleton] at hc
        subst hc
        refine ⟨by rw [stR_op hl]; exact Nat.le_refl _, ?_⟩
        unfold opC
        split
        · omega
        · split <;> omega
  | @up l ts a hl h ih =>
    intro f w hw
    obtain ⟨r', pend, e, er, hp⟩ := ih f w (fun _ c r z => by have := hw hl c r z; omega)
    exact ⟨r', pend, e, er, fun c hc => ⟨by have := (hp c hc).1; omega, (hp c hc).2⟩⟩
theorem turn_wr {ts : List Tk} {t : Fm} (h : Wr 0 ts t) : turnP ts = some t.rpn := by
  obtain ⟨r', pend, e, er, hp⟩ := run_wr h [] [] (fun _ c r z => by cases z)
  unfold turnP
  rw [e]
  show (if false = true ∨ 40 ∈ pend ++ [] then none else some (([] ++ r') ++ (pend ++ []).map .sg)) = _
  rw [List.append_nil, List.nil_append, if_neg (fun z => z.elim (fun y => by cases y) fun y => (hp 40 y).2 rfl), er]
theorem wr_ok {l : Nat} {ts : List Tk} {t : Fm} (h : Wr l ts t) : ∀ x ∈ ts, TOk x := by
  induction h with
  | @bit b hb =>
    intro x hx
    rw [List.mem_singleton] at hx
    subst hx
    have : b = 0 ∨ b = 1 := by omega
    rcases this with rfl | rfl <;> (show _ ∈ opsL; decide)
  | @var k hk =>
    intro x hx
    rw [List.mem_singleton] at hx
    subst hx
    exact hk
  | neg h ih =>
    intro x hx
    rcases List.mem_cons.mp hx with rfl | hx
    · show _ ∈ opsL; decide
    · exact ih x hx
  | par h ih =>
    intro x hx
    rcases List.mem_cons.mp hx with rfl | hx
    · show _ ∈ opsL; decide
    · rcases List.mem_append.mp hx with hx | hx
      · exact ih x hx
      · rw [List.mem_singleton] at hx
        subst hx
        show _ ∈ opsL; decide
  | @op l ts us a b hl h h2 ih ih2 =>
    intro x hx
    rcases List.mem_append.mp hx with hx | hx
    · exact ih x hx
    · rcases List.mem_cons.mp hx with rfl | hx
      · show _ ∈ opsL
        have : l = 0 ∨ l = 1 ∨ l = 2 := by omega
        rcases this with rfl | rfl | rfl <;> decide
      · exact ih2 x hx
  | up hl h ih => exact ih
end H

set_option Elab.async false
set_option linter.all false
set_option maxRecDepth 100000
set_option maxHeartbeats 2000000
namespace H
open PySem PySem.Spec PyProof.Rows L2 Y
def Fm.good (E : List Int) : Fm → Prop
  | .bit b => b < 2
  | .var k => k < 8 ∧ (k : Int) ∈ E
  | .neg a => a.good E
  | .op c a b => c ∈ [38, 94, 124] ∧ a.good E ∧ b.good E
theorem joined_ok {c : Nat} {a b : Int} (hc : c ∈ [38, 94, 124]) : C.g_joined_by [dt [c], .int a, .int b] = .ok (.fr (.int (joinI c a b))) := by
  have s1 : SgOk [c] := fun x hx => by
    rw [List.mem_singleton] at hx
    simp only [List.mem_cons, List.not_mem_nil, or_false] at hc
    omega
  have e1 := eq_dt (a := [c]) (b := [38]) s1 (fun x hx => by rw [List.mem_singleton] at hx; omega)
  have e2 := eq_dt (a := [c]) (b := [94]) s1 (fun x hx => by rw [List.mem_singleton] at hx; omega)
  simp only [List.mem_cons, List.not_mem_nil, or_false] at hc
  simp only [C.g_joined_by, C.m_joined_by, s_and, s_xor]
  rcases hc with rfl | rfl | rfl
  · have e1 : eqD (dt [38]) (.str (tx [38])) = .ok (.bl true) := by rw [e1]; simp
    show _ = R.ok (Hd.fr (.int (Builtin.bitAnd a b)))
    simp only [dt] at *
    generalize D.str (tx [38]) = Z at *
    generalize D.str (tx [94]) = Z2 at *
    simp [e_fnP, e1]
  · have e1 : eqD (dt [94]) (.str (tx [38])) = .ok (.bl false) := by rw [e1]; simp
    have e2 : eqD (dt [94]) (.str (tx [94])) = .ok (.bl true) := by rw [e2]; simp
    show _ = R.ok (Hd.fr (.int (Builtin.bitXor a b)))
    simp only [dt] at *
    generalize D.str (tx [38]) = Z at *
    generalize D.str (tx [94]) = Z2 at *
    simp [e_fnP, e1, e2]
  · have e1 : eqD (dt [124]) (.str (tx [38])) = .ok (.bl false) := by rw [e1]; simp
    have e2 : eqD (dt [124]) (.str (tx [94])) = .ok (.bl false) := by rw [e2]; simp
    show _ = R.ok (Hd.fr (.int (Builtin.bitOr a b)))
    simp only [dt] at *
    generalize D.str (tx [38]) = Z at *
    generalize D.str (tx [94]) = Z2 at *
    generalize D.str (tx [124]) = Z3 at *
    simp [e_fnP, e1, e2]
abbrev rhoC (P B : Option D) (S : List D) : Y.Env := [P, B, some (.lst S), none, none]
theorem come_num {P : Option D} {E V : List Int} {k : Nat} {S : List D} (hl : E.length = V.length) (hk : (k : Int) ∈ E) (hS : S.length ≤ 50000) :
    turnF (tmName 3) C.b_come_to_1 [3, 4] (dTk (.num k)) (rhoC P (some (dkI E V)) S) = .ok (.nx, rhoC P (some (dkI E V)) (S ++ [.int (lkI E V k)])) := by
  have f := find_in hl hk
  have gd : getDic (dkI E V) (.int (k : Nat)) = .ok (findD (kt E) (V.map D.int) (Sum.inl (k : Int))) := rfl
  rw [f] at gd
  have z : szOk (S.length + 1) = true := szOk_of (by omega)
  show turnF _ _ _ (.int (k : Nat)) _ = _
  simp only [turnF, C.b_come_to_1]
  generalize dkI E V = B at *
  generalize lkI E V (k : Int) = v at *
  simp [e_dget, gd, z, noDit, Y.isInt]
theorem come_bit {P B : Option D} {c : Nat} {S : List D} (hc : c = 48 ∨ c = 49) (hS : S.length ≤ 50000) :
    turnF (tmName 3) C.b_come_to_1 [3, 4] (dTk (.sg c)) (rhoC P B S) = .ok (.nx, rhoC P B (S ++ [.int ((c : Int) - 48)])) := by
  have z : szOk (S.length + 1) = true := szOk_of (by omega)
  have i1 := in_text (c := c) (l := [48, 49])
  have q := int_of_sg hc
  have c1 : c ∈ [48, 49] := by simp only [List.mem_cons, List.not_mem_nil, or_false]; exact hc
  rw [decide_eq_true c1] at i1
  show turnF _ _ _ (dt [c]) _ = _
  simp only [turnF, C.b_come_to_1, s_bitQ]
  simp only [dt] at *
  generalize tx [c] = Z at *
  generalize D.str (tx [48, 49]) = S2 at *
  generalize (c : Int) - 48 = v at *
  simp [i1, q, z, noDit, Y.isInt]
theorem come_neg {P B : Option D} {a : Int} {S : List D} (hS : S.length ≤ 50000) :
    turnF (tmName 3) C.b_come_to_1 [3, 4] (dTk (.sg 33)) (rhoC P B (S ++ [.int a])) = .ok (.nx, rhoC P B (S ++ [.int (1 - a)])) := by
  have z : szOk (S.length + 1) = true := szOk_of (by omega)
  have i1 := in_text (c := 33) (l := [48, 49])
  have e1 := eq_dt (a := [33]) (b := [33]) (fun x hx => by rw [List.mem_singleton] at hx; omega) (fun x hx => by rw [List.mem_singleton] at hx; omega)
  have i1 : inD (dt [33]) (.str (tx [48, 49])) = .ok (.bl false) := i1
  have e1 : eqD (dt [33]) (.str (tx [33])) = .ok (.bl true) := by rw [e1]; simp
  obtain ⟨p1, p2⟩ := pop_last (xs := S) (x := .int a)
  show turnF _ _ _ (dt [33]) [P, B, some (.lst (S ++ [.int a])), none, none] = R.ok (Fl.nx, [P, B, some (.lst (S ++ [.int (1 - a)])), none, none])
  simp only [turnF, C.b_come_to_1, s_bitQ, s_not]
  simp only [dt] at *
  generalize tx [33] = Z at *
  generalize D.str (tx [48, 49]) = S2 at *
  generalize hL : S ++ [D.int a] = L at *
  simp [i1, e1, p1, p2, z, noDit, Y.isInt]
theorem come_op {P B : Option D} {c : Nat} {a b : Int} {S : List D} (hc : c ∈ [38, 94, 124]) (hS : S.length ≤ 50000) :
    turnF (tmName 3) C.b_come_to_1 [3, 4] (dTk (.sg c)) (rhoC P B (S ++ [.int a] ++ [.int b])) = .ok (.nx, rhoC P B (S ++ [.int (joinI c a b)])) := by
  have z : szOk (S.length + 1) = true := szOk_of (by omega)
  have s1 : SgOk [c] := fun x hx => by
    rw [List.mem_singleton] at hx
    simp only [List.mem_cons, List.not_mem_nil, or_false] at hc
    omega
  have i1 := in_text (c := c) (l := [48, 49])
  have e1 := eq_dt (a := [c]) (b := [33]) s1 (fun x hx => by rw [List.mem_singleton] at hx; omega)
  have c1 : c ∉ [48, 49] := fun z => by
    simp only [List.mem_cons, List.not_mem_nil, or_false] at z hc
    omega
  have c2 : c ≠ 33 := fun z => by
    simp only [List.mem_cons, List.not_mem_nil, or_false] at hc
    omega
  rw [decide_eq_false c1] at i1
  have e1 : eqD (dt [c]) (.str (tx [33])) = .ok (.bl false) := by rw [e1]; simp [c2]
  have nl : (dt [c]).nl = true := rfl
  have jo := joined_ok (a := a) (b := b) hc
  obtain ⟨p1, p2⟩ := pop_last (xs := S ++ [.int a]) (x := .int b)
  obtain ⟨p3, p4⟩ := pop_last (xs := S) (x := .int a)
  show turnF _ _ _ (dt [c]) [P, B, some (.lst (S ++ [.int a] ++ [.int b])), none, none] = R.ok (Fl.nx, [P, B, some (.lst (S ++ [.int (joinI c a b)])), none, none])
  simp only [turnF, C.b_come_to_1, s_bitQ, s_not]
  simp only [dt] at *
  generalize joinI c a b = v at *
  generalize tx [c] = Z at *
  generalize D.str (tx [48, 49]) = S2 at *
  generalize D.str (tx [33]) = S3 at *
  generalize hL2 : S ++ [D.int a] ++ [D.int b] = L2 at *
  generalize hL : S ++ [D.int a] = L at *
  simp [i1, e1, p1, p2, p3, p4, z, jo, nl, noDit, Y.isInt]
theorem come_fm {P : Option D} {E V : List Int} (hl : E.length = V.length) : ∀ (t : Fm) (S : List D) (rest : List Tk), t.good E → S.length + t.rpn.length ≤ 40000 →
    forL (tmName 3) C.b_come_to_1 [3, 4] [] ((t.rpn ++ rest).map dTk) (rhoC P (some (dkI E V)) S) = forL (tmName 3) C.b_come_to_1 [3, 4] [] (rest.map dTk) (rhoC P (some (dkI E V)) (S ++ [.int (t.val fun k => lkI E V k)]))
  | .bit b, S, rest, hg, hS => by
    have hb : b < 2 := hg
    have t := come_bit (P := P) (B := some (dkI E V)) (c := 48 + b) (S := S) (by omega) (by omega)
    have e : (((48 + b : Nat) : Int) - 48) = (b : Int) := by omega
    rw [e] at t
    exact for_cons t (fun _ z => by cases z) rfl
  | .var k, S, rest, hg, hS => for_cons (come_num hl hg.2 (by omega)) (fun _ z => by cases z) rfl
  | .neg a, S, rest, hg, hS => by
    have hS : S.length + (a.rpn ++ [Tk.sg 33]).length ≤ 40000 := hS
    rw [List.length_append, List.length_singleton] at hS
    have ih := come_fm (P := P) hl a S ([Tk.sg 33] ++ rest) hg (by omega)
    show forL _ _ _ _ ((a.rpn ++ [Tk.sg 33] ++ rest).map dTk) _ = _
    rw [List.append_assoc, ih]
    exact for_cons (come_neg (by omega)) (fun _ z => by cases z) rfl
  | .op c a b, S, rest, hg, hS => by
    obtain ⟨hc, ha, hb⟩ := hg
    have hS : S.length + (a.rpn ++ b.rpn ++ [Tk.sg c]).length ≤ 40000 := hS
    rw [List.length_append, List.length_append, List.length_singleton] at hS
    have ra : 1 ≤ a.rpn.length := by
      cases a <;> simp [Fm.rpn] <;> omega
    have ih := come_fm (P := P) hl a S (b.rpn ++ ([Tk.sg c] ++ rest)) ha (by omega)
    have ih2 := come_fm (P := P) hl b (S ++ [.int (a.val fun k => lkI E V k)]) ([Tk.sg c] ++ rest) hb (by rw [List.length_append, List.length_singleton]; omega)
    show forL _ _ _ _ ((a.rpn ++ b.rpn ++ [Tk.sg c] ++ rest).map dTk) _ = _
    rw [List.append_assoc, List.append_assoc, ih, ih2]
    exact for_cons (come_op hc (by omega)) (fun _ z => by cases z) rfl
theorem come_ok {E V : List Int} {t : Fm} (hl : E.length = V.length) (hg : t.good E) (hS : t.rpn.length ≤ 40000) : C.g_come_to [.lst (t.rpn.map dTk), dkI E V] = .ok (.vl (.int (t.val fun k => lkI E V k))) := by
  have f := come_fm (P := some (.lst (t.rpn.map dTk))) hl t [] [] hg (by simpa using hS)
  rw [List.append_nil, List.nil_append] at f
  have f : forL (tmName 3) C.b_come_to_1 [3, 4] [] (t.rpn.map dTk) [some (.lst (t.rpn.map dTk)), some (dkI E V), some (.lst []), none, none] = .ok (.nx, [some (.lst (t.rpn.map dTk)), some (dkI E V), some (.lst [.int (t.val fun k => lkI E V k)]), none, none]) := f
  have z : szOk (t.rpn.map dTk).length = true := szOk_of (by rw [List.length_map]; omega)
  simp only [C.g_come_to, C.m_come_to]
  generalize (t.val fun k => lkI E V k) = v at *
  generalize C.b_come_to_1 = B1 at *
  generalize dkI E V = B at *
  generalize t.rpn.map dTk = T at *
  have x0 : ixD (.lst [.int v]) (.int 0) = .ok (.int v) := rfl
  simp [e_fnP, z, f, x0, shAt, chkO_ws]
end H

set_option Elab.async false
set_option linter.all false
set_option maxRecDepth 100000
set_option maxHeartbeats 2000000
namespace H
open PySem PySem.Spec PyProof.Rows L2 Y
theorem dictZ_Q {N rd : List Int} (hl : N.length = rd.length) (nd : N.Nodup) (hz : N.length ≤ 1000) : dictZ (ti N) (ti rd) = .ok (dkI N rd) := by
  have ktn : (kt N).Nodup := List.Pairwise.map (R := (· ≠ ·)) _ (fun a b h z => h (Sum.inl.inj z)) nd
  show (if (N.map D.int).length = (rd.map D.int).length ∧ szOk (N.map D.int).length = true then _ else _) = _
  rw [if_pos ⟨by rw [List.length_map, List.length_map, hl], szOk_of (by rw [List.length_map]; omega)⟩, keys_ti]
  show (if (kt _).Nodup then _ else _) = _
  rw [if_pos ktn]
def numsT : List Tk → List Int
  | [] => []
  | .num k :: r => (k : Int) :: numsT r
  | .sg _ :: r => numsT r
theorem numsT_app : ∀ {a b : List Tk}, numsT (a ++ b) = numsT a ++ numsT b
  | [], b => rfl
  | .num k :: a, b => congrArg ((k : Int) :: ·) (numsT_app (a := a))
  | .sg _ :: a, b => numsT_app (a := a)
theorem lex_len : ∀ {n : Nat} {cs : List Nat} {ts : List Tk}, lexF n cs = some ts → ts.length ≤ n
  | 0, cs, ts, h => by
    have : some [] = some ts := h
    cases this; exact Nat.le_refl _
  | n + 1, [], ts, h => by
    have : some [] = some ts := h
    cases this; exact Nat.zero_le _
  | n + 1, c :: r, ts, h => by
    unfold lexF at h
    by_cases c1 : c = 115
    · rw [if_pos c1] at h
      cases r with
      | nil => cases h
      | cons e r2 =>
        have h : (if e ∈ figL then (lexF n r2).map (Tk.num (e - 48) :: ·) else none) = some ts := h
        by_cases c2 : e ∈ figL
        · rw [if_pos c2] at h
          obtain ⟨us, hu, rfl⟩ := Option.map_eq_some_iff.mp h
          have := lex_len hu
          rw [List.length_cons]; omega
        · rw [if_neg c2] at h; cases h
    · rw [if_neg c1] at h
      by_cases c2 : c ∈ opsL
      · rw [if_pos c2] at h
        obtain ⟨us, hu, rfl⟩ := Option.map_eq_some_iff.mp h
        have := lex_len hu
        rw [List.length_cons]; omega
      · rw [if_neg c2] at h
        by_cases c3 : c = 32
        · rw [if_pos c3] at h
          have := lex_len h
          omega
        · rw [if_neg c3] at h; cases h
theorem wr_len {l : Nat} {ts : List Tk} {t : Fm} (h : Wr l ts t) : t.rpn.length ≤ ts.length := by
  induction h with
  | bit h => exact Nat.le_refl _
  | var h => exact Nat.le_refl _
  | neg h ih => show (_ ++ [_]).length ≤ _; rw [List.length_append, List.length_cons]; exact Nat.add_le_add_right ih 1
  | par h ih => rw [List.length_cons, List.length_append]; omega
  | op hl h h2 ih ih2 =>
    show (_ ++ _ ++ [_]).length ≤ _
    simp only [List.length_append, List.length_cons, List.length_nil]
    omega
  | up hl h ih => exact ih
theorem opC_mem {l : Nat} : opC l ∈ [38, 94, 124] := by
  unfold opC
  split
  · decide
  · split <;> decide
theorem wr_good {E : List Int} {l : Nat} {ts : List Tk} {t : Fm} (h : Wr l ts t) : (∀ k ∈ numsT t.rpn, k ∈ E) → t.good E := by
  induction h with
  | bit h => intro _; exact h
  | @var k h => intro q; exact ⟨h, q k (by simp [Fm.rpn, numsT])⟩
  | neg h ih =>
    intro q
    refine ih fun k hk => q k ?_
    show k ∈ numsT (_ ++ [_])
    rw [numsT_app]
    exact List.mem_append_left _ hk
  | par h ih => exact ih
  | @op l ts us a b hl h h2 ih ih2 =>
    intro q
    refine ⟨opC_mem, ih fun k hk => q k ?_, ih2 fun k hk => q k ?_⟩
    all_goals
      show k ∈ numsT (_ ++ _ ++ [_])
      rw [numsT_app, numsT_app]
    · exact List.mem_append_left _ (List.mem_append_left _ hk)
    · exact List.mem_append_left _ (List.mem_append_right _ hk)
  | up hl h ih => exact ih
def earsR (t : Fm) : List Int := setI (numsT t.rpn)
def rdR (t : Fm) : RuleT := (earsR t, (stands (earsR t).length).map fun st => t.val fun k => lkI (earsR t) st k)
def isN : Tk → Bool
  | .num _ => true
  | .sg _ => false
theorem nums_filter : ∀ {ts : List Tk}, (ts.filter isN).map dTk = (numsT ts).map D.int
  | [] => rfl
  | .num k :: r => by
    show dTk (.num k) :: (r.filter isN).map dTk = _
    rw [nums_filter]; rfl
  | .sg c :: r => nums_filter (ts := r)
theorem nums_comp {A B C2 D2 E2 : Option D} {ts : List Tk} : cCompL (tmName 5) C.t_read_rule_1 C.e_read_rule_1 [5] [] (ts.map dTk) [A, B, C2, D2, E2, none] = .ok ((numsT ts).map D.int, [A, B, C2, D2, E2, none]) := by
  have := comp_filter (tm := tmName 5) (t := C.t_read_rule_1) (e := C.e_read_rule_1) (vs := [5]) (ws := []) (ρ := [A, B, C2, D2, E2, none]) dTk isN dTk ts fun x _ => by
    cases x with
    | num k =>
      show turnC _ _ _ _ (.int (k : Nat)) _ = R.ok (some (D.int (k : Nat)), _)
      simp [turnC, C.t_read_rule_1, C.e_read_rule_1, Y.isInt, noDit]
    | sg c =>
      show turnC _ _ _ _ (dt [c]) _ = R.ok (none, _)
      simp [turnC, C.t_read_rule_1, C.e_read_rule_1, Y.isInt, noDit]
  rw [this, nums_filter]
theorem numsT_len : ∀ {ts : List Tk}, (numsT ts).length ≤ ts.length
  | [] => Nat.le_refl _
  | .num k :: r => by show (_ :: _).length ≤ (_ :: _).length; rw [List.length_cons, List.length_cons]; exact Nat.add_le_add_right numsT_len 1
  | .sg c :: r => by
    have := numsT_len (ts := r)
    show (numsT r).length ≤ (_ :: _).length
    rw [List.length_cons]; omega
theorem for_growQ {α : Type} {tm : GM} {body : SM} {vs : List Nat} {N : Nat} (F f : α → D) (rho : List D → Y.Env) : ∀ (xs : List α) (T : List D), (∀ T x, x ∈ xs → T.length < N → turnF tm body vs (F x) (rho T) = .ok (.nx, rho (T ++ [f x]))) → T.length + xs.length ≤ N →
    forL tm body vs [] (xs.map F) (rho T) = .ok (.nx, rho (T ++ xs.map f))
  | [], T, _, _ => by rw [List.map_nil, List.map_nil, List.append_nil]; rfl
  | x :: xs, T, h, hl => by
    rw [List.length_cons] at hl
    have ih := for_growQ (tm := tm) (body := body) (vs := vs) (N := N) F f rho xs (T ++ [f x]) (fun T y hy hT => h T y (by simp [hy]) hT) (by rw [List.length_append, List.length_singleton]; omega)
    rw [List.append_assoc] at ih
    exact for_cons (h T x (by simp) (by omega)) (fun _ z => by cases z) ih
theorem read_rule_ok {cs : List Nat} {ts : List Tk} {t : Fm} (hc : ∀ c ∈ cs, c < 1000) (hl : cs.length ≤ 3000) (hx : lexN cs = some ts) (hw : Wr 0 ts t) (h4 : (earsR t).length ≤ 4) :
    C.g_read_rule [dt cs] = .ok (.fr (dRule (rdR t))) := by
  have tl : ts.length ≤ cs.length := lex_len hx
  have rl := wr_len hw
  have p1 := parts_ok hc (by omega)
  rw [hx] at p1
  have p1 : C.g_parts_in [dt cs] = .ok (.fr (.lst (ts.map dTk))) := p1
  have p2 := in_turn_ok (wr_ok hw) (by omega)
  rw [turn_wr hw] at p2
  have p2 : C.g_in_turn [.lst (ts.map dTk)] = .ok (.fr (.lst (t.rpn.map dTk))) := p2
  have nc := nums_comp (A := some (dt cs)) (B := some (.lst (t.rpn.map dTk))) (C2 := none) (D2 := none) (E2 := none) (ts := t.rpn)
  have nl := numsT_len (ts := t.rpn)
  have sq : seqI (.lst ((numsT t.rpn).map D.int)) = some (numsT t.rpn) := seqI_l
  have d64 : (dedupI (numsT t.rpn)).length < 64 := by
    have := setI_len (xs := numsT t.rpn)
    have h4 : (setI (numsT t.rpn)).length ≤ 4 := h4
    omega
  have good := wr_good (E := earsR t) hw fun k hk => setI_mem.mpr hk
  have st : C.g_stands_of [.int (earsR t).length] = .ok (.vl (.lst ((stands (earsR t).length).map ti))) := stands_of_ok (m := (earsR t).length) (by omega)
  have s16 : (stands (earsR t).length).length ≤ 16 := by
    rw [stands_len]
    have : 2 ^ (earsR t).length ≤ 2 ^ 4 := Nat.pow_le_pow_right (by omega) h4
    omega
  have lp := for_growQ (tm := tmName 4) (body := C.b_read_rule_1) (vs := [4]) (N := 16) ti (fun st => D.int (t.val fun k => lkI (earsR t) st k))
    (fun T => [some (dt cs), some (.lst (t.rpn.map dTk)), some (ti (earsR t)), some (.lst T), none, none]) (stands (earsR t).length) [] (fun T rd hrd hT => by
      have hs := (stands_st hrd).len
      have dz := dictZ_Q (N := earsR t) (rd := rd) hs.symm setI_nodup (by omega)
      have co := come_ok (V := rd) hs.symm good (by omega)
      have zt : szOk (T.length + 1) = true := szOk_of (by omega)
      simp only [turnF, C.b_read_rule_1]
      generalize (t.val fun k => lkI (earsR t) rd k) = v at *
      generalize ti rd = RD at *
      generalize ti (earsR t) = EA at *
      generalize dkI (earsR t) rd = DK at *
      generalize t.rpn.map dTk = RP at *
      generalize dt cs = CS at *
      simp [dz, co, zt]) (by simpa using s16)
  have tb : (stands (earsR t).length).map (fun st => D.int (t.val fun k => lkI (earsR t) st k)) = (rdR t).2.map D.int := by
    show _ = (List.map _ _).map D.int
    rw [List.map_map]; rfl
  rw [tb, List.nil_append] at lp
  have isS : Y.isStr (dt cs) = true := rfl
  have nd : noDit (dt cs) = true := rfl
  have tu2 : tupleD [.lst ((rdR t).2.map D.int)] = .ok (ti (rdR t).2) := rfl
  have g4 : ¬ ((4 : Int) < ((earsR t).length : Nat)) := by omega
  have zr : szOk (t.rpn.map dTk).length = true := szOk_of (by rw [List.length_map]; omega)
  have zs : szOk ((stands (earsR t).length).map ti).length = true := szOk_of (by rw [List.length_map]; omega)
  have zn : (numsT t.rpn).length ≤ 4000 := by omega
  have es : setI (numsT t.rpn) = earsR t := rfl
  show _ = R.ok (Hd.fr (.tup [ti (earsR t), ti (rdR t).2]))
  simp only [C.g_read_rule, C.m_read_rule]
  generalize C.b_read_rule_1 = B1 at *
  generalize (rdR t).2.map D.int = TB at *
  generalize ti (rdR t).2 = TB2 at *
  generalize t.rpn.map dTk = RP at *
  generalize ((stands (earsR t).length).map ti) = SL at *
  generalize earsR t = E at *
  generalize ts.map dTk = TS at *
  generalize dt cs = CS at *
  simp [e_fnP, isS, nd, p1, p2, nc, zr, zs, sq, d64, zn, es, g4, st, lp, tu2, shAt, chkO_ws]
end H

set_option Elab.async false
set_option linter.all false
set_option maxRecDepth 100000
set_option maxHeartbeats 2000000
namespace H
open PySem PySem.Spec PyProof.Rows L2 Y
def Lx (cs : List Nat) (ts : List Tk) : Prop := ∀ r, lexN (cs ++ r) = (lexN r).map (ts ++ ·)
theorem Lx.nil : Lx [] [] := fun r => by
  show lexN r = _
  cases lexN r <;> rfl
theorem Lx.app {a b : List Nat} {s t : List Tk} (h : Lx a s) (h2 : Lx b t) : Lx (a ++ b) (s ++ t) := fun r => by
  rw [List.append_assoc, h, h2, Option.map_map]
  congr 1
  funext x
  exact (List.append_assoc _ _ _).symm
theorem Lx.get {cs : List Nat} {ts : List Tk} (h : Lx cs ts) : lexN cs = some ts := by
  have := h []
  rw [List.append_nil, lex_nil] at this
  rw [this]
  show some (ts ++ []) = _
  rw [List.append_nil]
theorem Lx.num {k : Nat} (h : k < 8) : Lx [115, 48 + k] [.num k] := fun r => by
  show lexN (115 :: (48 + k) :: r) = _
  rw [lex_s (by simp only [figL, List.mem_cons, List.not_mem_nil, or_false]; omega), show 48 + k - 48 = k by omega]
  rfl
theorem Lx.op {c : Nat} (h : c ∈ opsL) : Lx [c] [.sg c] := fun r => by
  show lexN (c :: r) = _
  rw [lex_op h]; rfl
theorem Lx.sp : Lx [32] [] := fun r => by
  show lexN (32 :: r) = _
  rw [lex_sp]
  cases lexN r <;> rfl
def joinK (c : Nat) : List (List Tk) → List Tk
  | [] => []
  | x :: xs => x ++ (xs.map (Tk.sg c :: ·)).flatten
theorem joinL_flat {sep : List Nat} : ∀ {xs : List (List Nat)} {x : List Nat}, TL.joinL sep (x :: xs) = x ++ (xs.map (sep ++ ·)).flatten
  | [], x => by simp [TL.joinL]
  | y :: xs, x => by
    show x ++ (sep ++ TL.joinL sep (y :: xs)) = _
    rw [joinL_flat, List.map_cons, List.flatten_cons, List.append_assoc]
theorem Lx.join {α : Type} {sep : List Nat} {c : Nat} {f : α → List Nat} {g : α → List Tk} (hs : Lx sep [.sg c]) {xs : List α} (h : ∀ x ∈ xs, Lx (f x) (g x)) : Lx (TL.joinL sep (xs.map f)) (joinK c (xs.map g)) := by
  cases xs with
  | nil => exact Lx.nil
  | cons x xs =>
    rw [List.map_cons, List.map_cons, joinL_flat]
    refine (h x (by simp)).app ?_
    have h2 : ∀ y ∈ xs, Lx (f y) (g y) := fun y hy => h y (by simp [hy])
    clear h
    induction xs with
    | nil => exact Lx.nil
    | cons y ys ih =>
      rw [List.map_cons, List.map_cons, List.map_cons, List.map_cons, List.flatten_cons, List.flatten_cons]
      refine Lx.app ?_ (ih fun z hz => h2 z (by simp [hz]))
      exact hs.app (h2 y (by simp))
end H

set_option Elab.async false
set_option linter.all false
set_option maxRecDepth 100000
set_option maxHeartbeats 2000000
namespace H
open PySem PySem.Spec PyProof.Rows L2 Y
end H

set_option Elab.async false
set_option linter.all false
set_option maxRecDepth 100000
set_option maxHeartbeats 2000000
namespace H
open PySem PySem.Spec PyProof.Rows L2 Y
theorem s_ampQ : Str.ofString "&" = tx [38] := by decide +kernel
theorem ad2 : addD (dt [33]) (dt [115]) = .ok (dt [33, 115]) := add_dt (by simp)
theorem ix_tiQ {st : List Int} {j : Nat} (h : j < st.length) : ixD (ti st) (.int (j : Nat)) = .ok (.int (st.getD j 0)) := by
  rw [d_ixT]
  have : atI (st.map D.int) (j : Int) = some (.int (st.getD j 0)) := by
    rw [atI_nat' (by rw [List.length_map]; exact h), List.getElem_map, getD_lt h]
  rw [this]
theorem rng1_Q {n : Nat} (h : n ≤ 1000) : rng1D [.int (n : Nat)] = .ok ((List.range n).map fun j : Nat => D.int (j : Nat)) := by
  have rk : rngOk (n : Nat) = true := rngOk_of (by omega) (by omega)
  rw [d_rng1, if_pos rk]; rfl
theorem len_tiQ {st : List Int} : lenD [ti st] = .ok (.int (st.length : Nat)) := by
  rw [d_lenT, List.length_map]
theorem law_is_rule_ok {m : Nat} {r : RuleT} (h : RuleOk m r) : C.g__law_is_rule_2 [dRule r, dRule r] = .ok (.fr (.bl true)) := by
  have h4 := h.len
  have ht := h.tab
  have t16 : r.2.length ≤ 16 := by
    have : 2 ^ r.1.length ≤ 2 ^ 4 := Nat.pow_le_pow_right (by omega) h4
    omega
  have bt := bits2_ok (m := r.2.length) (st := r.2) (by omega) ⟨rfl, h.bit⟩
  have ln := len_tiQ (st := r.2)
  have c := comp_map (tm := tmName 2) (t := cYes) (e := C.e__law_is_rule_2_1) (vs := [2]) (ws := []) (ρ := [some (dRule r), some (dRule r), none]) D.int (fun _ => D.bl true) r.1 fun x hx => by
    have w := law_whole2_ok (i := x)
    simp only [turnC, C.e__law_is_rule_2_1]
    generalize dRule r = DR
    simp [w]
  have e1 : (r.1.map fun _ => D.bl true) = (r.1.map fun _ => true).map D.bl := by rw [List.map_map]; rfl
  rw [e1] at c
  have al := d_all (xs := r.1.map fun _ => true)
  have at' : (r.1.map fun _ => true).all id = true := by simp
  rw [at'] at al
  have zq : szOk ((r.1.map fun _ => true).map D.bl).length = true := szOk_of (by simp; omega)
  have eqR := eqD_refl (fit_rule (n := 0) (r := r))
  have c : cCompL (tmName 2) cYes C.e__law_is_rule_2_1 [2] [] (r.1.map D.int) [some (.tup [ti r.1, ti r.2]), some (.tup [ti r.1, ti r.2]), none] = _ := c
  have eq : eqD (.tup [ti r.1, ti r.2]) (.tup [ti r.1, ti r.2]) = _ := eqR
  have x0 : ∀ x y : D, ixD (.tup [x, y]) (.int 0) = .ok x := fun _ _ => rfl
  have x1 : ∀ x y : D, ixD (.tup [x, y]) (.int 1) = .ok y := fun _ _ => rfl
  have it : Y.itD (ti r.1) = .ok (r.1.map D.int) := rfl
  have l2 : ∀ x y : D, lenD [.tup [x, y]] = .ok (.int 2) := fun _ _ => rfl
  show C.g__law_is_rule_2 [.tup [.tup (r.1.map D.int), .tup (r.2.map D.int)], .tup [.tup (r.1.map D.int), .tup (r.2.map D.int)]] = _
  have zM : szOk (r.1.map D.int).length = true := szOk_of (by rw [List.length_map]; omega)
  simp only [C.g__law_is_rule_2, C.m__law_is_rule_2]
  simp only [ti] at *
  generalize hq : (r.1.map fun _ => true).map D.bl = Q at *
  generalize C.e__law_is_rule_2_1 = B at *
  generalize r.2.map D.int = T at *
  generalize hM : r.1.map D.int = M at *
  simp [e_fnP, x0, x1, bt, ln, c, zq, zM, al, eq, eqR, l2, noDit, Y.isTup, -d_lenT, -d_lenL]
end H

set_option Elab.async false
set_option linter.all false
set_option maxRecDepth 100000
set_option maxHeartbeats 2000000
namespace H
open PySem PySem.Spec PyProof.Rows L2 Y
end H

set_option Elab.async false
set_option linter.all false
set_option maxRecDepth 100000
set_option maxHeartbeats 4000000
namespace H
open PySem PySem.Spec PyProof.Rows L2 Y
end H

set_option Elab.async false
set_option linter.all false
set_option maxRecDepth 100000
set_option maxHeartbeats 2000000
namespace H
open PySem PySem.Spec PyProof.Rows L2 Y
def Fm.d : Fm → D
  | .bit b => .tup [dt [48 + b]]
  | .var k => .tup [dt [115], .int (k : Nat)]
  | .neg a => .tup [dt [33], a.d]
  | .op c a b => .tup [dt [c], a.d, b.d]
def Fm.okE (E : List Nat) : Fm → Prop
  | .bit b => b < 2
  | .var k => k ∈ E
  | .neg a => a.okE E
  | .op c a b => c ∈ [38, 94, 124] ∧ a.okE E ∧ b.okE E
def Fm.dep : Fm → Nat
  | .bit _ => 0
  | .var _ => 0
  | .neg a => a.dep + 1
  | .op _ a b => max a.dep b.dep + 1
theorem nil_ln {E : List Nat} : eqD (ln' E) (.lst []) = .ok (.bl E.isEmpty) := by
  have e : ln' E = li (E.map fun k : Nat => (k : Int)) := by
    show D.lst _ = D.lst _
    rw [List.map_map]; rfl
  have e2 : D.lst [] = li [] := rfl
  rw [e, e2, eqD_of (n := 1) fit_li fit_li]
  show R.ok (D.bl (eqP (.lst _) (.lst _))) = _
  rw [eqP_lst, eqPs_ints]
  cases E <;> rfl
theorem s_ops3 : Str.ofString "&^|" = tx [38, 94, 124] := by decide +kernel
theorem dig_nat {b : Int} {m : Nat} (h : 0 < m) : ∃ j : Nat, b % (m : Int) = j ∧ j < m := by
  have h1 := Int.emod_nonneg b (b := (m : Int)) (by omega)
  have h2 := Int.emod_lt_of_pos b (b := (m : Int)) (by omega)
  exact ⟨(b % (m : Int)).toNat, by omega, by omega⟩
theorem ix_lnQ {E : List Nat} {j : Nat} (h : j < E.length) : ixD (ln' E) (.int (j : Nat)) = .ok (.int (E.getD j 0 : Nat)) := by
  show (match atI (E.map fun k : Nat => D.int (k : Nat)) (j : Int) with | some d => R.ok d | none => .stk) = _
  have : atI (E.map fun k : Nat => D.int (k : Nat)) (j : Int) = some (.int (E.getD j 0 : Nat)) := by
    rw [atI_nat' (by rw [List.length_map]; exact h), List.getElem_map, getD_lt h]
  rw [this]
theorem law_tree_ok {E : List Nat} (h8 : E.length ≤ 8) : ∀ (n deep : Nat) (b : Int), deep < n → ∃ (t : Fm) (b' : Int), C.r__law_tree n [.lst [.int b], ln' E, .int (deep : Nat)] = .ok (.fr t.d, [some (.lst [.int b']), none, none]) ∧ t.okE E ∧ t.dep ≤ deep
  | 0, deep, b, h => absurd h (by omega)
  | n + 1, deep, b, h => by
    have t9 : ∀ b : Int, C.g__law_take_2 [.lst [.int b], .int 9] = .ok (.vl (.int (b % 9)), [some (.lst [.int (b / 9)]), none]) := fun b => take2_ok (by omega) (by omega)
    have t2 : ∀ b : Int, C.g__law_take_2 [.lst [.int b], .int 2] = .ok (.vl (.int (b % 2)), [some (.lst [.int (b / 2)]), none]) := fun b => take2_ok (by omega) (by omega)
    have t3 : ∀ b : Int, C.g__law_take_2 [.lst [.int b], .int 3] = .ok (.vl (.int (b % 3)), [some (.lst [.int (b / 3)]), none]) := fun b => take2_ok (by omega) (by omega)
    have nE := nil_ln (E := E)
    have lnE : lenD [ln' E] = .ok (.int (E.length : Nat)) := by simp
    show ∃ (t : Fm) (b' : Int), fnD 3 5 [0] (C.m__law_tree (C.r__law_tree n)) _ = _ ∧ _
    by_cases c : deep = 0 ∨ b % 9 < 2
    · by_cases e : E = []
      · obtain ⟨j, hj, hj2⟩ := dig_nat (b := b / 9) (m := 2) (by omega)
        have hj : b / 9 % 2 = (j : Int) := hj
        have st := str_intQ (k := j) (by omega)
        subst e
        have nE : eqD (ln' []) (.lst []) = .ok (.bl true) := nE
        refine ⟨.bit j, b / 9 / 2, ?_, hj2, Nat.zero_le _⟩
        show _ = R.ok (Hd.fr (.tup [dt [48 + j]]), _)
        simp only [C.m__law_tree]
        generalize C.r__law_tree n = G at *
        simp only [dt] at *
        generalize D.str (tx [48 + j]) = S1 at *
        generalize ln' [] = LE at *
        rcases c with c | c
        · subst c
          simp [e_fnD, t9, t2, hj, nE, st]
        · by_cases d : (deep : Int) = 0
          · simp [e_fnD, t9, t2, hj, nE, st, c, d]
          · simp [e_fnD, t9, t2, hj, nE, st, c, d]
      · have en : E.isEmpty = false := by cases E with | nil => exact absurd rfl e | cons => rfl
        rw [en] at nE
        have lp : 0 < E.length := List.length_pos_iff.mpr e
        by_cases d : b / 9 % 9 = 0
        · obtain ⟨j, hj, hj2⟩ := dig_nat (b := b / 9 / 9) (m := 2) (by omega)
          have hj : b / 9 / 9 % 2 = (j : Int) := hj
          have st := str_intQ (k := j) (by omega)
          refine ⟨.bit j, b / 9 / 9 / 2, ?_, hj2, Nat.zero_le _⟩
          show _ = R.ok (Hd.fr (.tup [dt [48 + j]]), _)
          simp only [C.m__law_tree]
          generalize C.r__law_tree n = G at *
          simp only [dt] at *
          generalize D.str (tx [48 + j]) = S1 at *
          generalize ln' E = LE at *
          rcases c with c | c
          · subst c
            simp [e_fnD, t9, t2, hj, nE, st, d]
          · by_cases q : (deep : Int) = 0
            · simp [e_fnD, t9, t2, hj, nE, st, c, d, q]
            · simp [e_fnD, t9, t2, hj, nE, st, c, d, q]
        · obtain ⟨j, hj, hj2⟩ := dig_nat (b := b / 9 / 9) (m := E.length) lp
          have tl := take2_ok (n := b / 9 / 9) (m := E.length) (by omega) (by omega)
          have ix := ix_lnQ hj2
          refine ⟨.var (E.getD j 0), b / 9 / 9 / E.length, ?_, by show _ ∈ E; rw [getD_lt hj2]; exact List.getElem_mem hj2, Nat.zero_le _⟩
          show _ = R.ok (Hd.fr (.tup [dt [115], .int (E.getD j 0 : Nat)]), _)
          rw [hj] at tl
          simp only [C.m__law_tree, s_s]
          generalize C.r__law_tree n = G at *
          generalize E.getD j 0 = v at *
          simp only [dt] at *
          generalize D.str (tx [115]) = S1 at *
          generalize ln' E = LE at *
          generalize E.length = EL at *
          rcases c with c | c
          · subst c
            simp [e_fnD, t9, tl, nE, lnE, ix, d, -d_lenL]
          · by_cases q : (deep : Int) = 0
            · simp [e_fnD, t9, tl, nE, lnE, ix, c, d, q, -d_lenL]
            · simp [e_fnD, t9, tl, nE, lnE, ix, c, d, q, -d_lenL]
    · obtain ⟨m, rfl⟩ : ∃ m, deep = m + 1 := ⟨deep - 1, by omega⟩
      have c2 : ¬ b % 9 < 2 := fun z => c (.inr z)
      have dp : ((m + 1 : Nat) : Int) - 1 = (m : Nat) := by omega
      have d0 : ¬ ((m + 1 : Nat) : Int) = 0 := by omega
      by_cases w : b % 9 < 4
      · obtain ⟨t, b', ih, ok, dt'⟩ := law_tree_ok (E := E) h8 n m (b / 9) (by omega)
        refine ⟨.neg t, b', ?_, ok, by show t.dep + 1 ≤ _; omega⟩
        show _ = R.ok (Hd.fr (.tup [dt [33], t.d]), _)
        simp only [C.m__law_tree, s_not]
        generalize C.r__law_tree n = G at *
        generalize t.d = TD at *
        simp only [dt] at *
        generalize D.str (tx [33]) = S1 at *
        generalize ln' E = LE at *
        generalize ((m + 1 : Nat) : Int) = dd at *
        simp [e_fnD, t9, c2, w, d0, dp, ih]
      · obtain ⟨j, hj, hj2⟩ := dig_nat (b := b / 9) (m := 3) (by omega)
        have hj : b / 9 % 3 = (j : Int) := hj
        obtain ⟨t, b', ih, ok, dt'⟩ := law_tree_ok (E := E) h8 n m (b / 9 / 3) (by omega)
        obtain ⟨t2', b2, ih2, ok2, dt2⟩ := law_tree_ok (E := E) h8 n m b' (by omega)
        have ix := ix_dt (l := [38, 94, 124]) (k := j) (by simpa using hj2) (by simp)
        have hc : [38, 94, 124].getD j 0 ∈ [38, 94, 124] := by
          rw [getD_lt (by simpa using hj2)]; exact List.getElem_mem _
        refine ⟨.op ([38, 94, 124].getD j 0) t t2', b2, ?_, ⟨hc, ok, ok2⟩, by show max t.dep t2'.dep + 1 ≤ _; omega⟩
        show _ = R.ok (Hd.fr (.tup [dt [[38, 94, 124].getD j 0], t.d, t2'.d]), _)
        generalize [38, 94, 124].getD j 0 = cc at *
        simp only [C.m__law_tree, s_ops3]
        generalize C.r__law_tree n = G at *
        generalize t.d = TD at *
        generalize t2'.d = TD2 at *
        simp only [dt] at *
        generalize D.str (tx [cc]) = S1 at *
        generalize D.str (tx [38, 94, 124]) = S2 at *
        generalize ln' E = LE at *
        generalize ((m + 1 : Nat) : Int) = dd at *
        simp [e_fnD, t9, t3, hj, c2, w, d0, dp, ix, ih, ih2]
end H

set_option Elab.async false
set_option linter.all false
set_option maxRecDepth 100000
set_option maxHeartbeats 2000000
namespace H
open PySem PySem.Spec PyProof.Rows L2 Y
theorem eq_c {a b : Nat} (ha : a < 1000) (hb : b < 1000) : eqD (dt [a]) (dt [b]) = .ok (.bl (decide (a = b))) := by
  rw [eq_dt (sg1 (by omega)) (sg1 (by omega))]
  simp
theorem in_figs {a : Nat} (ha : a < 1000) : inD (dt [a]) (.lst [dt [48], dt [49]]) = .ok (.bl (decide (a = 48 ∨ a = 49))) := by
  have := in_ldt (a := [a]) (xs := [[48], [49]]) (sg1 (by omega)) fun x hx => by
    simp only [List.mem_cons, List.not_mem_nil, or_false] at hx
    rcases hx with rfl | rfl
    · exact sg1 (by omega)
    · exact sg1 (by omega)
  have this : inD (dt [a]) (.lst [dt [48], dt [49]]) = _ := this
  rw [this]
  simp
theorem val_bit {E : List Nat} {env : Nat → Int} (he : ∀ k, 0 ≤ env k ∧ env k < 2) : ∀ {t : Fm}, t.okE E → t.val env = 0 ∨ t.val env = 1
  | .bit b, h => by
    have h : b < 2 := h
    show (b : Int) = 0 ∨ (b : Int) = 1
    omega
  | .var k, h => by
    have := he k
    show env k = 0 ∨ env k = 1
    omega
  | .neg a, h => by
    have := val_bit he (t := a) h
    show 1 - a.val env = 0 ∨ 1 - a.val env = 1
    omega
  | .op c a b, h => by
    obtain ⟨hc, h1, h2⟩ := h
    have v1 := val_bit he h1
    have v2 := val_bit he h2
    show joinI c (a.val env) (b.val env) = 0 ∨ joinI c (a.val env) (b.val env) = 1
    simp only [List.mem_cons, List.not_mem_nil, or_false] at hc
    rcases hc with rfl | rfl | rfl <;> rcases v1 with z1 | z1 <;> rcases v2 with z2 | z2 <;> rw [z1, z2] <;> decide
theorem s_zeroQ : Str.ofString "0" = tx [48] := by decide +kernel
theorem s_oneQ : Str.ofString "1" = tx [49] := by decide +kernel
theorem s_orQ : Str.ofString "|" = tx [124] := by decide +kernel
theorem int_sgQ {b : Nat} (h : b < 2) : intOfD [dt [48 + b]] = .ok (.int (b : Nat)) := by
  have : b = 0 ∨ b = 1 := by omega
  rcases this with rfl | rfl <;> rfl
theorem law_worth_ok {E : List Nat} {K V : List Int} (hl : K.length = V.length) (hv : ∀ x ∈ V, 0 ≤ x ∧ x < 2) : ∀ (n : Nat) (t : Fm), t.dep < n → t.okE E → (∀ k ∈ numsT t.rpn, k ∈ K) →
    ∃ h, C.r__law_worth n [t.d, dkI K V] = .ok h ∧ (h = .fr (.int (t.val fun k => lkI K V k)) ∨ h = .vl (.int (t.val fun k => lkI K V k)))
  | 0, t, h, _, _ => absurd h (by omega)
  | n + 1, .bit b, h, ok, hk => by
    have hb : b < 2 := ok
    have e1 := eq_c (a := 48 + b) (b := 115) (by omega) (by omega)
    have i1 := in_figs (a := 48 + b) (by omega)
    rw [decide_eq_false (by omega)] at e1
    rw [decide_eq_true (by omega)] at i1
    have io := int_sgQ hb
    refine ⟨.fr (.int (b : Nat)), ?_, .inl rfl⟩
    show fnP 2 4 (C.m__law_worth (C.r__law_worth n)) [.tup [dt [48 + b]], dkI K V] = _
    have x0 : ∀ x : D, ixD (.tup [x]) (.int 0) = .ok x := fun _ => rfl
    simp only [C.m__law_worth, s_s, s_zeroQ, s_oneQ, s_not, s_ampQ, s_orQ]
    generalize C.r__law_worth n = G at *
    generalize dkI K V = DK at *
    simp only [dt] at *
    generalize D.str (tx [48 + b]) = S1 at *
    generalize D.str (tx [115]) = S2 at *
    generalize D.str (tx [48]) = S3 at *
    generalize D.str (tx [49]) = S4 at *
    generalize D.str (tx [33]) = S5 at *
    simp [e_fnP, x0, e1, i1, io]
  | n + 1, .var k, h, ok, hk => by
    have e1 := eq_c (a := 115) (b := 115) (by omega) (by omega)
    rw [decide_eq_true rfl] at e1
    have f := find_in hl (hk k (by simp [Fm.rpn, numsT]))
    have gd : getDic (dkI K V) (.int (k : Nat)) = .ok (findD (kt K) (V.map D.int) (Sum.inl (k : Int))) := rfl
    rw [f] at gd
    refine ⟨.vl (.int (lkI K V k)), ?_, .inr rfl⟩
    show fnP 2 4 (C.m__law_worth (C.r__law_worth n)) [.tup [dt [115], .int (k : Nat)], dkI K V] = _
    have x0 : ∀ x y : D, ixD (.tup [x, y]) (.int 0) = .ok x := fun _ _ => rfl
    have x1 : ∀ x y : D, ixD (.tup [x, y]) (.int 1) = .ok y := fun _ _ => rfl
    simp only [C.m__law_worth, s_s, s_zeroQ, s_oneQ, s_not, s_ampQ, s_orQ]
    generalize C.r__law_worth n = G at *
    generalize lkI K V (k : Int) = v at *
    generalize dkI K V = DK at *
    simp only [dt] at *
    generalize D.str (tx [115]) = S2 at *
    simp [e_fnP, e_dget, x0, x1, e1, gd]
  | n + 1, .neg a, h, ok, hk => by
    have h : a.dep + 1 < n + 1 := h
    have e1 := eq_c (a := 33) (b := 115) (by omega) (by omega)
    have i1 := in_figs (a := 33) (by omega)
    have e2 := eq_c (a := 33) (b := 33) (by omega) (by omega)
    rw [decide_eq_false (by omega)] at e1 i1
    rw [decide_eq_true rfl] at e2
    obtain ⟨hd, ih, q⟩ := law_worth_ok (E := E) hl hv n a (by omega) ok (fun k hk' => hk k (by
      show k ∈ numsT (_ ++ _)
      rw [numsT_app]; exact List.mem_append_left _ hk'))
    refine ⟨.fr (.int (1 - a.val fun k => lkI K V k)), ?_, .inl rfl⟩
    show fnP 2 4 (C.m__law_worth (C.r__law_worth n)) [.tup [dt [33], a.d], dkI K V] = _
    have x0 : ∀ x y : D, ixD (.tup [x, y]) (.int 0) = .ok x := fun _ _ => rfl
    have x1 : ∀ x y : D, ixD (.tup [x, y]) (.int 1) = .ok y := fun _ _ => rfl
    simp only [C.m__law_worth, s_s, s_zeroQ, s_oneQ, s_not, s_ampQ, s_orQ]
    generalize (a.val fun k => lkI K V k) = v at *
    generalize C.r__law_worth n = G at *
    generalize dkI K V = DK at *
    generalize a.d = AD at *
    simp only [dt] at *
    generalize D.str (tx [115]) = S2 at *
    generalize D.str (tx [48]) = S3 at *
    generalize D.str (tx [49]) = S4 at *
    generalize D.str (tx [33]) = S5 at *
    rcases q with rfl | rfl <;> simp [e_fnP, x0, x1, e1, i1, e2, ih]
  | n + 1, .op c a b, h, ok, hk => by
    have h : max a.dep b.dep + 1 < n + 1 := h
    obtain ⟨hc, ok1, ok2⟩ := ok
    have c1 : c < 1000 := by simp only [List.mem_cons, List.not_mem_nil, or_false] at hc; omega
    have e1 := eq_c (a := c) (b := 115) c1 (by omega)
    have i1 := in_figs (a := c) c1
    have e2 := eq_c (a := c) (b := 33) c1 (by omega)
    have e3 := eq_c (a := c) (b := 38) c1 (by omega)
    have e4 := eq_c (a := c) (b := 124) c1 (by omega)
    have n1 : c ≠ 115 := by simp only [List.mem_cons, List.not_mem_nil, or_false] at hc; omega
    have n2 : ¬ (c = 48 ∨ c = 49) := by simp only [List.mem_cons, List.not_mem_nil, or_false] at hc; omega
    have n3 : c ≠ 33 := by simp only [List.mem_cons, List.not_mem_nil, or_false] at hc; omega
    rw [decide_eq_false n1] at e1
    rw [decide_eq_false n2] at i1
    rw [decide_eq_false n3] at e2
    obtain ⟨hd, ih, q⟩ := law_worth_ok (E := E) hl hv n a (by omega) ok1 (fun k hk' => hk k (by
      show k ∈ numsT (_ ++ _ ++ _)
      rw [numsT_app, numsT_app]; exact List.mem_append_left _ (List.mem_append_left _ hk')))
    obtain ⟨hd2, ih2, q2⟩ := law_worth_ok (E := E) hl hv n b (by omega) ok2 (fun k hk' => hk k (by
      show k ∈ numsT (_ ++ _ ++ _)
      rw [numsT_app, numsT_app]; exact List.mem_append_left _ (List.mem_append_right _ hk')))
    have v1 := val_bit (env := fun k => lkI K V k) (fun k => lkI_bit hv) ok1
    have v2 := val_bit (env := fun k => lkI K V k) (fun k => lkI_bit hv) ok2
    refine ⟨.fr (.int (joinI c (a.val fun k => lkI K V k) (b.val fun k => lkI K V k))), ?_, .inl rfl⟩
    show fnP 2 4 (C.m__law_worth (C.r__law_worth n)) [.tup [dt [c], a.d, b.d], dkI K V] = _
    have x0 : ∀ x y z : D, ixD (.tup [x, y, z]) (.int 0) = .ok x := fun _ _ _ => rfl
    have x1 : ∀ x y z : D, ixD (.tup [x, y, z]) (.int 1) = .ok y := fun _ _ _ => rfl
    have x2 : ∀ x y z : D, ixD (.tup [x, y, z]) (.int 2) = .ok z := fun _ _ _ => rfl
    simp only [C.m__law_worth, s_s, s_zeroQ, s_oneQ, s_not, s_ampQ, s_orQ]
    generalize (a.val fun k => lkI K V k) = v at *
    generalize (b.val fun k => lkI K V k) = w at *
    generalize C.r__law_worth n = G at *
    generalize dkI K V = DK at *
    generalize a.d = AD at *
    generalize b.d = BD at *
    simp only [dt] at *
    generalize hcc : D.str (tx [c]) = S1 at *
    generalize D.str (tx [115]) = S2 at *
    generalize D.str (tx [48]) = S3 at *
    generalize D.str (tx [49]) = S4 at *
    generalize D.str (tx [33]) = S5 at *
    generalize D.str (tx [38]) = S6 at *
    generalize D.str (tx [124]) = S7 at *
    simp only [List.mem_cons, List.not_mem_nil, or_false] at hc
    have j38 : joinI 38 v w = min v w := by rcases v1 with rfl | rfl <;> rcases v2 with rfl | rfl <;> decide
    have j94 : joinI 94 v w = if v = w then 0 else 1 := by rcases v1 with rfl | rfl <;> rcases v2 with rfl | rfl <;> decide
    have j124 : joinI 124 v w = max v w := by rcases v1 with rfl | rfl <;> rcases v2 with rfl | rfl <;> decide
    rcases hc with rfl | rfl | rfl
    · rw [j38]
      rw [decide_eq_true rfl] at e3
      rcases q with rfl | rfl <;> rcases q2 with rfl | rfl <;> simp [e_fnP, x0, x1, x2, e1, i1, e2, e3, ih, ih2]
    · rw [j94]
      rw [decide_eq_false (by omega)] at e3 e4
      rcases v1 with rfl | rfl <;> rcases v2 with rfl | rfl <;> rcases q with rfl | rfl <;> rcases q2 with rfl | rfl <;> simp [e_fnP, x0, x1, x2, e1, i1, e2, e3, e4, ih, ih2]
    · rw [j124]
      rw [decide_eq_false (by omega)] at e3
      rw [decide_eq_true rfl] at e4
      rcases q with rfl | rfl <;> rcases q2 with rfl | rfl <;> simp [e_fnP, x0, x1, x2, e1, i1, e2, e3, e4, ih, ih2]
end H

set_option Elab.async false
set_option linter.all false
set_option maxRecDepth 100000
set_option maxHeartbeats 4000000
namespace H
open PySem PySem.Spec PyProof.Rows L2 Y
def lvC (c : Nat) : Nat := if c = 124 then 0 else if c = 94 then 1 else 2
theorem lv_op {c : Nat} (h : c ∈ [38, 94, 124]) : opC (lvC c) = c ∧ lvC c ≤ 2 := by
  simp only [List.mem_cons, List.not_mem_nil, or_false] at h
  rcases h with rfl | rfl | rfl <;> decide
theorem idx_key (c k : Nat) (o : Builtin.Str.occurrences (tx [124, 94, 38, 33]) (tx [c]) 0 (tx [124, 94, 38, 33]).length 1 = [k]) : indexD (dt [124, 94, 38, 33]) (dt [c]) = .ok (.int (k : Nat)) := by
  show (match Builtin.Str.occurrences (tx [124, 94, 38, 33]) (tx [c]) 0 (tx [124, 94, 38, 33]).length 1 with | i :: _ => R.ok (D.int (i : Nat)) | [] => .stk) = _
  rw [o]
theorem idx_op {c : Nat} (h : c ∈ [38, 94, 124]) : indexD (dt [124, 94, 38, 33]) (dt [c]) = .ok (.int (lvC c : Nat)) := by
  simp only [List.mem_cons, List.not_mem_nil, or_false] at h
  rcases h with rfl | rfl | rfl
  · exact idx_key 38 2 (by decide +kernel)
  · exact idx_key 94 1 (by decide +kernel)
  · exact idx_key 124 0 (by decide +kernel)
theorem idx_not : indexD (dt [124, 94, 38, 33]) (dt [33]) = .ok (.int 3) := idx_key 33 3 (by decide +kernel)
theorem s_lvs : Str.ofString "|^&!" = tx [124, 94, 38, 33] := by decide +kernel
def gapN (g : Nat) : List Nat := List.replicate ([0, 0, 1, 0, 2].getD g 0) 32
theorem gap_le {g : Nat} : (gapN g).length ≤ 2 := by
  unfold gapN
  rw [List.length_replicate]
  match g with
  | 0 => decide
  | 1 => decide
  | 2 => decide
  | 3 => decide
  | 4 => decide
  | g + 5 => exact Nat.zero_le _
theorem gap_ch {g : Nat} : ∀ c ∈ gapN g, c < 1000 := fun c hc => by
  rw [List.eq_of_mem_replicate hc]; omega
theorem gap_lx {g : Nat} : Lx (gapN g) [] := by
  unfold gapN
  generalize [0, 0, 1, 0, 2].getD g 0 = n
  induction n with
  | zero => exact Lx.nil
  | succ n ih => rw [List.replicate_succ]; exact Lx.sp.app ih
theorem gap_ok {g : Nat} (h : g < 5) : ∃ j : Nat, ixD (.lst [.int 0, .int 0, .int 1, .int 0, .int 2]) (.int (g : Nat)) = .ok (.int (j : Nat)) ∧ mulD (dt [32]) (.int (j : Nat)) = .ok (dt (gapN g)) := by
  refine ⟨[0, 0, 1, 0, 2].getD g 0, ?_, ?_⟩
  · have : g = 0 ∨ g = 1 ∨ g = 2 ∨ g = 3 ∨ g = 4 := by omega
    rcases this with rfl | rfl | rfl | rfl | rfl <;> rfl
  · have : g = 0 ∨ g = 1 ∨ g = 2 ∨ g = 3 ∨ g = 4 := by omega
    rcases this with rfl | rfl | rfl | rfl | rfl <;> (rw [d_mulS, if_pos (by decide)]; rfl)
def cqB (c : Nat) : Bool := decide (c ∈ [33, 38, 94, 124, 40])
def cq (cs : List Nat) : Nat := cs.countP cqB
theorem cq_app {a b : List Nat} : cq (a ++ b) = cq a + cq b := List.countP_append
theorem cq_1 {c : Nat} : cq [c] ≤ 1 := by
  unfold cq
  exact List.countP_le_length
theorem cq_0 {c : Nat} (h : cqB c = false) : cq [c] = 0 := by
  unfold cq
  rw [List.countP_eq_zero]
  intro x hx
  rw [List.mem_singleton] at hx
  rw [hx, h]
  exact Bool.false_ne_true
theorem gap_cq {g : Nat} : cq (gapN g) = 0 := by
  unfold cq
  rw [List.countP_eq_zero]
  intro x hx
  rw [List.eq_of_mem_replicate hx]
  decide
/-- a writing of a tree at a level -/
structure Txt1 (l : Nat) (t : Fm) (cs : List Nat) : Prop where
  wr : ∃ ts, Lx cs ts ∧ Wr l ts t
  ch : ∀ c ∈ cs, c < 1000
theorem wr_up : ∀ {k l : Nat} {ts : List Tk} {t : Fm}, Wr (l + k) ts t → l + k ≤ 3 → Wr l ts t
  | 0, _, _, _, h, _ => h
  | k + 1, l, ts, t, h, hl => wr_up (k := k) (.up (by omega) h) (by omega)
theorem wr_low {l m : Nat} {ts : List Tk} {t : Fm} (h : Wr m ts t) (hl : l ≤ m) (hm : m ≤ 3) : Wr l ts t := by
  obtain ⟨k, rfl⟩ := Nat.exists_eq_add_of_le hl
  exact wr_up h hm
theorem law_text11_ok {E : List Nat} (h8 : ∀ e ∈ E, e < 8) : ∀ (n : Nat) (t : Fm) (b ab : Int), 2 * t.dep + (if ab < 0 then 0 else 1) < n → t.okE E → t.dep ≤ 5 → -1 ≤ ab → ab ≤ 3 →
    ∃ (cs : List Nat) (b' : Int), C.r__law_text_2 n [.lst [.int b], t.d, .int ab] = .ok (.fr (dt cs), [some (.lst [.int b']), none, none]) ∧ Txt1 ab.toNat t cs ∧ cs.length + 9 ≤ 13 * 2 ^ t.dep ∧ (ab < 0 → t.dep ≠ 0 → cs.length + 15 ≤ 13 * 2 ^ t.dep) ∧ cq cs + 2 ≤ 2 * 2 ^ t.dep ∧ (ab < 0 → t.dep ≠ 0 → cq cs + 3 ≤ 2 * 2 ^ t.dep)
  | 0, t, b, ab, h, _, _, _, _ => absurd h (by omega)
  | n + 1, t, b, ab, h, ok, hd, a1, a2 => by
    have t5 : ∀ b : Int, C.g__law_take_2 [.lst [.int b], .int 5] = .ok (.vl (.int (b % 5)), [some (.lst [.int (b / 5)]), none]) := fun b => take2_ok (by omega) (by omega)
    obtain ⟨g, hg, hg5⟩ := dig_nat (b := b) (m := 5) (by omega)
    have hg : b % 5 = (g : Int) := hg
    obtain ⟨j, gx, gm⟩ := gap_ok hg5
    have gl := gap_le (g := g)
    have gc := gap_ch (g := g)
    have gz := gap_lx (g := g)
    have gq := gap_cq (g := g)
    generalize gapN g = gp at *
    have ln : ab.toNat ≤ 3 := by omega
    have z5 : szOk 5 = true := szOk_of (by omega)
    cases t with
    | bit v =>
      have hb : v < 2 := ok
      have e1 := eq_c (a := 48 + v) (b := 115) (by omega) (by omega)
      have i1 := in_figs (a := 48 + v) (by omega)
      rw [decide_eq_false (by omega)] at e1
      rw [decide_eq_true (by omega)] at i1
      have ad := add_dt (a := gp) (b := [48 + v]) (by simp; omega)
      refine ⟨gp ++ [48 + v], b / 5, ?_, ⟨⟨_, gz.app (Lx.op (by simp only [opsL, List.mem_cons, List.not_mem_nil, or_false]; omega)), wr_low (.bit hb) ln (by omega)⟩, fun c hc => ?_⟩, ?_, fun _ z => absurd rfl z, ?_, fun _ z => absurd rfl z⟩
      · show fnD 3 5 [0] (C.m__law_text_2 (C.r__law_text_2 n)) [.lst [.int b], .tup [dt [48 + v]], .int ab] = _
        have x0 : ∀ x : D, ixD (.tup [x]) (.int 0) = .ok x := fun _ => rfl
        simp only [C.m__law_text_2, s_s, s_zeroQ, s_oneQ, s_not, s_lvs, s_spQ, s_open, s_shut]
        generalize C.r__law_text_2 n = G at *
        simp only [dt] at *
        generalize D.str (tx (gp ++ [48 + v])) = S0 at *
        generalize D.str (tx [48 + v]) = S1 at *
        generalize D.str (tx gp) = SG at *
        generalize D.str (tx [115]) = S2 at *
        generalize D.str (tx [48]) = S3 at *
        generalize D.str (tx [49]) = S4 at *
        generalize D.str (tx [32]) = S6 at *
        simp [e_fnD, z5, t5, hg, gx, gm, x0, e1, i1, ad]
      · rcases List.mem_append.mp hc with hc | hc
        · exact gc c hc
        · rw [List.mem_singleton] at hc; omega
      · rw [List.length_append]
        show _ + 1 + 9 ≤ 13 * 1
        omega
      · rw [cq_app, gq, cq_0 (by unfold cqB; exact decide_eq_false (by simp only [List.mem_cons, List.not_mem_nil, or_false]; omega))]
        exact (by decide : 0 + 0 + 2 ≤ 2 * 1)
    | var v =>
      have hv := h8 v ok
      have e1 := eq_c (a := 115) (b := 115) (by omega) (by omega)
      rw [decide_eq_true rfl] at e1
      have st := str_intQ (k := v) (by omega)
      have ad := add_dt (a := gp) (b := [115]) (by simp; omega)
      have ad2 := add_dt (a := gp ++ [115]) (b := [48 + v]) (by simp; omega)
      refine ⟨gp ++ [115] ++ [48 + v], b / 5, ?_, ⟨⟨_, by rw [List.append_assoc]; exact gz.app (Lx.num hv), wr_low (.var hv) ln (by omega)⟩, fun c hc => ?_⟩, ?_, fun _ z => absurd rfl z, ?_, fun _ z => absurd rfl z⟩
      · show fnD 3 5 [0] (C.m__law_text_2 (C.r__law_text_2 n)) [.lst [.int b], .tup [dt [115], .int (v : Nat)], .int ab] = _
        have x0 : ∀ x y : D, ixD (.tup [x, y]) (.int 0) = .ok x := fun _ _ => rfl
        have x1 : ∀ x y : D, ixD (.tup [x, y]) (.int 1) = .ok y := fun _ _ => rfl
        simp only [C.m__law_text_2, s_s, s_zeroQ, s_oneQ, s_not, s_lvs, s_spQ, s_open, s_shut]
        generalize C.r__law_text_2 n = G at *
        simp only [dt] at *
        generalize D.str (tx (gp ++ [115] ++ [48 + v])) = S0 at *
        generalize D.str (tx (gp ++ [115])) = S5 at *
        generalize D.str (tx [48 + v]) = S1 at *
        generalize D.str (tx gp) = SG at *
        generalize D.str (tx [115]) = S2 at *
        generalize D.str (tx [32]) = S6 at *
        simp [e_fnD, z5, t5, hg, gx, gm, x0, x1, e1, st, ad, ad2]
      · simp only [List.mem_append, List.mem_singleton] at hc
        rcases hc with (hc | hc) | hc
        · exact gc c hc
        · omega
        · omega
      · rw [List.length_append, List.length_append]
        show _ + 1 + 1 + 9 ≤ 13 * 1
        omega
      · rw [cq_app, cq_app, gq, cq_0 (by decide), cq_0 (by unfold cqB; exact decide_eq_false (by simp only [List.mem_cons, List.not_mem_nil, or_false]; omega))]
        exact (by decide : 0 + 0 + 0 + 2 ≤ 2 * 1)
    | neg a =>
      have hd' : a.dep + 1 ≤ 5 := hd
      have e1 := eq_c (a := 33) (b := 115) (by omega) (by omega)
      have i1 := in_figs (a := 33) (by omega)
      have e2 := eq_c (a := 33) (b := 33) (by omega) (by omega)
      rw [decide_eq_false (by omega)] at e1 i1
      rw [decide_eq_true rfl] at e2
      have ix := idx_not
      have x0 : ∀ x y : D, ixD (.tup [x, y]) (.int 0) = .ok x := fun _ _ => rfl
      have x1 : ∀ x y : D, ixD (.tup [x, y]) (.int 1) = .ok y := fun _ _ => rfl
      have h3 : ¬ (3 : Int) < ab := by omega
      have pw : 2 ^ (a.dep + 1) = 2 * 2 ^ a.dep := by rw [Nat.pow_succ]; omega
      have p32 : 2 ^ (a.dep + 1) ≤ 2 ^ 5 := Nat.pow_le_pow_right (by omega) hd'
      have pp : 1 ≤ 2 ^ a.dep := Nat.one_le_two_pow
      by_cases c : 0 ≤ ab ∧ b / 5 % 5 = 1
      · obtain ⟨c1, c2⟩ := c
        rw [if_neg (by omega)] at h
        obtain ⟨cs, b', ih, ⟨⟨ts, lx, wr⟩, ch⟩, L1, L2, Q1, Q2⟩ := law_text11_ok (E := E) h8 n (.neg a) (b / 5 / 5) (-1) (by rw [if_pos (by omega)]; omega) ok hd (by omega) (by omega)
        have L2 := L2 (by omega) (by show a.dep + 1 ≠ 0; omega)
        have L2 : cs.length + 15 ≤ 13 * 2 ^ (a.dep + 1) := L2
        have Q2 := Q2 (by omega) (by show a.dep + 1 ≠ 0; omega)
        have Q2 : cq cs + 3 ≤ 2 * 2 ^ (a.dep + 1) := Q2
        have d1 := add_dt (a := gp) (b := [40]) (by simp; omega)
        have d2 := add_dt (a := gp ++ [40]) (b := cs) (by simp; omega)
        have d3 := add_dt (a := gp ++ [40] ++ cs) (b := gp) (by simp; omega)
        have d4 := add_dt (a := gp ++ [40] ++ cs ++ gp) (b := [41]) (by simp; omega)
        have ih : C.r__law_text_2 n [.lst [.int (b / 5 / 5)], .tup [dt [33], a.d], .int (-1)] = _ := ih
        refine ⟨gp ++ [40] ++ cs ++ gp ++ [41], b', ?_, ⟨⟨.sg 40 :: (ts ++ [.sg 41]), ?_, wr_low (.par wr) ln (by omega)⟩, fun x hx => ?_⟩, ?_, fun z => by omega, ?_, fun z => by omega⟩
        · show fnD 3 5 [0] (C.m__law_text_2 (C.r__law_text_2 n)) [.lst [.int b], .tup [dt [33], a.d], .int ab] = _
          simp only [C.m__law_text_2, s_s, s_zeroQ, s_oneQ, s_not, s_lvs, s_spQ, s_open, s_shut]
          generalize C.r__law_text_2 n = G at *
          generalize a.d = AD at *
          simp only [dt] at *
          generalize D.str (tx (gp ++ [40] ++ cs ++ gp ++ [41])) = S0 at *
          generalize D.str (tx (gp ++ [40] ++ cs ++ gp)) = S7 at *
          generalize D.str (tx (gp ++ [40] ++ cs)) = S8 at *
          generalize D.str (tx (gp ++ [40])) = S9 at *
          generalize D.str (tx cs) = SC at *
          generalize D.str (tx gp) = SG at *
          generalize D.str (tx [115]) = S2 at *
          generalize D.str (tx [48]) = S3 at *
          generalize D.str (tx [49]) = S4 at *
          generalize D.str (tx [33]) = S5 at *
          generalize D.str (tx [32]) = S6 at *
          generalize D.str (tx [40]) = S10 at *
          generalize D.str (tx [41]) = S11 at *
          generalize tx [124, 94, 38, 33] = S12 at *
          simp [e_fnD, z5, t5, hg, gx, gm, x0, x1, e1, i1, e2, ix, h3, c1, c2, ih, d1, d2, d3, d4]
        · have := (((gz.app (Lx.op (c := 40) (by decide))).app lx).app gz).app (Lx.op (c := 41) (by decide))
          simpa using this
        · simp only [List.mem_append, List.mem_singleton] at hx
          rcases hx with (((hx | hx) | hx) | hx) | hx
          · exact gc x hx
          · omega
          · exact ch x hx
          · exact gc x hx
          · omega
        · simp only [List.length_append, List.length_singleton]
          show _ ≤ 13 * 2 ^ (a.dep + 1)
          omega
        · rw [cq_app, cq_app, cq_app, cq_app, gq, cq_0 (c := 41) (by decide)]
          have := cq_1 (c := 40)
          show _ ≤ 2 * 2 ^ (a.dep + 1)
          omega
      · have h : 2 * (a.dep + 1) + _ < n + 1 := h
        obtain ⟨cs, b', ih, ⟨⟨ts, lx, wr⟩, ch⟩, L1, _, Q1, _⟩ := law_text11_ok (E := E) h8 n a (if ab < 0 then b / 5 else b / 5 / 5) 3 (by rw [if_neg (by omega)]; omega) ok (by omega) (by omega) (by omega)
        have d1 := add_dt (a := gp) (b := [33]) (by simp; omega)
        have d2 := add_dt (a := gp ++ [33]) (b := cs) (by simp; omega)
        have wr : Wr 3 ts a := wr
        refine ⟨gp ++ [33] ++ cs, b', ?_, ⟨⟨.sg 33 :: ts, ?_, wr_low (.neg wr) ln (by omega)⟩, fun x hx => ?_⟩, ?_, fun z _ => ?_, ?_, fun z _ => ?_⟩
        · show fnD 3 5 [0] (C.m__law_text_2 (C.r__law_text_2 n)) [.lst [.int b], .tup [dt [33], a.d], .int ab] = _
          simp only [C.m__law_text_2, s_s, s_zeroQ, s_oneQ, s_not, s_lvs, s_spQ, s_open, s_shut]
          generalize C.r__law_text_2 n = G at *
          generalize a.d = AD at *
          simp only [dt] at *
          generalize D.str (tx (gp ++ [33] ++ cs)) = S0 at *
          generalize D.str (tx (gp ++ [33])) = S9 at *
          generalize D.str (tx cs) = SC at *
          generalize D.str (tx gp) = SG at *
          generalize D.str (tx [115]) = S2 at *
          generalize D.str (tx [48]) = S3 at *
          generalize D.str (tx [49]) = S4 at *
          generalize D.str (tx [33]) = S5 at *
          generalize D.str (tx [32]) = S6 at *
          generalize tx [124, 94, 38, 33] = S12 at *
          by_cases z : ab < 0
          · have z2 : ¬ 0 ≤ ab := by omega
            rw [if_pos z] at ih
            simp [e_fnD, z5, t5, hg, gx, gm, x0, x1, e1, i1, e2, ix, h3, z2, ih, d1, d2]
          · have z2 : 0 ≤ ab := by omega
            have z3 : ¬ b / 5 % 5 = 1 := fun w => c ⟨z2, w⟩
            rw [if_neg z] at ih
            simp [e_fnD, z5, t5, hg, gx, gm, x0, x1, e1, i1, e2, ix, h3, z2, z3, ih, d1, d2]
        · have := (gz.app (Lx.op (c := 33) (by decide))).app lx
          simpa using this
        · simp only [List.mem_append, List.mem_singleton] at hx
          rcases hx with (hx | hx) | hx
          · exact gc x hx
          · omega
          · exact ch x hx
        · simp only [List.length_append, List.length_singleton]
          show _ ≤ 13 * 2 ^ (a.dep + 1)
          omega
        · simp only [List.length_append, List.length_singleton]
          show _ ≤ 13 * 2 ^ (a.dep + 1)
          omega
        · rw [cq_app, cq_app, gq]
          have := cq_1 (c := 33)
          show _ ≤ 2 * 2 ^ (a.dep + 1)
          omega
        · rw [cq_app, cq_app, gq]
          have := cq_1 (c := 33)
          show _ ≤ 2 * 2 ^ (a.dep + 1)
          omega
    | op c a v =>
      obtain ⟨hc, ok1, ok2⟩ := ok
      have ok : (Fm.op c a v).okE E := ⟨hc, ok1, ok2⟩
      have hd' : max a.dep v.dep + 1 ≤ 5 := hd
      have c1 : c < 1000 := by simp only [List.mem_cons, List.not_mem_nil, or_false] at hc; omega
      have e1 := eq_c (a := c) (b := 115) c1 (by omega)
      have i1 := in_figs (a := c) c1
      have e2 := eq_c (a := c) (b := 33) c1 (by omega)
      have n1 : c ≠ 115 := by simp only [List.mem_cons, List.not_mem_nil, or_false] at hc; omega
      have n2 : ¬ (c = 48 ∨ c = 49) := by simp only [List.mem_cons, List.not_mem_nil, or_false] at hc; omega
      have n3 : c ≠ 33 := by simp only [List.mem_cons, List.not_mem_nil, or_false] at hc; omega
      rw [decide_eq_false n1] at e1
      rw [decide_eq_false n2] at i1
      rw [decide_eq_false n3] at e2
      have ix := idx_op hc
      obtain ⟨lo, l2⟩ := lv_op hc
      have cop : c ∈ opsL := by
        simp only [opsL, List.mem_cons, List.not_mem_nil, or_false] at hc ⊢
        omega
      have x0 : ∀ x y z : D, ixD (.tup [x, y, z]) (.int 0) = .ok x := fun _ _ _ => rfl
      have x1 : ∀ x y z : D, ixD (.tup [x, y, z]) (.int 1) = .ok y := fun _ _ _ => rfl
      have x2 : ∀ x y z : D, ixD (.tup [x, y, z]) (.int 2) = .ok z := fun _ _ _ => rfl
      have pw : 2 ^ (max a.dep v.dep + 1) = 2 * 2 ^ max a.dep v.dep := by rw [Nat.pow_succ]; omega
      have p32 : 2 ^ (max a.dep v.dep + 1) ≤ 2 ^ 5 := Nat.pow_le_pow_right (by omega) hd'
      have pa : 2 ^ a.dep ≤ 2 ^ max a.dep v.dep := Nat.pow_le_pow_right (by omega) (by omega)
      have pv : 2 ^ v.dep ≤ 2 ^ max a.dep v.dep := Nat.pow_le_pow_right (by omega) (by omega)
      have l1 : ((lvC c : Nat) : Int) + 1 = ((lvC c + 1 : Nat) : Int) := by omega
      by_cases cs0 : ((lvC c : Nat) : Int) < ab ∨ (0 ≤ ab ∧ b / 5 % 5 = 1)
      · have a0 : 0 ≤ ab := by omega
        rw [if_neg (by omega)] at h
        obtain ⟨cs, b', ih, ⟨⟨ts, lx, wr⟩, ch⟩, L1, L2, Q1, Q2⟩ := law_text11_ok (E := E) h8 n (.op c a v) (if ((lvC c : Nat) : Int) < ab then b / 5 else b / 5 / 5) (-1) (by rw [if_pos (by omega)]; omega) ok hd (by omega) (by omega)
        have L2 := L2 (by omega) (by show max a.dep v.dep + 1 ≠ 0; omega)
        have L2 : cs.length + 15 ≤ 13 * 2 ^ (max a.dep v.dep + 1) := L2
        have Q2 := Q2 (by omega) (by show max a.dep v.dep + 1 ≠ 0; omega)
        have Q2 : cq cs + 3 ≤ 2 * 2 ^ (max a.dep v.dep + 1) := Q2
        have d1 := add_dt (a := gp) (b := [40]) (by simp; omega)
        have d2 := add_dt (a := gp ++ [40]) (b := cs) (by simp; omega)
        have d3 := add_dt (a := gp ++ [40] ++ cs) (b := gp) (by simp; omega)
        have d4 := add_dt (a := gp ++ [40] ++ cs ++ gp) (b := [41]) (by simp; omega)
        have ih : C.r__law_text_2 n [.lst [.int (if ((lvC c : Nat) : Int) < ab then b / 5 else b / 5 / 5)], .tup [dt [c], a.d, v.d], .int (-1)] = _ := ih
        refine ⟨gp ++ [40] ++ cs ++ gp ++ [41], b', ?_, ⟨⟨.sg 40 :: (ts ++ [.sg 41]), ?_, wr_low (.par wr) ln (by omega)⟩, fun x hx => ?_⟩, ?_, fun z => by omega, ?_, fun z => by omega⟩
        · show fnD 3 5 [0] (C.m__law_text_2 (C.r__law_text_2 n)) [.lst [.int b], .tup [dt [c], a.d, v.d], .int ab] = _
          simp only [C.m__law_text_2, s_s, s_zeroQ, s_oneQ, s_not, s_lvs, s_spQ, s_open, s_shut]
          generalize C.r__law_text_2 n = G at *
          generalize a.d = AD at *
          generalize v.d = BD at *
          simp only [dt] at *
          generalize D.str (tx (gp ++ [40] ++ cs ++ gp ++ [41])) = S0 at *
          generalize D.str (tx (gp ++ [40] ++ cs ++ gp)) = S7 at *
          generalize D.str (tx (gp ++ [40] ++ cs)) = S8 at *
          generalize D.str (tx (gp ++ [40])) = S9 at *
          generalize D.str (tx cs) = SC at *
          generalize D.str (tx gp) = SG at *
          generalize D.str (tx [c]) = S1 at *
          generalize D.str (tx [115]) = S2 at *
          generalize D.str (tx [48]) = S3 at *
          generalize D.str (tx [49]) = S4 at *
          generalize D.str (tx [33]) = S5 at *
          generalize D.str (tx [32]) = S6 at *
          generalize D.str (tx [40]) = S10 at *
          generalize D.str (tx [41]) = S11 at *
          generalize tx [124, 94, 38, 33] = S12 at *
          generalize ((lvC c : Nat) : Int) = lv at *
          by_cases z : lv < ab
          · rw [if_pos z] at ih
            simp [e_fnD, z5, t5, hg, gx, gm, x0, x1, e1, i1, e2, ix, z, ih, d1, d2, d3, d4]
          · have z3 : b / 5 % 5 = 1 := by
              rcases cs0 with w | w
              · exact absurd w z
              · exact w.2
            rw [if_neg z] at ih
            simp [e_fnD, z5, t5, hg, gx, gm, x0, x1, e1, i1, e2, ix, z, a0, z3, ih, d1, d2, d3, d4]
        · have := (((gz.app (Lx.op (c := 40) (by decide))).app lx).app gz).app (Lx.op (c := 41) (by decide))
          simpa using this
        · simp only [List.mem_append, List.mem_singleton] at hx
          rcases hx with (((hx | hx) | hx) | hx) | hx
          · exact gc x hx
          · omega
          · exact ch x hx
          · exact gc x hx
          · omega
        · simp only [List.length_append, List.length_singleton]
          show _ ≤ 13 * 2 ^ (max a.dep v.dep + 1)
          omega
        · rw [cq_app, cq_app, cq_app, cq_app, gq, cq_0 (c := 41) (by decide)]
          have := cq_1 (c := 40)
          show _ ≤ 2 * 2 ^ (max a.dep v.dep + 1)
          omega
      · have h : 2 * (max a.dep v.dep + 1) + _ < n + 1 := h
        have lw : ab ≤ (lvC c : Nat) := by omega
        obtain ⟨cs, b', ih, ⟨⟨ts, lx, wr⟩, ch⟩, L1, _, Q1, _⟩ := law_text11_ok (E := E) h8 n a (if ab < 0 then b / 5 else b / 5 / 5) (lvC c : Nat) (by rw [if_neg (by omega)]; omega) ok1 (by omega) (by omega) (by omega)
        obtain ⟨cs2, b2, ih2, ⟨⟨ts2, lx2, wr2⟩, ch2⟩, L2, _, P1, _⟩ := law_text11_ok (E := E) h8 n v b' (lvC c + 1 : Nat) (by rw [if_neg (by omega)]; omega) ok2 (by omega) (by omega) (by omega)
        have d1 := add_dt (a := cs) (b := gp) (by omega)
        have d2 := add_dt (a := cs ++ gp) (b := [c]) (by simp; omega)
        have d3 := add_dt (a := cs ++ gp ++ [c]) (b := cs2) (by simp; omega)
        rw [Int.toNat_natCast] at wr wr2
        have w3 := Wr.op l2 wr wr2
        rw [lo] at w3
        refine ⟨cs ++ gp ++ [c] ++ cs2, b2, ?_, ⟨⟨ts ++ .sg c :: ts2, ?_, wr_low w3 (by omega) (by omega)⟩, fun x hx => ?_⟩, ?_, fun z _ => ?_, ?_, fun z _ => ?_⟩
        · show fnD 3 5 [0] (C.m__law_text_2 (C.r__law_text_2 n)) [.lst [.int b], .tup [dt [c], a.d, v.d], .int ab] = _
          simp only [C.m__law_text_2, s_s, s_zeroQ, s_oneQ, s_not, s_lvs, s_spQ, s_open, s_shut]
          generalize C.r__law_text_2 n = G at *
          generalize a.d = AD at *
          generalize v.d = BD at *
          simp only [dt] at *
          generalize D.str (tx (cs ++ gp ++ [c] ++ cs2)) = S0 at *
          generalize D.str (tx (cs ++ gp ++ [c])) = S7 at *
          generalize D.str (tx (cs ++ gp)) = S8 at *
          generalize D.str (tx cs) = SC at *
          generalize D.str (tx cs2) = SC2 at *
          generalize D.str (tx gp) = SG at *
          generalize D.str (tx [c]) = S1 at *
          generalize D.str (tx [115]) = S2 at *
          generalize D.str (tx [48]) = S3 at *
          generalize D.str (tx [49]) = S4 at *
          generalize D.str (tx [33]) = S5 at *
          generalize D.str (tx [32]) = S6 at *
          generalize tx [124, 94, 38, 33] = S12 at *
          generalize ((lvC c + 1 : Nat) : Int) = lv1 at *
          generalize ((lvC c : Nat) : Int) = lv at *
          have z0 : ¬ lv < ab := fun w => cs0 (.inl w)
          by_cases z : ab < 0
          · have z2 : ¬ 0 ≤ ab := by omega
            rw [if_pos z] at ih
            simp [e_fnD, z5, t5, hg, gx, gm, x0, x1, x2, e1, i1, e2, ix, z0, z2, ih, l1, ih2, d1, d2, d3]
          · have z2 : 0 ≤ ab := by omega
            have z3 : ¬ b / 5 % 5 = 1 := fun w => cs0 (.inr ⟨z2, w⟩)
            rw [if_neg z] at ih
            simp [e_fnD, z5, t5, hg, gx, gm, x0, x1, x2, e1, i1, e2, ix, z0, z2, z3, ih, l1, ih2, d1, d2, d3]
        · have := ((lx.app gz).app (Lx.op cop)).app lx2
          simpa using this
        · simp only [List.mem_append, List.mem_singleton] at hx
          rcases hx with ((hx | hx) | hx) | hx
          · exact ch x hx
          · exact gc x hx
          · omega
          · exact ch2 x hx
        · simp only [List.length_append, List.length_singleton]
          show _ ≤ 13 * 2 ^ (max a.dep v.dep + 1)
          omega
        · simp only [List.length_append, List.length_singleton]
          show _ ≤ 13 * 2 ^ (max a.dep v.dep + 1)
          omega
        · rw [cq_app, cq_app, cq_app, gq]
          have := cq_1 (c := c)
          show _ ≤ 2 * 2 ^ (max a.dep v.dep + 1)
          omega
        · rw [cq_app, cq_app, cq_app, gq]
          have := cq_1 (c := c)
          show _ ≤ 2 * 2 ^ (max a.dep v.dep + 1)
          omega
  termination_by n => n
end H

set_option Elab.async false
set_option linter.all false
set_option maxRecDepth 100000
set_option maxHeartbeats 2000000
namespace H
open PySem PySem.Spec PyProof.Rows L2 Y
/-- what was read before the operand that is awaited -/
inductive OpenW : List Nat → List Tk → Prop where
  | nil : OpenW [] []
  | neg {w : List Nat} {us : List Tk} (h : OpenW w us) : OpenW (33 :: w) (us ++ [.sg 33])
  | par {w : List Nat} {us : List Tk} (h : OpenW w us) : OpenW (40 :: w) (us ++ [.sg 40])
  | op {w : List Nat} {us as : List Tk} {a : Fm} {l : Nat} (hl : l ≤ 2) (h : OpenW w us) (ha : Wr l as a) (hw : ∀ c r, w = c :: r → stR c < l + 1) : OpenW (opC l :: w) (us ++ as ++ [.sg (opC l)])
def FitsW (w : List Nat) (m : Nat) : Prop := ∀ c r, w = c :: r → min (stR c) 3 ≤ m
theorem open_pop {w : List Nat} {c : Nat} {ts as : List Tk} {a : Fm} {m : Nat} (h : OpenW (c :: w) ts) (hc : c ≠ 40) (ha : Wr m as a) (hm : m ≤ 3) (hf : FitsW (c :: w) m) :
    ∃ (us bs : List Tk) (b : Fm) (k : Nat), ts ++ as = us ++ bs ∧ OpenW w us ∧ Wr k bs b ∧ k ≤ 3 ∧ FitsW w k ∧ min (stR c) 4 ≤ k + 1 := by
  have f := hf c w rfl
  cases h with
  | @neg w us h =>
    have m3 : m = 3 := by
      have : min (stR 33) 3 = 3 := by decide
      omega
    subst m3
    exact ⟨us, .sg 33 :: as, .neg a, 3, by simp, h, .neg ha, by omega, fun c r _ => by omega, by decide⟩
  | par h => exact absurd rfl hc
  | @op w us bs b l hl h hb hw =>
    rw [stR_op hl] at f
    have e : min (l + 1) 3 = l + 1 := by omega
    rw [e] at f
    refine ⟨us, bs ++ .sg (opC l) :: as, .op (opC l) b a, l, by simp, h, .op hl hb (wr_low ha f hm), by omega, fun c r z => ?_, by rw [stR_op hl]; omega⟩
    have := hw c r z
    omega
theorem open_popW {s : Nat} : ∀ {w : List Nat} {f : List Tk} {us as : List Tk} {a : Fm} {m : Nat}, 1 ≤ s → s ≤ 4 → OpenW w us → Wr m as a → m ≤ 3 → FitsW w m → s ≤ m + 1 →
    ∃ (us' bs : List Tk) (b : Fm) (k : Nat), us ++ as = us' ++ bs ∧ OpenW (popW s f w).2 us' ∧ Wr k bs b ∧ k ≤ 3 ∧ s ≤ k + 1 ∧ (∀ c r, (popW s f w).2 = c :: r → stR c < s)
  | [], f, us, as, a, m, _, _, h, ha, hm, hf, hs => ⟨us, as, a, m, rfl, h, ha, hm, hs, fun c r z => by cases z⟩
  | c :: w, f, us, as, a, m, h1, h4, h, ha, hm, hf, hs => by
    unfold popW
    by_cases q : s ≤ stR c
    · rw [if_pos q]
      have hc : c ≠ 40 := fun z => by
        subst z
        have : stR 40 = 0 := rfl
        omega
      obtain ⟨us1, bs, b, k, e, h2, hb, hk, hf2, hk2⟩ := open_pop h hc ha hm hf
      rw [e]
      exact open_popW h1 h4 h2 hb hk hf2 (by omega)
    · rw [if_neg q]
      refine ⟨us, as, a, m, rfl, h, ha, hm, hs, fun d r z => ?_⟩
      cases z
      omega
theorem open_close : ∀ {w : List Nat} {f : List Tk} {us as : List Tk} {a : Fm} {m : Nat} {p : List Tk × List Nat}, OpenW w us → Wr m as a → m ≤ 3 → FitsW w m → closeW f w = some p →
    ∃ (us' bs : List Tk) (b : Fm), us ++ as ++ [.sg 41] = us' ++ bs ∧ OpenW p.2 us' ∧ Wr 3 bs b
  | [], f, us, as, a, m, p, _, _, _, _, z => by cases z
  | c :: w, f, us, as, a, m, p, h, ha, hm, hf, z => by
    unfold closeW at z
    by_cases q : c = 40
    · rw [if_pos q] at z
      cases z
      cases h with
      | @neg w us h => exact absurd q (by decide)
      | @par w us h => exact ⟨us, .sg 40 :: (as ++ [.sg 41]), a, by simp, h, .par (wr_low ha (by omega) hm)⟩
      | @op w us bs b l hl h hb hw =>
        have : stR (opC l) = l + 1 := stR_op hl
        rw [q] at this
        have e : stR 40 = 0 := rfl
        omega
    · rw [if_neg q] at z
      obtain ⟨us1, bs, b, k, e, h2, hb, hk, hf2, _⟩ := open_pop h q ha hm hf
      rw [e]
      exact open_close h2 hb hk hf2 z
theorem open_end : ∀ {w : List Nat} {us as : List Tk} {a : Fm} {m : Nat}, OpenW w us → Wr m as a → m ≤ 3 → FitsW w m → 40 ∉ w → ∃ b, Wr 0 (us ++ as) b
  | [], us, as, a, m, h, ha, hm, hf, _ => by
    cases h
    exact ⟨a, wr_low ha (by omega) hm⟩
  | c :: w, us, as, a, m, h, ha, hm, hf, hn => by
    have hc : c ≠ 40 := fun z => hn (by simp [z])
    obtain ⟨us1, bs, b, k, e, h2, hb, hk, hf2, _⟩ := open_pop h hc ha hm hf
    rw [e]
    exact open_end h2 hb hk hf2 fun z => hn (by simp [z])
def StateW (ts : List Tk) (s : StW) : Prop := if s.o = true then OpenW s.w ts else ∃ us as a, ts = us ++ as ∧ OpenW s.w us ∧ Wr 3 as a
theorem fits3 {w : List Nat} : FitsW w 3 := fun c r _ => Nat.min_le_right _ _
theorem step_state {ts : List Tk} {s s' : StW} {t : Tk} (ht : TOk t) (h : StateW ts s) (hs : stepTk s t = some s') : StateW (ts ++ [t]) s' := by
  unfold stepTk at hs
  by_cases q : beginB t = s.o
  · rw [if_pos q] at hs
    obtain ⟨f, w, o⟩ := s
    cases t with
    | num k =>
      have ho : o = true := q.symm
      subst ho
      cases hs
      have h : OpenW w ts := h
      show ∃ us as a, _
      exact ⟨ts, [.num k], .var k, rfl, h, .var ht⟩
    | sg c =>
      have hs : (if c ∈ [48, 49] then some (StW.mk (f ++ [.sg c]) w false) else if c ∈ [33, 40] then some (StW.mk f (c :: w) o) else if c = 41 then (closeW f w).map (fun p => StW.mk p.1 p.2 o) else some (StW.mk (popW (stR c) f w).1 (c :: (popW (stR c) f w).2) true)) = some s' := hs
      have q : decide (c ∈ [48, 49, 33, 40]) = o := q
      by_cases c1 : c ∈ [48, 49]
      · rw [if_pos c1] at hs
        cases hs
        have ho : o = true := by rw [← q]; exact decide_eq_true (by simp only [List.mem_cons, List.not_mem_nil, or_false] at c1 ⊢; omega)
        subst ho
        have h : OpenW w ts := h
        show ∃ us as a, _
        refine ⟨ts, [.sg c], .bit (c - 48), rfl, h, ?_⟩
        have hb : c - 48 < 2 := by simp only [List.mem_cons, List.not_mem_nil, or_false] at c1; omega
        have e : 48 + (c - 48) = c := by simp only [List.mem_cons, List.not_mem_nil, or_false] at c1; omega
        have := Wr.bit hb
        rw [e] at this
        exact this
      rw [if_neg c1] at hs
      by_cases c2 : c ∈ [33, 40]
      · rw [if_pos c2] at hs
        cases hs
        have ho : o = true := by rw [← q]; exact decide_eq_true (by simp only [List.mem_cons, List.not_mem_nil, or_false] at c2 ⊢; omega)
        subst ho
        have h : OpenW w ts := h
        show OpenW (c :: w) (ts ++ [.sg c])
        simp only [List.mem_cons, List.not_mem_nil, or_false] at c2
        rcases c2 with rfl | rfl
        · exact .neg h
        · exact .par h
      rw [if_neg c2] at hs
      have ho : o = false := by
        rw [← q]
        refine decide_eq_false fun z => ?_
        simp only [List.mem_cons, List.not_mem_nil, or_false] at z c1 c2
        omega
      subst ho
      have h : ∃ us as a, ts = us ++ as ∧ OpenW w us ∧ Wr 3 as a := h
      obtain ⟨us, as, a, rfl, hw, ha⟩ := h
      by_cases c3 : c = 41
      · rw [if_pos c3] at hs
        subst c3
        obtain ⟨p, hp, rfl⟩ := Option.map_eq_some_iff.mp hs
        obtain ⟨us', bs, b, e, h2, hb⟩ := open_close hw ha (by omega) fits3 hp
        show ∃ us as a, _
        exact ⟨us', bs, b, e, h2, hb⟩
      · rw [if_neg c3] at hs
        cases hs
        have ht : c ∈ opsL := ht
        have hc : c ∈ [38, 94, 124] := by
          simp only [opsL, List.mem_cons, List.not_mem_nil, or_false] at ht c1 c2 ⊢
          omega
        obtain ⟨lo, l2⟩ := lv_op hc
        have sc : stR c = lvC c + 1 := by
          conv => lhs; rw [← lo]
          exact stR_op l2
        obtain ⟨us', bs, b, k, e, h2, hb, hk, hk2, hh⟩ := open_popW (s := stR c) (f := f) (by omega) (by omega) hw ha (by omega) fits3 (by omega)
        show OpenW (c :: (popW (stR c) f w).2) (us ++ as ++ [.sg c])
        rw [e]
        have := OpenW.op (l := lvC c) l2 h2 (wr_low hb (by omega) hk) (by rw [← sc]; exact hh)
        rw [lo] at this
        exact this
  · rw [if_neg q] at hs; cases hs
theorem run_state : ∀ {us ts : List Tk} {s s' : StW}, (∀ t ∈ us, TOk t) → StateW ts s → runT s us = some s' → StateW (ts ++ us) s'
  | [], ts, s, s', _, h, e => by
    cases e
    rw [List.append_nil]; exact h
  | u :: us, ts, s, s', ht, h, e => by
    have e : (stepTk s u).bind (fun s' => runT s' us) = some s' := e
    cases es : stepTk s u with
    | none => rw [es] at e; cases e
    | some s1 =>
      rw [es] at e
      have h1 := step_state (ht u (by simp)) h es
      have := run_state (us := us) (fun t hx => ht t (by simp [hx])) h1 e
      rw [List.append_assoc] at this
      exact this
theorem turn_sound {ts r : List Tk} (ht : ∀ t ∈ ts, TOk t) (h : turnP ts = some r) : ∃ t, Wr 0 ts t ∧ r = t.rpn := by
  have hr := h
  unfold turnP at h
  cases e : runT ⟨[], [], true⟩ ts with
  | none => rw [e] at h; cases h
  | some s =>
    rw [e] at h
    have h : (if s.o = true ∨ 40 ∈ s.w then none else some (s.f ++ s.w.map .sg)) = some r := h
    by_cases q : s.o = true ∨ 40 ∈ s.w
    · rw [if_pos q] at h; cases h
    · have st := run_state (ts := []) ht (show StateW [] ⟨[], [], true⟩ from OpenW.nil) e
      rw [List.nil_append] at st
      have ho : s.o = false := by cases z : s.o with | false => rfl | true => exact absurd (.inl z) q
      unfold StateW at st
      rw [ho] at st
      have st : ∃ us as a, ts = us ++ as ∧ OpenW s.w us ∧ Wr 3 as a := st
      obtain ⟨us, as, a, rfl, hw, ha⟩ := st
      obtain ⟨b, hb⟩ := open_end hw ha (by omega) fits3 fun z => q (.inr z)
      have := turn_wr hb
      rw [hr] at this
      exact ⟨b, hb, Option.some.inj this⟩
end H

set_option Elab.async false
set_option linter.all false
set_option maxRecDepth 100000
set_option maxHeartbeats 2000000
namespace H
open PySem PySem.Spec PyProof.Rows L2 Y
def sk : List Nat → List Nat
  | [] => []
  | c :: r => if c = 32 then sk r else c :: r
abbrev RP := Option Fm × List Nat
def loopM (P : List Nat → RP) (c : Nat) : Nat → Fm → List Nat → RP
  | 0, t, r => (some t, r)
  | k + 1, t, r => match sk r with
    | [] => (some t, [])
    | d :: r' => if d = c then (match P r' with
        | (none, r2) => (none, r2)
        | (some m, r2) => loopM P c k (.op c t m) r2)
      else (some t, d :: r')
def contM (P : Nat → List Nat → RP) (l : Nat) (r : List Nat) : RP := match P (l + 1) r with
  | (none, r2) => (none, r2)
  | (some t, r2) => loopM (P (l + 1)) (opC l) (r2.length + 1) t r2
def headB : List Nat → Bool
  | [] => false
  | e :: _ => decide (e ∈ figL)
def closeM : Option Fm → List Nat → RP
  | none, r => (none, r)
  | some t, r => match r with
    | [] => (none, [])
    | c :: r2 => if c = 41 then (some t, r2) else (none, c :: r2)
def negM : RP → RP
  | (none, r) => (none, r)
  | (some t, r) => (some (.neg t), r)
def facM (P : Nat → List Nat → RP) : List Nat → RP
  | [] => (none, [])
  | c :: r => if c = 115 ∧ headB r = true then (some (.var (r.headD 0 - 48)), r.tail)
    else if c = 48 ∨ c = 49 then (some (.bit (c - 48)), r)
    else if c = 33 then negM (P 3 r)
    else if c = 40 then closeM (P 0 r).1 (sk (P 0 r).2)
    else (none, c :: r)
theorem fac_cons {P : Nat → List Nat → RP} {c : Nat} {r : List Nat} : facM P (c :: r) = if c = 115 ∧ headB r = true then (some (.var (r.headD 0 - 48)), r.tail)
    else if c = 48 ∨ c = 49 then (some (.bit (c - 48)), r)
    else if c = 33 then negM (P 3 r)
    else if c = 40 then closeM (P 0 r).1 (sk (P 0 r).2)
    else (none, c :: r) := rfl
def rdM : Nat → (Nat → List Nat → RP) × (List Nat → RP)
  | 0 => (fun _ r => (none, r), fun r => (none, r))
  | n + 1 => (fun l r => if l = 3 then (rdM n).2 (sk r) else contM (rdM n).1 l (sk r), facM (rdM n).1)
def readM (n : Nat) (cs : List Nat) : Option Fm := match (rdM n).1 0 cs with
  | (some t, r2) => if sk r2 = [] then some t else none
  | (none, _) => none
theorem sk_suf : ∀ {r : List Nat}, sk r <:+ r
  | [] => List.suffix_refl _
  | c :: r => by
    unfold sk
    by_cases h : c = 32
    · rw [if_pos h]; exact sk_suf.trans (List.suffix_cons _ _)
    · rw [if_neg h]; exact List.suffix_refl _
theorem sk_lex : ∀ {r : List Nat}, lexN (sk r) = lexN r
  | [] => rfl
  | c :: r => by
    unfold sk
    by_cases h : c = 32
    · rw [if_pos h, sk_lex, h, lex_sp]
    · rw [if_neg h]
theorem sk_seg : ∀ {r : List Nat}, ∃ b, r = b ++ sk r ∧ Lx b []
  | [] => ⟨[], rfl, Lx.nil⟩
  | c :: r => by
    unfold sk
    by_cases h : c = 32
    · rw [if_pos h, h]
      obtain ⟨b, e, lx⟩ := sk_seg (r := r)
      refine ⟨32 :: b, by rw [List.cons_append, ← e], ?_⟩
      exact Lx.sp.app lx
    · rw [if_neg h]; exact ⟨[], rfl, Lx.nil⟩
theorem sk_head {r r' : List Nat} {c : Nat} : sk r = c :: r' → c ≠ 32 := by
  induction r with
  | nil => intro h; cases h
  | cons d r ih =>
    intro h
    unfold sk at h
    by_cases q : d = 32
    · rw [if_pos q] at h; exact ih h
    · rw [if_neg q] at h; cases h; exact q
theorem loop_suf {P : List Nat → RP} {c : Nat} (hP : ∀ r, (P r).2 <:+ r) : ∀ {k : Nat} {t : Fm} {r : List Nat}, (loopM P c k t r).2 <:+ r
  | 0, t, r => List.suffix_refl _
  | k + 1, t, r => by
    unfold loopM
    have hs := sk_suf (r := r)
    cases e : sk r with
    | nil => exact List.nil_suffix
    | cons d r' =>
      rw [e] at hs
      show (if d = c then _ else _ : RP).2 <:+ r
      by_cases q : d = c
      · rw [if_pos q]
        have h1 := hP r'
        have h2 : r' <:+ r := (List.suffix_cons d r').trans hs
        cases eP : P r' with
        | mk o r2 =>
          rw [eP] at h1
          have h1 : r2 <:+ r' := h1
          cases o with
          | none => exact h1.trans h2
          | some m => exact (loop_suf hP).trans (h1.trans h2)
      · rw [if_neg q]; exact hs
theorem cont_suf {P : Nat → List Nat → RP} (hP : ∀ l r, (P l r).2 <:+ r) {l : Nat} {r : List Nat} : (contM P l r).2 <:+ r := by
  unfold contM
  have h1 := hP (l + 1) r
  cases e : P (l + 1) r with
  | mk o r2 =>
    rw [e] at h1
    have h1 : r2 <:+ r := h1
    cases o with
    | none => exact h1
    | some t => exact (loop_suf (hP (l + 1))).trans h1
theorem close_suf {o : Option Fm} {r : List Nat} : (closeM o r).2 <:+ r := by
  cases o with
  | none => exact List.suffix_refl _
  | some t => cases r with
    | nil => exact List.suffix_refl _
    | cons c r =>
      show (if c = 41 then (some t, r) else (none, c :: r) : RP).2 <:+ _
      by_cases q : c = 41
      · rw [if_pos q]; exact List.suffix_cons _ _
      · rw [if_neg q]; exact List.suffix_refl _
theorem neg_snd {p : RP} : (negM p).2 = p.2 := by
  obtain ⟨o, r⟩ := p
  cases o <;> rfl
theorem fac_suf {P : Nat → List Nat → RP} (hP : ∀ l r, (P l r).2 <:+ r) {r : List Nat} : (facM P r).2 <:+ r := by
  cases r with
  | nil => exact List.suffix_refl _
  | cons c r =>
    rw [fac_cons]
    by_cases h1 : c = 115 ∧ headB r = true
    · rw [if_pos h1]; exact (List.tail_suffix r).trans (List.suffix_cons _ _)
    rw [if_neg h1]
    by_cases h2 : c = 48 ∨ c = 49
    · rw [if_pos h2]; exact List.suffix_cons _ _
    rw [if_neg h2]
    by_cases h3 : c = 33
    · rw [if_pos h3, neg_snd]; exact (hP 3 r).trans (List.suffix_cons _ _)
    rw [if_neg h3]
    by_cases h4 : c = 40
    · rw [if_pos h4]; exact close_suf.trans (sk_suf.trans ((hP 0 r).trans (List.suffix_cons _ _)))
    rw [if_neg h4]; exact List.suffix_refl _
theorem rd_suf : ∀ n, (∀ l r, ((rdM n).1 l r).2 <:+ r) ∧ ∀ r, ((rdM n).2 r).2 <:+ r
  | 0 => ⟨fun _ _ => List.suffix_refl _, fun _ => List.suffix_refl _⟩
  | n + 1 => by
    obtain ⟨h1, h2⟩ := rd_suf n
    refine ⟨fun l r => ?_, fun r => fac_suf h1⟩
    show (if l = 3 then (rdM n).2 (sk r) else contM (rdM n).1 l (sk r) : RP).2 <:+ r
    by_cases q : l = 3
    · rw [if_pos q]; exact (h2 _).trans sk_suf
    · rw [if_neg q]; exact (cont_suf h1).trans sk_suf
def SndP (l : Nat) (P : List Nat → RP) : Prop := ∀ r t r2, P r = (some t, r2) → ∃ seg ts, r = seg ++ r2 ∧ Lx seg ts ∧ Wr l ts t
theorem opC_ops {l : Nat} : opC l ∈ opsL := by
  unfold opC
  split
  · decide
  · split <;> decide
theorem loop_snd {P : List Nat → RP} {l : Nat} (hl : l ≤ 2) (hP : SndP (l + 1) P) : ∀ {k : Nat} {t t' : Fm} {r r2 : List Nat}, loopM P (opC l) k t r = (some t', r2) → ∃ seg us, r = seg ++ r2 ∧ Lx seg us ∧ ∀ ts, Wr l ts t → Wr l (ts ++ us) t'
  | 0, t, t', r, r2, h => by
    cases h
    exact ⟨[], [], rfl, Lx.nil, fun ts h => by rw [List.append_nil]; exact h⟩
  | k + 1, t, t', r, r2, h => by
    unfold loopM at h
    obtain ⟨b, eb, lb⟩ := sk_seg (r := r)
    cases e : sk r with
    | nil =>
      rw [e] at h eb
      cases h
      exact ⟨b, [], eb, lb, fun ts h => by rw [List.append_nil]; exact h⟩
    | cons d r' =>
      rw [e] at h eb
      have h : (if d = opC l then (match P r' with | (none, r2) => (none, r2) | (some m, r2) => loopM P (opC l) k (.op (opC l) t m) r2) else (some t, d :: r') : RP) = (some t', r2) := h
      by_cases q : d = opC l
      · rw [if_pos q] at h
        cases eP : P r' with
        | mk o r3 =>
          rw [eP] at h
          cases o with
          | none => cases h
          | some m =>
            obtain ⟨seg, ts, es, lx, wr⟩ := hP r' m r3 eP
            obtain ⟨seg2, us, es2, lx2, wr2⟩ := loop_snd hl hP (show loopM P (opC l) k (.op (opC l) t m) r3 = _ from h)
            refine ⟨b ++ [d] ++ seg ++ seg2, .sg d :: ts ++ us, ?_, ?_, fun vs hv => ?_⟩
            · rw [eb, es, es2]; simp
            · have hd : d ∈ opsL := by rw [q]; exact opC_ops
              have := ((lb.app (Lx.op hd)).app lx).app lx2
              simpa using this
            · have := wr2 _ (.op hl hv wr)
              rw [← q, List.append_assoc] at this
              exact this
      · rw [if_neg q] at h
        cases h
        exact ⟨b, [], eb, lb, fun ts h => by rw [List.append_nil]; exact h⟩
theorem cont_snd {P : Nat → List Nat → RP} {l : Nat} (hl : l ≤ 2) (hP : SndP (l + 1) (P (l + 1))) : SndP l (contM P l) := by
  intro r t r2 h
  unfold contM at h
  cases e : P (l + 1) r with
  | mk o r3 =>
    rw [e] at h
    cases o with
    | none => cases h
    | some t0 =>
      obtain ⟨seg, ts, es, lx, wr⟩ := hP r t0 r3 e
      obtain ⟨seg2, us, es2, lx2, wr2⟩ := loop_snd hl hP (show loopM (P (l + 1)) (opC l) (r3.length + 1) t0 r3 = _ from h)
      exact ⟨seg ++ seg2, ts ++ us, by rw [es, es2, List.append_assoc], lx.app lx2, wr2 _ (.up hl wr)⟩
theorem fac_snd {P : Nat → List Nat → RP} (h3 : SndP 3 (P 3)) (h0 : SndP 0 (P 0)) : SndP 3 (facM P) := by
  intro r t r2 h
  cases r with
  | nil => cases h
  | cons c r =>
    rw [fac_cons] at h
    by_cases q1 : c = 115 ∧ headB r = true
    · rw [if_pos q1] at h
      obtain ⟨rfl, hb⟩ := q1
      cases r with
      | nil => cases hb
      | cons e r =>
        have he : e ∈ figL := of_decide_eq_true hb
        cases h
        have hk : e - 48 < 8 := by simp only [figL, List.mem_cons, List.not_mem_nil, or_false] at he; omega
        have e2 : 48 + (e - 48) = e := by simp only [figL, List.mem_cons, List.not_mem_nil, or_false] at he; omega
        have lx := Lx.num hk
        rw [e2] at lx
        exact ⟨[115, e], [.num (e - 48)], rfl, lx, .var hk⟩
    rw [if_neg q1] at h
    by_cases q2 : c = 48 ∨ c = 49
    · rw [if_pos q2] at h
      cases h
      have hb : c - 48 < 2 := by omega
      have e2 : 48 + (c - 48) = c := by omega
      have wr := Wr.bit hb
      rw [e2] at wr
      exact ⟨[c], [.sg c], rfl, Lx.op (by simp only [opsL, List.mem_cons, List.not_mem_nil, or_false]; omega), wr⟩
    rw [if_neg q2] at h
    by_cases q3 : c = 33
    · rw [if_pos q3] at h
      cases e : P 3 r with
      | mk o r3 =>
        rw [e] at h
        cases o with
        | none => cases h
        | some a =>
          cases h
          obtain ⟨seg, ts, es, lx, wr⟩ := h3 r a r2 e
          subst q3
          exact ⟨33 :: seg, .sg 33 :: ts, by rw [es]; rfl, (Lx.op (c := 33) (by decide)).app lx, .neg wr⟩
    rw [if_neg q3] at h
    by_cases q4 : c = 40
    · rw [if_pos q4] at h
      cases e : P 0 r with
      | mk o r3 =>
        rw [e] at h
        cases o with
        | none => cases h
        | some a =>
          obtain ⟨seg, ts, es, lx, wr⟩ := h0 r a r3 e
          obtain ⟨b, eb, lb⟩ := sk_seg (r := r3)
          have h : closeM (some a) (sk r3) = (some t, r2) := h
          cases e5 : sk r3 with
          | nil => rw [e5] at h; cases h
          | cons d r4 =>
            rw [e5] at h eb
            have h : (if d = 41 then (some a, r4) else (none, d :: r4) : RP) = (some t, r2) := h
            by_cases q5 : d = 41
            · rw [if_pos q5] at h
              cases h
              subst q4 q5
              refine ⟨40 :: seg ++ b ++ [41], .sg 40 :: (ts ++ [.sg 41]), by rw [es, eb]; simp, ?_, .par wr⟩
              have := (((Lx.op (c := 40) (by decide)).app lx).app lb).app (Lx.op (c := 41) (by decide))
              simpa using this
            · rw [if_neg q5] at h; cases h
    rw [if_neg q4] at h; cases h
theorem rd_snd : ∀ n, (∀ l, l ≤ 3 → SndP l ((rdM n).1 l)) ∧ SndP 3 (rdM n).2
  | 0 => by
    refine ⟨fun _ _ r t r2 h => ?_, fun r t r2 h => ?_⟩
    · have h : ((none, r) : RP) = (some t, r2) := h
      cases h
    · have h : ((none, r) : RP) = (some t, r2) := h
      cases h
  | n + 1 => by
    obtain ⟨h1, h2⟩ := rd_snd n
    refine ⟨fun l hl r t r2 h => ?_, fac_snd (h1 3 (by omega)) (h1 0 (by omega))⟩
    have h : (if l = 3 then (rdM n).2 (sk r) else contM (rdM n).1 l (sk r) : RP) = (some t, r2) := h
    obtain ⟨b, eb, lb⟩ := sk_seg (r := r)
    have key : ∃ seg ts, sk r = seg ++ r2 ∧ Lx seg ts ∧ Wr l ts t := by
      by_cases q : l = 3
      · subst q
        rw [if_pos rfl] at h
        exact h2 _ _ _ h
      · rw [if_neg q] at h
        exact cont_snd (by omega) (h1 (l + 1) (by omega)) _ _ _ h
    obtain ⟨seg, ts, es, lx, wr⟩ := key
    exact ⟨b ++ seg, ts, by conv => lhs; rw [eb]
                            rw [es, List.append_assoc], lb.app lx, wr⟩
theorem lex_sg {r : List Nat} {c : Nat} {vs : List Tk} (h : lexN r = some (.sg c :: vs)) : ∃ r', sk r = c :: r' ∧ lexN r' = some vs := by
  rw [← sk_lex] at h
  cases e : sk r with
  | nil => rw [e] at h; cases h
  | cons d r' =>
    have hd := sk_head e
    rw [e] at h
    by_cases q : d = 115
    · subst q
      cases r' with
      | nil => rw [lex_s0] at h; cases h
      | cons x r2 =>
        by_cases hx : x ∈ figL
        · rw [lex_s hx] at h
          obtain ⟨_, _, z⟩ := Option.map_eq_some_iff.mp h
          cases z
        · rw [lex_sx hx] at h; cases h
    · by_cases q2 : d ∈ opsL
      · rw [lex_op q2] at h
        obtain ⟨us, hu, z⟩ := Option.map_eq_some_iff.mp h
        cases z
        exact ⟨r', rfl, hu⟩
      · rw [lex_bad q q2 hd] at h; cases h
theorem lex_num {r : List Nat} {k : Nat} {vs : List Tk} (h : lexN r = some (.num k :: vs)) : ∃ x r', sk r = 115 :: x :: r' ∧ x ∈ figL ∧ k = x - 48 ∧ lexN r' = some vs := by
  rw [← sk_lex] at h
  cases e : sk r with
  | nil => rw [e] at h; cases h
  | cons d r' =>
    have hd := sk_head e
    rw [e] at h
    by_cases q : d = 115
    · subst q
      cases r' with
      | nil => rw [lex_s0] at h; cases h
      | cons x r2 =>
        by_cases hx : x ∈ figL
        · rw [lex_s hx] at h
          obtain ⟨us, hu, z⟩ := Option.map_eq_some_iff.mp h
          cases z
          exact ⟨x, r2, rfl, hx, rfl, hu⟩
        · rw [lex_sx hx] at h; cases h
    · by_cases q2 : d ∈ opsL
      · rw [lex_op q2] at h
        obtain ⟨us, hu, z⟩ := Option.map_eq_some_iff.mp h
        cases z
      · rw [lex_bad q q2 hd] at h; cases h
theorem lex_end {r : List Nat} (h : lexN r = some []) : sk r = [] := by
  rw [← sk_lex] at h
  cases e : sk r with
  | nil => rfl
  | cons d r' =>
    have hd := sk_head e
    rw [e] at h
    by_cases q : d = 115
    · subst q
      cases r' with
      | nil => rw [lex_s0] at h; cases h
      | cons x r2 =>
        by_cases hx : x ∈ figL
        · rw [lex_s hx] at h
          obtain ⟨us, hu, z⟩ := Option.map_eq_some_iff.mp h
          cases z
        · rw [lex_sx hx] at h; cases h
    · by_cases q2 : d ∈ opsL
      · rw [lex_op q2] at h
        obtain ⟨us, hu, z⟩ := Option.map_eq_some_iff.mp h
        cases z
      · rw [lex_bad q q2 hd] at h; cases h
def nb (r : List Nat) : Nat := r.countP fun c => decide (c = 40 ∨ c = 33)
theorem nb_suf {a b : List Nat} (h : a <:+ b) : nb a ≤ nb b := h.sublist.countP_le
theorem nb_sk {r : List Nat} : nb (sk r) = nb r := by
  induction r with
  | nil => rfl
  | cons c r ih =>
    unfold sk
    by_cases h : c = 32
    · rw [if_pos h, ih]
      unfold nb
      rw [List.countP_cons_of_neg]
      simp [h]
    · rw [if_neg h]
theorem nb_cons {c : Nat} {r : List Nat} (h : c = 40 ∨ c = 33) : nb (c :: r) = nb r + 1 := by
  unfold nb
  rw [List.countP_cons_of_pos (by simpa using h)]
def NoOp (l : Nat) (us : List Tk) : Prop := ∀ c vs, us = .sg c :: vs → ∀ k, l ≤ k → k ≤ 2 → c ≠ opC k
def MP (l : Nat) (r : List Nat) : Nat := 5 * nb r + (5 - l)
def C1 (l : Nat) (ts : List Tk) (t : Fm) : Prop := ∀ n r us, MP l r ≤ n → lexN r = some (ts ++ us) → NoOp l us → ∃ r2, (rdM n).1 l r = (some t, r2) ∧ lexN r2 = some us
def C2 (l : Nat) (ts : List Tk) (t : Fm) : Prop := ∀ n r us, MP l r ≤ n + 1 → lexN r = some (ts ++ us) → NoOp (l + 1) us → ∃ r2 k, (rdM (n + 1)).1 l r = loopM ((rdM n).1 (l + 1)) (opC l) k t r2 ∧ lexN r2 = some us ∧ r2.length < k ∧ r2 <:+ r
theorem c1_of {l : Nat} {ts : List Tk} {t : Fm} (hl : l ≤ 2) (h : C2 l ts t) : C1 l ts t := fun n r us hn lx no => by
  obtain ⟨m, rfl⟩ : ∃ m, n = m + 1 := ⟨n - 1, by unfold MP at hn; omega⟩
  obtain ⟨r2, k, e, lx2, hk, _⟩ := h m r us hn lx fun c vs z k hk hk2 => no c vs z k (by omega) hk2
  rw [e]
  obtain ⟨j, rfl⟩ : ∃ j, k = j + 1 := ⟨k - 1, by omega⟩
  unfold loopM
  rw [← sk_lex] at lx2
  cases es : sk r2 with
  | nil => rw [es] at lx2; exact ⟨[], rfl, lx2⟩
  | cons d r' =>
    rw [es] at lx2
    have : d ≠ opC l := fun z => by
      rw [z, lex_op opC_ops] at lx2
      obtain ⟨vs, _, z2⟩ := Option.map_eq_some_iff.mp lx2
      exact no (opC l) vs z2.symm l (Nat.le_refl _) hl rfl
    show ∃ r2, (if d = opC l then _ else (some t, d :: r') : RP) = _ ∧ _
    rw [if_neg this]
    exact ⟨_, rfl, lx2⟩
theorem rd3 {n : Nat} {r : List Nat} : (rdM (n + 2)).1 3 r = facM (rdM n).1 (sk r) := rfl
theorem rdl {n l : Nat} {r : List Nat} (hl : l ≤ 2) : (rdM (n + 1)).1 l r = contM (rdM n).1 l (sk r) := by
  show (if l = 3 then _ else _ : RP) = _
  rw [if_neg (by omega)]
theorem complete {l : Nat} {ts : List Tk} {t : Fm} (h : Wr l ts t) : C1 l ts t ∧ (l ≤ 2 → C2 l ts t) := by
  induction h with
  | @bit b hb =>
    refine ⟨fun n r us hn lx _ => ?_, fun z => absurd z (by omega)⟩
    obtain ⟨m, rfl⟩ : ∃ m, n = m + 2 := ⟨n - 2, by unfold MP at hn; omega⟩
    obtain ⟨r', es, lx2⟩ := lex_sg lx
    rw [rd3, es]
    rw [fac_cons]
    rw [if_neg (fun z => by omega), if_pos (by omega), Nat.add_sub_cancel_left]
    exact ⟨r', rfl, lx2⟩
  | @var k hk =>
    refine ⟨fun n r us hn lx _ => ?_, fun z => absurd z (by omega)⟩
    obtain ⟨m, rfl⟩ : ∃ m, n = m + 2 := ⟨n - 2, by unfold MP at hn; omega⟩
    obtain ⟨x, r', es, hx, ek, lx2⟩ := lex_num lx
    rw [rd3, es]
    rw [fac_cons]
    rw [if_pos ⟨rfl, decide_eq_true hx⟩, ek]
    exact ⟨r', rfl, lx2⟩
  | @neg ts a h ih =>
    refine ⟨fun n r us hn lx _ => ?_, fun z => absurd z (by omega)⟩
    obtain ⟨m, rfl⟩ : ∃ m, n = m + 2 := ⟨n - 2, by unfold MP at hn; omega⟩
    obtain ⟨r', es, lx2⟩ := lex_sg lx
    have nbr : nb r = nb r' + 1 := by rw [← nb_sk, es, nb_cons (.inr rfl)]
    obtain ⟨r2, e, lx3⟩ := ih.1 m r' us (by unfold MP at hn ⊢; omega) lx2 fun c vs _ k h1 h2 => by omega
    rw [rd3, es]
    rw [fac_cons]
    rw [if_neg (fun z => by omega), if_neg (by omega), if_pos rfl, e]
    exact ⟨r2, rfl, lx3⟩
  | @par ts a h ih =>
    refine ⟨fun n r us hn lx _ => ?_, fun z => absurd z (by omega)⟩
    obtain ⟨m, rfl⟩ : ∃ m, n = m + 2 := ⟨n - 2, by unfold MP at hn; omega⟩
    obtain ⟨r', es, lx2⟩ := lex_sg lx
    have nbr : nb r = nb r' + 1 := by rw [← nb_sk, es, nb_cons (.inl rfl)]
    have lx2 : lexN r' = some (ts ++ [.sg 41] ++ us) := lx2
    rw [List.append_assoc] at lx2
    obtain ⟨r2, e, lx3⟩ := ih.1 m r' (.sg 41 :: us) (by unfold MP at hn ⊢; omega) lx2 fun c vs z k h1 h2 q => by
      have : c = 41 := by cases z; rfl
      rw [this] at q
      have : k = 0 ∨ k = 1 ∨ k = 2 := by omega
      rcases this with rfl | rfl | rfl <;> cases q
    obtain ⟨r3, es3, lx4⟩ := lex_sg lx3
    rw [rd3, es]
    rw [fac_cons]
    rw [if_neg (fun z => by omega), if_neg (by omega), if_neg (by omega), if_pos rfl, e]
    show ∃ r2_1, closeM (some a) (sk r2) = _ ∧ _
    rw [es3]
    exact ⟨r3, rfl, lx4⟩
  | @up l ts a hl h ih =>
    have c2 : C2 l ts a := fun n r us hn lx no => by
      obtain ⟨r2, e, lx2⟩ := ih.1 n (sk r) us (by unfold MP at hn ⊢; rw [nb_sk]; omega) (by rw [sk_lex]; exact lx) no
      refine ⟨r2, r2.length + 1, ?_, lx2, by omega, ?_⟩
      · rw [rdl hl]
        unfold contM
        rw [e]
      · have := (rd_suf n).1 (l + 1) (sk r)
        rw [e] at this
        exact this.trans sk_suf
    exact ⟨c1_of hl c2, fun _ => c2⟩
  | @op l ts us' a b hl h h2 ih ih2 =>
    have c2 : C2 l (ts ++ .sg (opC l) :: us') (.op (opC l) a b) := fun n r us hn lx no => by
      rw [List.append_assoc] at lx
      obtain ⟨r2, k, e, lx2, hk, sf⟩ := ih.2 hl n r (.sg (opC l) :: us' ++ us) hn lx fun c vs z j h1 h2 q => by
        have : c = opC l := by cases z; rfl
        rw [this] at q
        have h3 := stR_op hl
        have h4 := stR_op h2
        rw [q] at h3
        omega
      obtain ⟨r', es, lx3⟩ := lex_sg lx2
      have hs : r' <:+ r2 := (List.suffix_cons (opC l) r').trans (by rw [← es]; exact sk_suf)
      have hlen : r'.length < r2.length := by
        have : (sk r2).length ≤ r2.length := sk_suf.length_le
        rw [es, List.length_cons] at this
        omega
      have nbr := nb_suf (hs.trans sf)
      obtain ⟨r3, e3, lx4⟩ := ih2.1 n r' us (by unfold MP at hn ⊢; omega) lx3 no
      have s3 := (rd_suf n).1 (l + 1) r'
      rw [e3] at s3
      have s3 : r3 <:+ r' := s3
      have l3 := s3.length_le
      obtain ⟨j, rfl⟩ : ∃ j, k = j + 1 := ⟨k - 1, by omega⟩
      refine ⟨r3, j, ?_, lx4, by omega, s3.trans (hs.trans sf)⟩
      rw [e]
      conv => lhs; unfold loopM
      rw [es]
      show (if opC l = opC l then (match (rdM n).1 (l + 1) r' with | (none, r2) => (none, r2) | (some m, r2) => loopM ((rdM n).1 (l + 1)) (opC l) j (.op (opC l) a m) r2) else _ : RP) = _
      rw [if_pos rfl, e3]
    exact ⟨c1_of hl c2, fun _ => c2⟩
theorem read_snd {n : Nat} {cs : List Nat} {t : Fm} (h : readM n cs = some t) : ∃ ts, lexN cs = some ts ∧ Wr 0 ts t := by
  unfold readM at h
  cases e : (rdM n).1 0 cs with
  | mk o r2 =>
    rw [e] at h
    cases o with
    | none => cases h
    | some a =>
      have h : (if sk r2 = [] then some a else none) = some t := h
      by_cases q : sk r2 = []
      · rw [if_pos q] at h
        cases h
        obtain ⟨seg, ts, es, lx, wr⟩ := (rd_snd n).1 0 (by omega) cs t r2 e
        obtain ⟨b, eb, lb⟩ := sk_seg (r := r2)
        rw [q, List.append_nil] at eb
        refine ⟨ts, ?_, wr⟩
        rw [es, eb, (lx.app lb).get, List.append_nil]
      · rw [if_neg q] at h; cases h
theorem read_cmp {n : Nat} {cs : List Nat} {ts : List Tk} {t : Fm} (hn : MP 0 cs ≤ n) (lx : lexN cs = some ts) (wr : Wr 0 ts t) : readM n cs = some t := by
  obtain ⟨r2, e, lx2⟩ := (complete wr).1 n cs [] hn (by rw [List.append_nil]; exact lx) fun c vs z => by cases z
  unfold readM
  rw [e]
  show (if sk r2 = [] then some t else none) = some t
  rw [if_pos (lex_end lx2)]
end H

set_option Elab.async false
set_option linter.all false
set_option maxRecDepth 100000
set_option maxHeartbeats 4000000
namespace H
open PySem PySem.Spec PyProof.Rows L2 Y
def oD : Option Fm → D
  | none => .non
  | some t => t.d
theorem non_d {t : Fm} : isNon t.d = false := by cases t <;> rfl
theorem s_opsQ : Str.ofString "|^&" = tx [124, 94, 38] := by decide +kernel
theorem wh_rt {t : BM} {body : SM} {vs : List Nat} {n : Nat} {ρ ρ1 ρ2 : Y.Env} {h : Hd} (h1 : t ρ = .ok (true, ρ1)) (h2 : body ρ1 = .ok (.rt h, ρ2)) : whileN t body vs (n + 1) ρ = .ok (.rt h, ρ2) := by
  conv => lhs; unfold whileN
  rw [h1]
  simp only [R.bind_ok, if_true]
  rw [h2]
  rfl
abbrev tSkip : BM := cAndT (cBl (cOp ltD (cVar 1) (cCall lenD (cCons (cVar 0) (cNil))))) (cBl (cOp eqD (cIx (cVar 0) (cVar 1)) (cC (.str " "))))
abbrev bSkip : SM := sAsg (cOp addD (cVar 1) (cC (.int 1))) (tmName 1)
theorem drop_cons {cs : List Nat} {p d : Nat} {r : List Nat} (h : cs.drop p = d :: r) : p < cs.length ∧ cs.getD p 0 = d ∧ cs.drop (p + 1) = r := by
  have hp : p < cs.length := by
    apply Nat.lt_of_not_le
    intro z
    rw [List.drop_of_length_le z] at h
    cases h
  rw [List.drop_eq_getElem_cons hp] at h
  cases h
  exact ⟨hp, getD_lt hp, rfl⟩
theorem drop_nil {cs : List Nat} {p : Nat} (hp : p ≤ cs.length) (h : cs.drop p = []) : p = cs.length := by
  have := congrArg List.length h
  rw [List.length_drop] at this
  simp at this
  omega
section
variable {cs : List Nat} (hc : ∀ c ∈ cs, c < 1000) (hl : cs.length ≤ 100000)
include hc hl
theorem skip_go {ρ : Y.Env} : ∀ (n at_ : Nat), at_ ≤ cs.length → cs.length - at_ ≤ n → ∃ p, at_ ≤ p ∧ p ≤ cs.length ∧ cs.drop p = sk (cs.drop at_) ∧ ∃ N, whileN tSkip bSkip [] N (some (dt cs) :: some (.int at_) :: ρ) = .ok (.nx, some (dt cs) :: some (.int p) :: ρ)
  | n, at_, ha, hn => by
    have ln := len_dtQ (l := cs) (by omega)
    by_cases c0 : at_ = cs.length
    · subst c0
      refine ⟨cs.length, Nat.le_refl _, Nat.le_refl _, by rw [List.drop_length]; rfl, 1, ?_⟩
      refine wh_stop ?_
      generalize dt cs = T at *
      generalize (cs.length : Int) = LN at *
      simp [ln, -d_lenT]
    · have hat : at_ < cs.length := by omega
      have lt : (at_ : Int) < (cs.length : Int) := by omega
      have ix := ix_dt (l := cs) (k := at_) hat (by omega)
      have ed : cs.drop at_ = cs.getD at_ 0 :: cs.drop (at_ + 1) := by
        rw [List.drop_eq_getElem_cons hat, getD_lt hat]
      have hcm : cs.getD at_ 0 ∈ cs := by rw [getD_lt hat]; exact List.getElem_mem hat
      have e1 := eq_c (a := cs.getD at_ 0) (b := 32) (hc _ hcm) (by omega)
      rw [ed]
      generalize cs.getD at_ 0 = c at *
      unfold sk
      by_cases c1 : c = 32
      · rw [if_pos c1]
        rw [decide_eq_true c1] at e1
        match n, hn with
        | 0, hn => omega
        | n + 1, hn =>
          obtain ⟨p, h1, h2, h3, N, hN⟩ := skip_go (ρ := ρ) n (at_ + 1) (by omega) (by omega)
          refine ⟨p, by omega, h2, h3, N + 1, ?_⟩
          have t : tSkip (some (dt cs) :: some (.int at_) :: ρ) = .ok (true, some (dt cs) :: some (.int at_) :: ρ) := by
            simp only [tSkip, s_spQ]
            simp only [dt] at *
            generalize D.str (tx [32]) = S1 at *
            generalize D.str (tx [c]) = S2 at *
            generalize D.str (tx cs) = T at *
            generalize (cs.length : Int) = LN at *
            simp [ln, lt, ix, e1, -d_lenT]
          have ia : ((at_ : Int) + 1) = ((at_ + 1 : Nat) : Int) := by omega
          have b : bSkip (some (dt cs) :: some (.int at_) :: ρ) = .ok (.nx, some (dt cs) :: some (.int ((at_ + 1 : Nat) : Int)) :: ρ) := by
            generalize dt cs = T at *
            generalize ((at_ + 1 : Nat) : Int) = A1 at *
            simp [ia]
          rw [wh_step t b]
          exact hN
      · rw [if_neg c1]
        rw [decide_eq_false c1] at e1
        refine ⟨at_, Nat.le_refl _, ha, ed, 1, ?_⟩
        refine wh_stop ?_
        simp only [tSkip, s_spQ]
        simp only [dt] at *
        generalize D.str (tx [32]) = S1 at *
        generalize D.str (tx [c]) = S2 at *
        generalize D.str (tx cs) = T at *
        generalize (cs.length : Int) = LN at *
        simp [ln, lt, ix, e1, -d_lenT]
theorem skip_ok (ρ : Y.Env) {at_ : Nat} (ha : at_ ≤ cs.length) : ∃ p, at_ ≤ p ∧ p ≤ cs.length ∧ cs.drop p = sk (cs.drop at_) ∧ sWhile tSkip bSkip [] (some (dt cs) :: some (.int at_) :: ρ) = .ok (.nx, some (dt cs) :: some (.int p) :: ρ) := by
  obtain ⟨p, h1, h2, h3, N, hN⟩ := skip_go hc hl (ρ := ρ) (cs.length - at_) at_ ha (Nat.le_refl _)
  exact ⟨p, h1, h2, h3, sWhile_is (by intro z; cases z) hN⟩
end
/-- a result: the tree and the place behind it -/
def Reads (cs : List Nat) (x : RP) (r : Y.R Hd) : Prop := ∃ (p : Nat) (h : Hd), p ≤ cs.length ∧ cs.drop p = x.2 ∧ r = .ok h ∧ (h = .fr (.tup [oD x.1, .int (p : Nat)]) ∨ h = .vl (.tup [oD x.1, .int (p : Nat)]))
def PartW (cs : List Nat) (n : Nat) (G : List D → Y.R Hd) : Prop := ∀ l at_, l ≤ 3 → at_ ≤ cs.length → MP l (cs.drop at_) ≤ n → Reads cs ((rdM n).1 l (cs.drop at_)) (G [dt cs, .int (at_ : Nat), .int (l : Nat)])
def FacW (cs : List Nat) (n : Nat) (G : List D → Y.R Hd) : Prop := ∀ at_, at_ ≤ cs.length → 5 * nb (cs.drop at_) + 1 ≤ n → Reads cs ((rdM n).2 (cs.drop at_)) (G [dt cs, .int (at_ : Nat)])
theorem loop_cons {P : List Nat → RP} {c k : Nat} {t : Fm} {r r' : List Nat} {d : Nat} (h : sk r = d :: r') : loopM P c (k + 1) t r = if d = c then (match P r' with
        | (none, r2) => (none, r2)
        | (some m, r2) => loopM P c k (.op c t m) r2)
      else (some t, d :: r') := by
  conv => lhs; unfold loopM
  rw [h] <;> rfl
theorem loop_nil {P : List Nat → RP} {c k : Nat} {t : Fm} {r : List Nat} (h : sk r = []) : loopM P c (k + 1) t r = (some t, []) := by
  conv => lhs; unfold loopM
  rw [h] <;> rfl
theorem lv_opC {l : Nat} (h : l ≤ 2) : ixD (dt [124, 94, 38]) (.int (l : Nat)) = .ok (dt [opC l]) := by
  rw [ix_dt (by simp; omega) (by simp)]
  have : l = 0 ∨ l = 1 ∨ l = 2 := by omega
  rcases this with rfl | rfl | rfl <;> rfl
section
variable {cs : List Nat} (hc : ∀ c ∈ cs, c < 1000) (hl : cs.length ≤ 100000)
include hc hl
theorem loop_go {n l : Nat} {G G2 : List D → Y.R Hd} (hG : PartW cs n G) (l2 : l ≤ 2) : ∀ (k at_ : Nat) (t : Fm), at_ ≤ cs.length → (cs.drop at_).length < k → 5 * nb (cs.drop at_) + (4 - l) ≤ n →
    ∃ p, p ≤ cs.length ∧ cs.drop p = (loopM ((rdM n).1 (l + 1)) (opC l) k t (cs.drop at_)).2 ∧ ∃ N,
      match (loopM ((rdM n).1 (l + 1)) (opC l) k t (cs.drop at_)).1 with
      | some t' => ∃ ρ', whileN (cBl (cOp isNotD (cVar 3) (cC .non))) (C.b__law_part_3 G G2) [4] N [some (dt cs), some (.int (at_ : Nat)), some (.int (l : Nat)), some t.d, none] = .ok (.rt (.fr (.tup [t'.d, .int (p : Nat)])), ρ')
      | none => whileN (cBl (cOp isNotD (cVar 3) (cC .non))) (C.b__law_part_3 G G2) [4] N [some (dt cs), some (.int (at_ : Nat)), some (.int (l : Nat)), some t.d, none] = .ok (.nx, [some (dt cs), some (.int (p : Nat)), some (.int (l : Nat)), some .non, none])
  | 0, at_, t, ha, hk, hn => absurd hk (by omega)
  | k + 1, at_, t, ha, hk, hn => by
    have ln := len_dtQ (l := cs) (by omega)
    have nt := non_d (t := t)
    have tt : (cBl (cOp isNotD (cVar 3) (cC .non))) [some (dt cs), some (.int (at_ : Nat)), some (.int (l : Nat)), some t.d, none] = .ok (true, [some (dt cs), some (.int (at_ : Nat)), some (.int (l : Nat)), some t.d, none]) := by
      generalize dt cs = T at *
      generalize t.d = TD at *
      simp [nt]
    obtain ⟨q, h1, h2, h3, hs⟩ := skip_ok hc hl [some (.int (l : Nat)), some t.d, none] ha
    have hs : sWhile tSkip (C.b__law_part_2 G G2) [] [some (dt cs), some (.int (at_ : Nat)), some (.int (l : Nat)), some t.d, none] = .ok (.nx, [some (dt cs), some (.int (q : Nat)), some (.int (l : Nat)), some t.d, none]) := hs
    have hs := hs
    simp only [tSkip, s_spQ] at hs
    cases e : sk (cs.drop at_) with
    | nil =>
      rw [loop_nil e]
      rw [e] at h3
      have eq := drop_nil h2 h3
      refine ⟨q, h2, h3, 1, [some (dt cs), some (.int (q : Nat)), some (.int (l : Nat)), some t.d, none], wh_rt tt ?_⟩
      simp only [C.b__law_part_3, s_spQ]
      subst eq
      generalize C.b__law_part_2 G G2 = B2 at *
      generalize dt cs = T at *
      generalize t.d = TD at *
      generalize (cs.length : Int) = LN at *
      simp [hs, ln, -d_lenT]
    | cons d r' =>
      rw [loop_cons e]
      rw [e] at h3
      obtain ⟨hq, hd, hr⟩ := drop_cons h3
      have ix := ix_dt (l := cs) (k := q) hq (by omega)
      rw [hd] at ix
      have hdm : d < 1000 := by rw [← hd, getD_lt hq]; exact hc _ (List.getElem_mem hq)
      have ql : ¬ ((q : Int) = (cs.length : Int)) := by omega
      have lx := lv_opC l2
      have co : opC l < 1000 := by
        have := opC_ops (l := l)
        simp only [opsL, List.mem_cons, List.not_mem_nil, or_false] at this
        omega
      have ne := ne_dt (a := [d]) (b := [opC l]) (sg1 (by omega)) (sg1 (by omega))
      have ne : neD (dt [d]) (dt [opC l]) = .ok (.bl (!decide (d = opC l))) := by rw [ne]; simp
      by_cases c1 : d = opC l
      · rw [if_pos c1]
        rw [decide_eq_true c1] at ne
        have sf : cs.drop (q + 1) <:+ cs.drop at_ := by
          rw [hr]
          exact (List.suffix_cons d r').trans (by rw [← e]; exact sk_suf)
        have nbl := nb_suf sf
        have q1 : ((q : Int) + 1) = ((q + 1 : Nat) : Int) := by omega
        have l1 : ((l : Int) + 1) = ((l + 1 : Nat) : Int) := by omega
        have lenr : (cs.drop (q + 1)).length < k := by
          have h4 : (sk (cs.drop at_)).length ≤ (cs.drop at_).length := sk_suf.length_le
          rw [e, List.length_cons] at h4
          rw [hr]; omega
        obtain ⟨p, h, hp, hpd, hg, hh⟩ := hG (l + 1) (q + 1) (by omega) (by omega) (by unfold MP; omega)
        have sf2 := (rd_suf n).1 (l + 1) (cs.drop (q + 1))
        rw [hr] at hpd hh sf2
        cases eP : (rdM n).1 (l + 1) r' with
        | mk o r2 =>
          rw [eP] at hpd hh sf2
          have hpd : cs.drop p = r2 := hpd
          have sf2 : r2 <:+ r' := sf2
          cases o with
          | none =>
            have hh : h = .fr (.tup [.non, .int (p : Nat)]) ∨ h = .vl (.tup [.non, .int (p : Nat)]) := hh
            refine ⟨p, hp, hpd, 2, ?_⟩
            have b : C.b__law_part_3 G G2 [some (dt cs), some (.int (at_ : Nat)), some (.int (l : Nat)), some t.d, none] = .ok (.nx, [some (dt cs), some (.int (p : Nat)), some (.int (l : Nat)), some .non, some .non]) := by
              simp only [C.b__law_part_3, s_spQ, s_opsQ]
              generalize C.b__law_part_2 G G2 = B2 at *
              simp only [dt] at *
              generalize D.str (tx [32]) = S1 at *
              generalize D.str (tx [d]) = S2 at *
              generalize D.str (tx [opC l]) = S3 at *
              generalize D.str (tx [124, 94, 38]) = S4 at *
              generalize D.str (tx cs) = T at *
              generalize t.d = TD at *
              generalize ((q + 1 : Nat) : Int) = Q1 at *
              generalize ((l + 1 : Nat) : Int) = L1 at *
              generalize (cs.length : Int) = LN at *
              generalize (q : Int) = QQ at *
              generalize (l : Int) = LL at *
              rcases hh with rfl | rfl <;> simp [hs, ln, ql, ix, lx, ne, q1, l1, hg, Y.isNon, -d_lenT]
            rw [wh_step tt b]
            refine wh_stop ?_
            show (cBl (cOp isNotD (cVar 3) (cC .non))) [some (dt cs), some (.int (p : Nat)), some (.int (l : Nat)), some .non, none] = .ok (false, [some (dt cs), some (.int (p : Nat)), some (.int (l : Nat)), some .non, none])
            generalize dt cs = T at *
            simp [Y.isNon]
          | some m =>
            have hh : h = .fr (.tup [m.d, .int (p : Nat)]) ∨ h = .vl (.tup [m.d, .int (p : Nat)]) := hh
            have nm := non_d (t := m)
            have sf3 : cs.drop p <:+ cs.drop at_ := by rw [hpd]; exact sf2.trans (by rw [← hr]; exact sf)
            have nb3 := nb_suf sf3
            have ln3 : (cs.drop p).length < k := by
              have := sf2.length_le
              rw [hpd]
              rw [hr] at lenr
              omega
            obtain ⟨p2, hp2, hpd2, N, hN⟩ := loop_go (G2 := G2) hG l2 k p (.op (opC l) t m) hp ln3 (by omega)
            rw [hpd] at hpd2 hN
            refine ⟨p2, hp2, hpd2, N + 1, ?_⟩
            have b : C.b__law_part_3 G G2 [some (dt cs), some (.int (at_ : Nat)), some (.int (l : Nat)), some t.d, none] = .ok (.nx, [some (dt cs), some (.int (p : Nat)), some (.int (l : Nat)), some (.tup [dt [opC l], t.d, m.d]), some m.d]) := by
              clear hN
              simp only [C.b__law_part_3, s_spQ, s_opsQ]
              generalize C.b__law_part_2 G G2 = B2 at *
              simp only [dt] at *
              generalize D.str (tx [32]) = S1 at *
              generalize D.str (tx [d]) = S2 at *
              generalize D.str (tx [opC l]) = S3 at *
              generalize D.str (tx [124, 94, 38]) = S4 at *
              generalize D.str (tx cs) = T at *
              generalize t.d = TD at *
              generalize m.d = MD at *
              generalize ((q + 1 : Nat) : Int) = Q1 at *
              generalize ((l + 1 : Nat) : Int) = L1 at *
              generalize (cs.length : Int) = LN at *
              generalize (q : Int) = QQ at *
              generalize (l : Int) = LL at *
              rcases hh with rfl | rfl <;> simp [hs, ln, ql, ix, lx, ne, q1, l1, hg, nm, -d_lenT]
            have st : whileN (cBl (cOp isNotD (cVar 3) (cC .non))) (C.b__law_part_3 G G2) [4] (N + 1) [some (dt cs), some (.int (at_ : Nat)), some (.int (l : Nat)), some t.d, none] = whileN (cBl (cOp isNotD (cVar 3) (cC .non))) (C.b__law_part_3 G G2) [4] N [some (dt cs), some (.int (p : Nat)), some (.int (l : Nat)), some (Fm.op (opC l) t m).d, none] := wh_step tt b
            rw [st]
            exact hN
      · rw [if_neg c1]
        rw [decide_eq_false c1] at ne
        refine ⟨q, h2, h3, 1, [some (dt cs), some (.int (q : Nat)), some (.int (l : Nat)), some t.d, none], wh_rt tt ?_⟩
        simp only [C.b__law_part_3, s_spQ, s_opsQ]
        generalize C.b__law_part_2 G G2 = B2 at *
        simp only [dt] at *
        generalize D.str (tx [32]) = S1 at *
        generalize D.str (tx [d]) = S2 at *
        generalize D.str (tx [opC l]) = S3 at *
        generalize D.str (tx [124, 94, 38]) = S4 at *
        generalize D.str (tx cs) = T at *
        generalize t.d = TD at *
        generalize (cs.length : Int) = LN at *
        generalize (q : Int) = QQ at *
        generalize (l : Int) = LL at *
        simp [hs, ln, ql, ix, lx, ne, -d_lenT]
end
end H

set_option Elab.async false
set_option linter.all false
set_option maxRecDepth 100000
set_option maxHeartbeats 4000000
namespace H
open PySem PySem.Spec PyProof.Rows L2 Y
theorem slice_1Q {l : List Nat} {k : Nat} (h : l.length ≤ 16777216) : sliceD (dt l) (some (k : Int)) (some ((k + 1 : Nat) : Int)) = .ok (dt ((l.drop k).take 1)) := by
  have := slice_1 (l := l) (k := k) h
  rw [show ((k : Int) + 1) = ((k + 1 : Nat) : Int) by omega] at this
  exact this
section
variable {cs : List Nat} (hc : ∀ c ∈ cs, c < 1000) (hl : cs.length ≤ 100000)
include hc hl
theorem part_step {n : Nat} {G G2 : List D → Y.R Hd} (hG : PartW cs n G) (hG2 : FacW cs n G2) : PartW cs (n + 1) (fnP 3 5 (C.m__law_part G G2)) := fun l at_ l3 ha hn => by
  obtain ⟨q, h1, h2, h3, hs⟩ := skip_ok hc hl [some (.int (l : Nat)), none, none] ha
  have hs : sWhile tSkip (C.b__law_part_1 G G2) [] [some (dt cs), some (.int (at_ : Nat)), some (.int (l : Nat)), none, none] = .ok (.nx, [some (dt cs), some (.int (q : Nat)), some (.int (l : Nat)), none, none]) := hs
  simp only [tSkip, s_spQ] at hs
  have nq : nb (cs.drop q) = nb (cs.drop at_) := by rw [h3, nb_sk]
  by_cases c3 : l = 3
  · rw [c3] at hn
    have ci : (l : Int) = 3 := by omega
    obtain ⟨p, h, hp, hpd, hg, hh⟩ := hG2 q h2 (by unfold MP at hn; omega)
    have e : (rdM (n + 1)).1 l (cs.drop at_) = (rdM n).2 (cs.drop q) := by rw [h3, c3]; rfl
    rw [e]
    refine ⟨p, h, hp, hpd, ?_, hh⟩
    generalize oD ((rdM n).2 (cs.drop q)).1 = OD at *
    simp only [C.m__law_part, s_spQ]
    generalize C.b__law_part_1 G G2 = B1 at *
    generalize C.b__law_part_3 G G2 = B3 at *
    generalize dt cs = T at *
    generalize (l : Int) = LL at *
    subst ci
    rcases hh with rfl | rfl <;> simp [e_fnP, hs, hg]
  · have l2 : l ≤ 2 := by omega
    have c3' : ¬ (l : Int) = 3 := by omega
    have l1 : ((l : Int) + 1) = ((l + 1 : Nat) : Int) := by omega
    obtain ⟨p, h, hp, hpd, hg, hh⟩ := hG (l + 1) q (by omega) h2 (by unfold MP at hn ⊢; omega)
    rw [rdl l2, ← h3]
    unfold contM
    have sf := (rd_suf n).1 (l + 1) (cs.drop q)
    cases eP : (rdM n).1 (l + 1) (cs.drop q) with
    | mk o r2 =>
      rw [eP] at hpd hh sf
      have hpd : cs.drop p = r2 := hpd
      have sf : r2 <:+ cs.drop q := sf
      cases o with
      | none =>
        have hh : h = .fr (.tup [.non, .int (p : Nat)]) ∨ h = .vl (.tup [.non, .int (p : Nat)]) := hh
        refine ⟨p, _, hp, hpd, ?_, .inl rfl⟩
        have w : whileN (cBl (cOp isNotD (cVar 3) (cC .non))) (C.b__law_part_3 G G2) [4] 1 [some (dt cs), some (.int (p : Nat)), some (.int (l : Nat)), some .non, none] = .ok (.nx, [some (dt cs), some (.int (p : Nat)), some (.int (l : Nat)), some .non, none]) := by
          refine wh_stop ?_
          generalize dt cs = T at *
          simp [Y.isNon]
        have w := sWhile_is (by intro z; cases z) w
        simp only [C.m__law_part, s_spQ]
        generalize C.b__law_part_1 G G2 = B1 at *
        generalize C.b__law_part_3 G G2 = B3 at *
        generalize dt cs = T at *
        generalize ((l + 1 : Nat) : Int) = L1 at *
        rcases hh with rfl | rfl <;> simp [e_fnP, hs, c3', l1, hg, w, oD]
      | some t =>
        have hh : h = .fr (.tup [t.d, .int (p : Nat)]) ∨ h = .vl (.tup [t.d, .int (p : Nat)]) := hh
        have sf2 : cs.drop p <:+ cs.drop q := by rw [hpd]; exact sf
        have nbp := nb_suf sf2
        obtain ⟨p2, hp2, hpd2, N, hN⟩ := loop_go (G2 := G2) hc hl hG l2 ((cs.drop p).length + 1) p t hp (by omega) (by unfold MP at hn; omega)
        rw [hpd] at hpd2 hN
        show Reads cs (loopM ((rdM n).1 (l + 1)) (opC l) (r2.length + 1) t r2) _
        cases eL : loopM ((rdM n).1 (l + 1)) (opC l) (r2.length + 1) t r2 with
        | mk o2 r3 =>
          rw [eL] at hpd2 hN
          cases o2 with
          | none =>
            have w := sWhile_is (by intro z; cases z) (show whileN _ _ _ _ _ = _ from hN)
            refine ⟨p2, _, hp2, hpd2, ?_, .inl rfl⟩
            clear hN
            simp only [C.m__law_part, s_spQ]
            generalize C.b__law_part_1 G G2 = B1 at *
            generalize C.b__law_part_3 G G2 = B3 at *
            generalize dt cs = T at *
            generalize t.d = TD at *
            generalize ((l + 1 : Nat) : Int) = L1 at *
            rcases hh with rfl | rfl <;> simp [e_fnP, hs, c3', l1, hg, w, oD]
          | some t' =>
            obtain ⟨ρ', hN⟩ := hN
            have w := sWhile_is (by intro z; cases z) hN
            refine ⟨p2, _, hp2, hpd2, ?_, .inl rfl⟩
            clear hN
            simp only [C.m__law_part, s_spQ, oD]
            generalize C.b__law_part_1 G G2 = B1 at *
            generalize C.b__law_part_3 G G2 = B3 at *
            generalize dt cs = T at *
            generalize t.d = TD at *
            generalize t'.d = TD2 at *
            generalize ((l + 1 : Nat) : Int) = L1 at *
            rcases hh with rfl | rfl <;> simp [e_fnP, hs, c3', l1, hg, w]
theorem fac_step {n : Nat} {G : List D → Y.R Hd} (hG : PartW cs n G) : FacW cs (n + 1) (fnP 2 4 (C.m__law_factor G)) := fun at_ ha hn => by
  have sl := slice_1Q (l := cs) (k := at_) (by omega)
  have sl2 := slice_1Q (l := cs) (k := at_ + 1) (by omega)
  have i1 : ((at_ : Int) + 1) = ((at_ + 1 : Nat) : Int) := by omega
  have i2 : ((at_ : Int) + 2) = ((at_ + 1 + 1 : Nat) : Int) := by omega
  show Reads cs (facM (rdM n).1 (cs.drop at_)) _
  cases e : cs.drop at_ with
  | nil =>
    rw [e] at sl
    have sl : sliceD (dt cs) (some (at_ : Int)) (some ((at_ + 1 : Nat) : Int)) = .ok (dt []) := sl
    have q1 : eqD (dt []) (dt [115]) = .ok (.bl false) := by rw [eq_dt (fun x hx => by cases hx) (sg1 (by omega))]; simp
    have q2 : neD (dt []) (dt []) = .ok (.bl false) := by rw [ne_dt (fun x hx => by cases hx) (fun x hx => by cases hx)]; simp
    have q3 : eqD (dt []) (dt [33]) = .ok (.bl false) := by rw [eq_dt (fun x hx => by cases hx) (sg1 (by omega))]; simp
    have q4 : neD (dt []) (dt [40]) = .ok (.bl true) := by rw [ne_dt (fun x hx => by cases hx) (sg1 (by omega))]; simp
    refine ⟨at_, _, ha, e, ?_, .inl rfl⟩
    show _ = R.ok (Hd.fr (.tup [.non, .int (at_ : Nat)]))
    simp only [C.m__law_factor, s_spQ, s_s, s_none, s_figQ, s_bitQ, s_not, s_open, s_shut]
    generalize C.b__law_factor_1 G = B1 at *
    simp only [dt] at *
    generalize D.str (tx [48, 49, 50, 51, 52, 53, 54, 55]) = S8 at *
    generalize D.str (tx [48, 49]) = S7 at *
    generalize D.str (tx [115]) = S6 at *
    generalize D.str (tx []) = S5 at *
    generalize D.str (tx [33]) = S4 at *
    generalize D.str (tx [40]) = S3 at *
    generalize D.str (tx cs) = T at *
    generalize ((at_ + 1 : Nat) : Int) = A1 at *
    simp [e_fnP, i1, sl, q1, q2, q3, q4]
  | cons c r =>
    obtain ⟨hat, hcd, hr⟩ := drop_cons e
    have hc1 : c < 1000 := by rw [← hcd, getD_lt hat]; exact hc _ (List.getElem_mem hat)
    rw [e] at sl
    have sl : sliceD (dt cs) (some (at_ : Int)) (some ((at_ + 1 : Nat) : Int)) = .ok (dt [c]) := sl
    rw [fac_cons]
    have q1 := eq_c (a := c) (b := 115) hc1 (by omega)
    have q2 : neD (dt [c]) (dt []) = .ok (.bl true) := by rw [ne_dt (sg1 (by omega)) (fun x hx => by cases hx)]; simp
    have q3 := eq_c (a := c) (b := 33) hc1 (by omega)
    have q4 := ne_dt (a := [c]) (b := [40]) (sg1 (by omega)) (sg1 (by omega))
    have q4 : neD (dt [c]) (dt [40]) = .ok (.bl (!decide (c = 40))) := by rw [q4]; simp
    have q5 := in_text (c := c) (l := [48, 49])
    by_cases c1 : c = 115 ∧ headB r = true
    · rw [if_pos c1]
      obtain ⟨rfl, hb⟩ := c1
      cases r with
      | nil => cases hb
      | cons x r2 =>
        have hx : x ∈ figL := of_decide_eq_true hb
        obtain ⟨hat2, hcd2, hr2⟩ := drop_cons hr
        rw [hr] at sl2
        have sl2 : sliceD (dt cs) (some ((at_ + 1 : Nat) : Int)) (some ((at_ + 1 + 1 : Nat) : Int)) = .ok (dt [x]) := sl2
        have ix := ix_dt (l := cs) (k := at_ + 1) hat2 (by omega)
        rw [hcd2] at ix
        have x1 : x < 1000 := by simp only [figL, List.mem_cons, List.not_mem_nil, or_false] at hx; omega
        have q6 : neD (dt [x]) (dt []) = .ok (.bl true) := by rw [ne_dt (sg1 (by omega)) (fun x hx => by cases hx)]; simp
        have q7 := in_text (c := x) (l := [48, 49, 50, 51, 52, 53, 54, 55])
        rw [decide_eq_true (show x ∈ [48, 49, 50, 51, 52, 53, 54, 55] from hx)] at q7
        have io := int_fig hx
        rw [decide_eq_true rfl] at q1
        refine ⟨at_ + 1 + 1, _, by omega, hr2, ?_, .inl rfl⟩
        show _ = R.ok (Hd.fr (.tup [.tup [dt [115], .int ((x - 48 : Nat) : Int)], .int ((at_ + 1 + 1 : Nat) : Int)]))
        simp only [C.m__law_factor, s_spQ, s_s, s_none, s_figQ, s_bitQ, s_not, s_open, s_shut]
        generalize C.b__law_factor_1 G = B1 at *
        simp only [dt] at *
        generalize D.str (tx [48, 49, 50, 51, 52, 53, 54, 55]) = S8 at *
        generalize D.str (tx [48, 49]) = S7 at *
        generalize D.str (tx [115]) = S6 at *
        generalize D.str (tx []) = S5 at *
        generalize D.str (tx [33]) = S4 at *
        generalize D.str (tx [40]) = S3 at *
        generalize D.str (tx [x]) = SX at *
        generalize D.str (tx cs) = T at *
        generalize ((at_ + 1 + 1 : Nat) : Int) = A2 at *
        generalize ((at_ + 1 : Nat) : Int) = A1 at *
        generalize ((x - 48 : Nat) : Int) = XI at *
        simp [e_fnP, i1, i2, sl, q1, sl2, q6, ix, q7, io]
    rw [if_neg c1]
    -- the first test is false
    have first : ∀ (ρ : Y.Env), ρ[0]? = some (some (dt cs)) → ρ[1]? = some (some (.int (at_ : Nat))) → ρ[2]? = some (some (dt [c])) →
        cAndT (cBl (cOp eqD (cVar 2) (cC (dt [115])))) (cAndT (cBl (cOp neD (cSlice (cVar 0) (cPart (cOp addD (cVar 1) (cC (.int 1)))) (cPart (cOp addD (cVar 1) (cC (.int 2))))) (cC (dt [])))) (cBl (cOp inD (cIx (cVar 0) (cOp addD (cVar 1) (cC (.int 1)))) (cC (dt [48, 49, 50, 51, 52, 53, 54, 55]))))) ρ = .ok (false, ρ) := fun ρ r0 r1 r2 => by
      by_cases c2 : c = 115
      · rw [decide_eq_true c2] at q1
        have hb : headB r = false := by
          cases z : headB r with
          | false => rfl
          | true => exact absurd ⟨c2, z⟩ c1
        cases r with
        | nil =>
          rw [hr] at sl2
          have sl2 : sliceD (dt cs) (some ((at_ + 1 : Nat) : Int)) (some ((at_ + 1 + 1 : Nat) : Int)) = .ok (dt []) := sl2
          have q6 : neD (dt []) (dt []) = .ok (.bl false) := by rw [ne_dt (fun x hx => by cases hx) (fun x hx => by cases hx)]; simp
          clear sl
          simp only [dt] at *
          generalize D.str (tx [48, 49, 50, 51, 52, 53, 54, 55]) = S8 at *
          generalize D.str (tx [115]) = S6 at *
          generalize D.str (tx []) = S5 at *
          generalize D.str (tx [c]) = SC at *
          generalize D.str (tx cs) = T at *
          generalize ((at_ + 1 + 1 : Nat) : Int) = A2 at *
          generalize ((at_ + 1 : Nat) : Int) = A1 at *
          simp [r0, r1, r2, q1, i1, i2, sl2, q6]
        | cons x r2' =>
          have hx : x ∉ figL := fun z => by
            have : headB (x :: r2') = true := decide_eq_true z
            rw [this] at hb; cases hb
          obtain ⟨hat2, hcd2, hr2⟩ := drop_cons hr
          rw [hr] at sl2
          have sl2 : sliceD (dt cs) (some ((at_ + 1 : Nat) : Int)) (some ((at_ + 1 + 1 : Nat) : Int)) = .ok (dt [x]) := sl2
          have ix := ix_dt (l := cs) (k := at_ + 1) hat2 (by omega)
          have x1 : x < 1000 := by rw [← hcd2, getD_lt hat2]; exact hc _ (List.getElem_mem hat2)
          rw [hcd2] at ix
          have q6 : neD (dt [x]) (dt []) = .ok (.bl true) := by rw [ne_dt (sg1 (by omega)) (fun x hx => by cases hx)]; simp
          have q7 := in_text (c := x) (l := [48, 49, 50, 51, 52, 53, 54, 55])
          rw [decide_eq_false (show ¬ x ∈ [48, 49, 50, 51, 52, 53, 54, 55] from hx)] at q7
          clear sl
          simp only [dt] at *
          generalize D.str (tx [48, 49, 50, 51, 52, 53, 54, 55]) = S8 at *
          generalize D.str (tx [115]) = S6 at *
          generalize D.str (tx []) = S5 at *
          generalize D.str (tx [c]) = SC at *
          generalize D.str (tx [x]) = SX at *
          generalize D.str (tx cs) = T at *
          generalize ((at_ + 1 + 1 : Nat) : Int) = A2 at *
          generalize ((at_ + 1 : Nat) : Int) = A1 at *
          simp [r0, r1, r2, q1, i1, i2, sl2, q6, ix, q7]
      · rw [decide_eq_false c2] at q1
        clear sl
        simp only [dt] at *
        generalize D.str (tx [115]) = S6 at *
        generalize D.str (tx [c]) = SC at *
        simp [r2, q1]
    have first := first [some (dt cs), some (.int (at_ : Nat)), some (dt [c]), none] rfl rfl rfl
    by_cases c2 : c = 48 ∨ c = 49
    · rw [if_pos c2]
      have q5' : decide (c ∈ [48, 49]) = true := decide_eq_true (by simp only [List.mem_cons, List.not_mem_nil, or_false]; exact c2)
      rw [q5'] at q5
      have ec : 48 + (c - 48) = c := by omega
      refine ⟨at_ + 1, _, by omega, hr, ?_, .inl rfl⟩
      show _ = R.ok (Hd.fr (.tup [.tup [dt [48 + (c - 48)]], .int ((at_ + 1 : Nat) : Int)]))
      rw [ec]
      simp only [C.m__law_factor, s_spQ, s_s, s_none, s_figQ, s_bitQ, s_not, s_open, s_shut]
      generalize C.b__law_factor_1 G = B1 at *
      simp only [dt] at *
      generalize cAndT (cBl (cOp eqD (cVar 2) (cC (D.str (tx [115]))))) (cAndT (cBl (cOp neD (cSlice (cVar 0) (cPart (cOp addD (cVar 1) (cC (.int 1)))) (cPart (cOp addD (cVar 1) (cC (.int 2))))) (cC (D.str (tx []))))) (cBl (cOp inD (cIx (cVar 0) (cOp addD (cVar 1) (cC (.int 1)))) (cC (D.str (tx [48, 49, 50, 51, 52, 53, 54, 55])))))) = FT at *
      generalize D.str (tx [48, 49]) = S7 at *
      generalize D.str (tx []) = S5 at *
      generalize D.str (tx [c]) = SC at *
      generalize D.str (tx cs) = T at *
      generalize ((at_ + 1 : Nat) : Int) = A1 at *
      simp [e_fnP, i1, sl, first, q2, q5]
    rw [if_neg c2]
    have q5' : decide (c ∈ [48, 49]) = false := decide_eq_false (by simp only [List.mem_cons, List.not_mem_nil, or_false]; exact c2)
    rw [q5'] at q5
    by_cases c3 : c = 33
    · rw [if_pos c3]
      rw [decide_eq_true c3] at q3
      have nbr : nb (cs.drop at_) = nb r + 1 := by rw [e, nb_cons (.inr c3)]
      obtain ⟨p, h, hp, hpd, hg, hh⟩ := hG 3 (at_ + 1) (by omega) (by omega) (by rw [hr]; unfold MP; omega)
      rw [hr] at hpd hh
      have hg : G [dt cs, .int ((at_ + 1 : Nat) : Int), .int 3] = .ok h := hg
      cases eP : (rdM n).1 3 r with
      | mk o r2 =>
        rw [eP] at hpd hh
        cases o with
        | none =>
          have hh : h = .fr (.tup [.non, .int (p : Nat)]) ∨ h = .vl (.tup [.non, .int (p : Nat)]) := hh
          refine ⟨p, _, hp, hpd, ?_, .inl rfl⟩
          show _ = R.ok (Hd.fr (.tup [.non, .int (p : Nat)]))
          simp only [C.m__law_factor, s_spQ, s_s, s_none, s_figQ, s_bitQ, s_not, s_open, s_shut]
          generalize C.b__law_factor_1 G = B1 at *
          simp only [dt] at *
          generalize cAndT (cBl (cOp eqD (cVar 2) (cC (D.str (tx [115]))))) (cAndT (cBl (cOp neD (cSlice (cVar 0) (cPart (cOp addD (cVar 1) (cC (.int 1)))) (cPart (cOp addD (cVar 1) (cC (.int 2))))) (cC (D.str (tx []))))) (cBl (cOp inD (cIx (cVar 0) (cOp addD (cVar 1) (cC (.int 1)))) (cC (D.str (tx [48, 49, 50, 51, 52, 53, 54, 55])))))) = FT at *
          generalize D.str (tx [48, 49]) = S7 at *
          generalize D.str (tx []) = S5 at *
          generalize D.str (tx [33]) = S4 at *
          generalize D.str (tx [c]) = SC at *
          generalize D.str (tx cs) = T at *
          generalize ((at_ + 1 : Nat) : Int) = A1 at *
          rcases hh with rfl | rfl <;> simp [e_fnP, i1, sl, first, q2, q5, q3, hg, Y.isNon]
        | some t =>
          have hh : h = .fr (.tup [t.d, .int (p : Nat)]) ∨ h = .vl (.tup [t.d, .int (p : Nat)]) := hh
          have nt := non_d (t := t)
          refine ⟨p, _, hp, hpd, ?_, .inl rfl⟩
          show _ = R.ok (Hd.fr (.tup [.tup [dt [33], t.d], .int (p : Nat)]))
          simp only [C.m__law_factor, s_spQ, s_s, s_none, s_figQ, s_bitQ, s_not, s_open, s_shut]
          generalize C.b__law_factor_1 G = B1 at *
          simp only [dt] at *
          generalize cAndT (cBl (cOp eqD (cVar 2) (cC (D.str (tx [115]))))) (cAndT (cBl (cOp neD (cSlice (cVar 0) (cPart (cOp addD (cVar 1) (cC (.int 1)))) (cPart (cOp addD (cVar 1) (cC (.int 2))))) (cC (D.str (tx []))))) (cBl (cOp inD (cIx (cVar 0) (cOp addD (cVar 1) (cC (.int 1)))) (cC (D.str (tx [48, 49, 50, 51, 52, 53, 54, 55])))))) = FT at *
          generalize D.str (tx [48, 49]) = S7 at *
          generalize D.str (tx []) = S5 at *
          generalize D.str (tx [33]) = S4 at *
          generalize D.str (tx [c]) = SC at *
          generalize D.str (tx cs) = T at *
          generalize t.d = TD at *
          generalize ((at_ + 1 : Nat) : Int) = A1 at *
          rcases hh with rfl | rfl <;> simp [e_fnP, i1, sl, first, q2, q5, q3, hg, nt]
    rw [if_neg c3]
    rw [decide_eq_false c3] at q3
    by_cases c4 : c = 40
    · rw [if_pos c4]
      rw [decide_eq_true c4] at q4
      have q4 : neD (dt [c]) (dt [40]) = .ok (.bl false) := q4
      have nbr : nb (cs.drop at_) = nb r + 1 := by rw [e, nb_cons (.inl c4)]
      obtain ⟨p, h, hp, hpd, hg, hh⟩ := hG 0 (at_ + 1) (by omega) (by omega) (by rw [hr]; unfold MP; omega)
      rw [hr] at hpd hh
      have hg : G [dt cs, .int ((at_ + 1 : Nat) : Int), .int 0] = .ok h := hg
      cases eP : (rdM n).1 0 r with
      | mk o r2 =>
        rw [eP] at hpd hh
        have hpd : cs.drop p = r2 := hpd
        have hh : h = .fr (.tup [oD o, .int (p : Nat)]) ∨ h = .vl (.tup [oD o, .int (p : Nat)]) := hh
        obtain ⟨q, g1, g2, g3, hs⟩ := skip_ok hc hl [some (dt [c]), some (oD o)] hp
        have hs : sWhile tSkip (C.b__law_factor_1 G) [] [some (dt cs), some (.int (p : Nat)), some (dt [c]), some (oD o)] = .ok (.nx, [some (dt cs), some (.int (q : Nat)), some (dt [c]), some (oD o)]) := hs
        simp only [tSkip, s_spQ] at hs
        rw [hpd] at g3
        show Reads cs (closeM o (sk r2)) _
        have sl3 := slice_1Q (l := cs) (k := q) (by omega)
        have j1 : ((q : Int) + 1) = ((q + 1 : Nat) : Int) := by omega
        rw [g3] at sl3
        cases o with
        | none =>
          refine ⟨q, _, g2, g3, ?_, .inl rfl⟩
          show _ = R.ok (Hd.fr (.tup [.non, .int (q : Nat)]))
          simp only [C.m__law_factor, s_spQ, s_s, s_none, s_figQ, s_bitQ, s_not, s_open, s_shut]
          simp only [oD] at *
          generalize C.b__law_factor_1 G = B1 at *
          simp only [dt] at *
          generalize cAndT (cBl (cOp eqD (cVar 2) (cC (D.str (tx [115]))))) (cAndT (cBl (cOp neD (cSlice (cVar 0) (cPart (cOp addD (cVar 1) (cC (.int 1)))) (cPart (cOp addD (cVar 1) (cC (.int 2))))) (cC (D.str (tx []))))) (cBl (cOp inD (cIx (cVar 0) (cOp addD (cVar 1) (cC (.int 1)))) (cC (D.str (tx [48, 49, 50, 51, 52, 53, 54, 55])))))) = FT at *
          generalize D.str (tx [48, 49]) = S7 at *
          generalize D.str (tx []) = S5 at *
          generalize D.str (tx [33]) = S4 at *
          generalize D.str (tx [40]) = S3 at *
          generalize D.str (tx [c]) = SC at *
          generalize D.str (tx cs) = T at *
          generalize ((at_ + 1 : Nat) : Int) = A1 at *
          rcases hh with rfl | rfl <;> simp [e_fnP, i1, sl, first, q2, q5, q3, q4, hg, hs, Y.isNon]
        | some t =>
          have nt := non_d (t := t)
          cases es : sk r2 with
          | nil =>
            rw [es] at g3 sl3
            have sl3 : sliceD (dt cs) (some (q : Int)) (some ((q + 1 : Nat) : Int)) = .ok (dt []) := sl3
            have q8 : neD (dt []) (dt [41]) = .ok (.bl true) := by rw [ne_dt (fun x hx => by cases hx) (sg1 (by omega))]; simp
            refine ⟨q, _, g2, g3, ?_, .inl rfl⟩
            show _ = R.ok (Hd.fr (.tup [.non, .int (q : Nat)]))
            simp only [C.m__law_factor, s_spQ, s_s, s_none, s_figQ, s_bitQ, s_not, s_open, s_shut]
            simp only [oD] at *
            generalize C.b__law_factor_1 G = B1 at *
            simp only [dt] at *
            generalize cAndT (cBl (cOp eqD (cVar 2) (cC (D.str (tx [115]))))) (cAndT (cBl (cOp neD (cSlice (cVar 0) (cPart (cOp addD (cVar 1) (cC (.int 1)))) (cPart (cOp addD (cVar 1) (cC (.int 2))))) (cC (D.str (tx []))))) (cBl (cOp inD (cIx (cVar 0) (cOp addD (cVar 1) (cC (.int 1)))) (cC (D.str (tx [48, 49, 50, 51, 52, 53, 54, 55])))))) = FT at *
            generalize D.str (tx [48, 49]) = S7 at *
            generalize D.str (tx []) = S5 at *
            generalize D.str (tx [33]) = S4 at *
            generalize D.str (tx [40]) = S3 at *
            generalize D.str (tx [41]) = S9 at *
            generalize D.str (tx [c]) = SC at *
            generalize D.str (tx cs) = T at *
            generalize t.d = TD at *
            generalize ((at_ + 1 : Nat) : Int) = A1 at *
            generalize ((q + 1 : Nat) : Int) = Q1 at *
            rcases hh with rfl | rfl <;> simp [e_fnP, i1, sl, first, q2, q5, q3, q4, hg, hs, nt, j1, sl3, q8]
          | cons d r3 =>
            rw [es] at g3 sl3
            have sl3 : sliceD (dt cs) (some (q : Int)) (some ((q + 1 : Nat) : Int)) = .ok (dt [d]) := sl3
            obtain ⟨hq, hqd, hqr⟩ := drop_cons g3
            have hd1 : d < 1000 := by rw [← hqd, getD_lt hq]; exact hc _ (List.getElem_mem hq)
            have q8 := ne_dt (a := [d]) (b := [41]) (sg1 (by omega)) (sg1 (by omega))
            have q8 : neD (dt [d]) (dt [41]) = .ok (.bl (!decide (d = 41))) := by rw [q8]; simp
            show Reads cs (if d = 41 then (some t, r3) else (none, d :: r3)) _
            by_cases c5 : d = 41
            · rw [if_pos c5]
              rw [decide_eq_true c5] at q8
              refine ⟨q + 1, _, by omega, hqr, ?_, .inl rfl⟩
              show _ = R.ok (Hd.fr (.tup [t.d, .int ((q + 1 : Nat) : Int)]))
              simp only [C.m__law_factor, s_spQ, s_s, s_none, s_figQ, s_bitQ, s_not, s_open, s_shut]
              simp only [oD] at *
              generalize C.b__law_factor_1 G = B1 at *
              simp only [dt] at *
              generalize cAndT (cBl (cOp eqD (cVar 2) (cC (D.str (tx [115]))))) (cAndT (cBl (cOp neD (cSlice (cVar 0) (cPart (cOp addD (cVar 1) (cC (.int 1)))) (cPart (cOp addD (cVar 1) (cC (.int 2))))) (cC (D.str (tx []))))) (cBl (cOp inD (cIx (cVar 0) (cOp addD (cVar 1) (cC (.int 1)))) (cC (D.str (tx [48, 49, 50, 51, 52, 53, 54, 55])))))) = FT at *
              generalize D.str (tx [48, 49]) = S7 at *
              generalize D.str (tx []) = S5 at *
              generalize D.str (tx [33]) = S4 at *
              generalize D.str (tx [40]) = S3 at *
              generalize D.str (tx [41]) = S9 at *
              generalize D.str (tx [c]) = SC at *
              generalize D.str (tx [d]) = SD at *
              generalize D.str (tx cs) = T at *
              generalize t.d = TD at *
              generalize ((at_ + 1 : Nat) : Int) = A1 at *
              generalize ((q + 1 : Nat) : Int) = Q1 at *
              rcases hh with rfl | rfl <;> simp [e_fnP, i1, sl, first, q2, q5, q3, q4, hg, hs, nt, j1, sl3, q8]
            · rw [if_neg c5]
              rw [decide_eq_false c5] at q8
              refine ⟨q, _, by omega, g3, ?_, .inl rfl⟩
              show _ = R.ok (Hd.fr (.tup [.non, .int (q : Nat)]))
              simp only [C.m__law_factor, s_spQ, s_s, s_none, s_figQ, s_bitQ, s_not, s_open, s_shut]
              simp only [oD] at *
              generalize C.b__law_factor_1 G = B1 at *
              simp only [dt] at *
              generalize cAndT (cBl (cOp eqD (cVar 2) (cC (D.str (tx [115]))))) (cAndT (cBl (cOp neD (cSlice (cVar 0) (cPart (cOp addD (cVar 1) (cC (.int 1)))) (cPart (cOp addD (cVar 1) (cC (.int 2))))) (cC (D.str (tx []))))) (cBl (cOp inD (cIx (cVar 0) (cOp addD (cVar 1) (cC (.int 1)))) (cC (D.str (tx [48, 49, 50, 51, 52, 53, 54, 55])))))) = FT at *
              generalize D.str (tx [48, 49]) = S7 at *
              generalize D.str (tx []) = S5 at *
              generalize D.str (tx [33]) = S4 at *
              generalize D.str (tx [40]) = S3 at *
              generalize D.str (tx [41]) = S9 at *
              generalize D.str (tx [c]) = SC at *
              generalize D.str (tx [d]) = SD at *
              generalize D.str (tx cs) = T at *
              generalize t.d = TD at *
              generalize ((at_ + 1 : Nat) : Int) = A1 at *
              generalize ((q + 1 : Nat) : Int) = Q1 at *
              rcases hh with rfl | rfl <;> simp [e_fnP, i1, sl, first, q2, q5, q3, q4, hg, hs, nt, j1, sl3, q8]
    · rw [if_neg c4]
      rw [decide_eq_false c4] at q4
      have q4 : neD (dt [c]) (dt [40]) = .ok (.bl true) := q4
      refine ⟨at_, _, ha, e, ?_, .inl rfl⟩
      show _ = R.ok (Hd.fr (.tup [.non, .int (at_ : Nat)]))
      simp only [C.m__law_factor, s_spQ, s_s, s_none, s_figQ, s_bitQ, s_not, s_open, s_shut]
      generalize C.b__law_factor_1 G = B1 at *
      simp only [dt] at *
      generalize cAndT (cBl (cOp eqD (cVar 2) (cC (D.str (tx [115]))))) (cAndT (cBl (cOp neD (cSlice (cVar 0) (cPart (cOp addD (cVar 1) (cC (.int 1)))) (cPart (cOp addD (cVar 1) (cC (.int 2))))) (cC (D.str (tx []))))) (cBl (cOp inD (cIx (cVar 0) (cOp addD (cVar 1) (cC (.int 1)))) (cC (D.str (tx [48, 49, 50, 51, 52, 53, 54, 55])))))) = FT at *
      generalize D.str (tx [48, 49]) = S7 at *
      generalize D.str (tx []) = S5 at *
      generalize D.str (tx [33]) = S4 at *
      generalize D.str (tx [40]) = S3 at *
      generalize D.str (tx [c]) = SC at *
      generalize D.str (tx cs) = T at *
      generalize ((at_ + 1 : Nat) : Int) = A1 at *
      simp [e_fnP, i1, sl, first, q2, q5, q3, q4]
theorem rd_walk : ∀ n, PartW cs n (C.r__law_part n).1 ∧ FacW cs n (C.r__law_part n).2
  | 0 => ⟨fun l at_ l3 ha hn => absurd hn (by unfold MP; omega), fun at_ ha hn => absurd hn (by omega)⟩
  | n + 1 => ⟨part_step hc hl (rd_walk n).1 (rd_walk n).2, fac_step hc hl (rd_walk n).1⟩
end
end H

set_option Elab.async false
set_option linter.all false
set_option maxRecDepth 100000
set_option maxHeartbeats 4000000
namespace H
open PySem PySem.Spec PyProof.Rows L2 Y
theorem setI_eqQ {xs ys : List Int} (h : ∀ k, k ∈ xs ↔ k ∈ ys) : setI xs = setI ys := setI_of setI_lt fun k => by rw [setI_mem, h]
theorem nums_okE {E : List Nat} : ∀ {t : Fm}, t.okE E → ∀ k ∈ numsT t.rpn, ∃ e ∈ E, k = ((e : Nat) : Int)
  | .bit b, _, k, hk => by cases hk
  | .var e, h, k, hk => by
    have : k = (e : Int) := by simpa [Fm.rpn, numsT] using hk
    exact ⟨e, h, this⟩
  | .neg a, h, k, hk => by
    have hk : k ∈ numsT (a.rpn ++ [Tk.sg 33]) := hk
    rw [numsT_app, List.mem_append] at hk
    rcases hk with hk | hk
    · exact nums_okE (t := a) h k hk
    · cases hk
  | .op c a b, h, k, hk => by
    obtain ⟨_, h1, h2⟩ := h
    have hk : k ∈ numsT (a.rpn ++ b.rpn ++ [Tk.sg c]) := hk
    rw [numsT_app, numsT_app, List.mem_append, List.mem_append] at hk
    rcases hk with (hk | hk) | hk
    · exact nums_okE h1 k hk
    · exact nums_okE h2 k hk
    · cases hk
theorem ears_le {E : List Nat} {t : Fm} (h : t.okE E) : (earsR t).length ≤ E.length := by
  have : earsR t ⊆ E.map fun j : Nat => (j : Int) := fun k hk => by
    obtain ⟨e, he, q⟩ := nums_okE h k (setI_mem.mp hk)
    exact List.mem_map.mpr ⟨e, he, q.symm⟩
  have := List.Nodup.length_le_of_subset setI_nodup this
  rw [List.length_map] at this
  exact this
theorem named_turn {G : List D → Y.R Hd} {d T : D} {xs ys : List Int} (h : G [d] = .ok (.fr (li xs))) (hl : ys.length + xs.length ≤ 100) :
    turnF (tmName 2) (C.b__law_named_1 G) [2] d [some T, some (li ys), none] = .ok (.nx, [some T, some (li (ys ++ xs)), none]) := by
  have z : szOk (ys.length + xs.length) = true := szOk_of (by omega)
  have ad : addD (li ys) (li xs) = .ok (li (ys ++ xs)) := by
    show addD (.lst _) (.lst _) = _
    rw [d_addL, if_pos (by rw [List.length_map, List.length_map]; exact z), ← List.map_append]
  simp only [turnF, C.b__law_named_1]
  generalize li (ys ++ xs) = A at *
  generalize li ys = B at *
  generalize li xs = C2 at *
  simp [h, ad]
theorem law_named_ok {E : List Nat} (h8 : E.length ≤ 8) : ∀ (n : Nat) (t : Fm), t.dep < n → t.okE E → C.r__law_named n [t.d] = .ok (.fr (li (earsR t)))
  | 0, t, h, _ => absurd h (by omega)
  | n + 1, .bit b, h, ok => by
    have hb : b < 2 := ok
    have e1 := eq_c (a := 48 + b) (b := 115) (by omega) (by omega)
    rw [decide_eq_false (by omega)] at e1
    show fnP 1 3 (C.m__law_named (C.r__law_named n)) [.tup [dt [48 + b]]] = _
    have x0 : ∀ x : D, ixD (.tup [x]) (.int 0) = .ok x := fun _ => rfl
    have sl : ∀ x : D, sliceD (.tup [x]) (some 1) none = .ok (.tup []) := fun _ => rfl
    have e : earsR (.bit b) = [] := List.length_eq_zero_iff.mp (by show (setI []).length = 0; rw [setI_len]; rfl)
    have sq : seqI (.lst []) = some [] := rfl
    have se : setI [] = [] := e
    rw [e]
    simp only [C.m__law_named, s_s]
    generalize C.b__law_named_1 (C.r__law_named n) = B1 at *
    simp only [dt] at *
    generalize D.str (tx [48 + b]) = S1 at *
    generalize D.str (tx [115]) = S2 at *
    simp [e_fnP, x0, e1, sl, sq, se, szOk_of, dedupI, shAt, forL]
  | n + 1, .var k, h, ok => by
    have e1 := eq_c (a := 115) (b := 115) (by omega) (by omega)
    rw [decide_eq_true rfl] at e1
    show fnP 1 3 (C.m__law_named (C.r__law_named n)) [.tup [dt [115], .int (k : Nat)]] = _
    have x0 : ∀ x y : D, ixD (.tup [x, y]) (.int 0) = .ok x := fun _ _ => rfl
    have x1 : ∀ x y : D, ixD (.tup [x, y]) (.int 1) = .ok y := fun _ _ => rfl
    have e : earsR (.var k) = [(k : Int)] := (setI_of (by simp) fun j => by simp [Fm.rpn, numsT]).symm
    rw [e]
    simp only [C.m__law_named, s_s]
    generalize C.b__law_named_1 (C.r__law_named n) = B1 at *
    simp only [dt] at *
    generalize D.str (tx [115]) = S2 at *
    simp [e_fnP, x0, x1, e1, szOk_of]
  | n + 1, .neg a, h, ok => by
    have h : a.dep + 1 < n + 1 := h
    have e1 := eq_c (a := 33) (b := 115) (by omega) (by omega)
    rw [decide_eq_false (by omega)] at e1
    have ih := law_named_ok (E := E) h8 n a (by omega) ok
    have hl := ears_le (t := a) ok
    show fnP 1 3 (C.m__law_named (C.r__law_named n)) [.tup [dt [33], a.d]] = _
    have x0 : ∀ x y : D, ixD (.tup [x, y]) (.int 0) = .ok x := fun _ _ => rfl
    have sl : ∀ x y : D, sliceD (.tup [x, y]) (some 1) none = .ok (.tup [y]) := fun _ _ => rfl
    have tn := named_turn (T := .tup [dt [33], a.d]) (ys := []) ih (by simp; omega)
    rw [List.nil_append] at tn
    have lp : forL (tmName 2) (C.b__law_named_1 (C.r__law_named n)) [2] [] [a.d] [some (.tup [dt [33], a.d]), some (li []), none] = .ok (.nx, [some (.tup [dt [33], a.d]), some (li (earsR a)), none]) :=
      for_cons tn (fun _ z => by cases z) rfl
    have lp : forL (tmName 2) (C.b__law_named_1 (C.r__law_named n)) [2] [] [a.d] [some (.tup [dt [33], a.d]), some (.lst []), none] = _ := lp
    have e : earsR (.neg a) = setI (earsR a) := setI_eqQ fun k => by
      show k ∈ numsT (a.rpn ++ [Tk.sg 33]) ↔ k ∈ setI (numsT a.rpn)
      rw [numsT_app, List.mem_append, setI_mem]
      exact ⟨fun q => q.elim id (fun z => by cases z), .inl⟩
    have sq : seqI (li (earsR a)) = some (earsR a) := seqI_l
    have z4 : (earsR a).length ≤ 4000 := by omega
    have d64 : (dedupI (earsR a)).length < 64 := by
      have := dedupI_le (xs := earsR a)
      omega
    rw [e]
    simp only [C.m__law_named, s_s]
    generalize C.b__law_named_1 (C.r__law_named n) = B1 at *
    generalize a.d = AD at *
    generalize earsR a = EA at *
    simp only [dt] at *
    generalize D.str (tx [33]) = S1 at *
    generalize D.str (tx [115]) = S2 at *
    simp [e_fnP, x0, e1, sl, szOk_of, lp, sq, d64, z4, shAt]
  | n + 1, .op c a b, h, ok => by
    have h : max a.dep b.dep + 1 < n + 1 := h
    obtain ⟨hc, ok1, ok2⟩ := ok
    have c1 : c < 1000 := by simp only [List.mem_cons, List.not_mem_nil, or_false] at hc; omega
    have n1 : c ≠ 115 := by simp only [List.mem_cons, List.not_mem_nil, or_false] at hc; omega
    have e1 := eq_c (a := c) (b := 115) c1 (by omega)
    rw [decide_eq_false n1] at e1
    have ih := law_named_ok (E := E) h8 n a (by omega) ok1
    have ih2 := law_named_ok (E := E) h8 n b (by omega) ok2
    have hl := ears_le (t := a) ok1
    have hl2 := ears_le (t := b) ok2
    show fnP 1 3 (C.m__law_named (C.r__law_named n)) [.tup [dt [c], a.d, b.d]] = _
    have x0 : ∀ x y z : D, ixD (.tup [x, y, z]) (.int 0) = .ok x := fun _ _ _ => rfl
    have sl : ∀ x y z : D, sliceD (.tup [x, y, z]) (some 1) none = .ok (.tup [y, z]) := fun _ _ _ => rfl
    have tn := named_turn (T := .tup [dt [c], a.d, b.d]) (ys := []) ih (by simp; omega)
    rw [List.nil_append] at tn
    have tn2 := named_turn (T := .tup [dt [c], a.d, b.d]) (ys := earsR a) ih2 (by omega)
    have lp : forL (tmName 2) (C.b__law_named_1 (C.r__law_named n)) [2] [] [a.d, b.d] [some (.tup [dt [c], a.d, b.d]), some (li []), none] = .ok (.nx, [some (.tup [dt [c], a.d, b.d]), some (li (earsR a ++ earsR b)), none]) :=
      for_cons tn (fun _ z => by cases z) (for_cons tn2 (fun _ z => by cases z) rfl)
    have lp : forL (tmName 2) (C.b__law_named_1 (C.r__law_named n)) [2] [] [a.d, b.d] [some (.tup [dt [c], a.d, b.d]), some (.lst []), none] = _ := lp
    have e : earsR (.op c a b) = setI (earsR a ++ earsR b) := setI_eqQ fun k => by
      show k ∈ numsT (a.rpn ++ b.rpn ++ [Tk.sg c]) ↔ k ∈ setI (numsT a.rpn) ++ setI (numsT b.rpn)
      rw [numsT_app, numsT_app, List.mem_append, List.mem_append, List.mem_append, setI_mem, setI_mem]
      exact ⟨fun q => q.elim id (fun z => by cases z), .inl⟩
    have sq : seqI (li (earsR a ++ earsR b)) = some (earsR a ++ earsR b) := seqI_l
    have z4 : (earsR a ++ earsR b).length ≤ 4000 := by rw [List.length_append]; omega
    have d64 : (dedupI (earsR a ++ earsR b)).length < 64 := by
      have := dedupI_le (xs := earsR a ++ earsR b)
      rw [List.length_append] at this
      omega
    rw [e]
    simp only [C.m__law_named, s_s]
    generalize C.b__law_named_1 (C.r__law_named n) = B1 at *
    generalize a.d = AD at *
    generalize b.d = BD at *
    generalize earsR a ++ earsR b = EA at *
    simp only [dt] at *
    generalize D.str (tx [c]) = S1 at *
    generalize D.str (tx [115]) = S2 at *
    simp [e_fnP, x0, e1, sl, szOk_of, lp, sq, d64, z4, shAt]
theorem prs_zip : ∀ {ps : List (Int × Int)}, prsD (ps.map fun p => D.tup [.int p.1, .int p.2]) = some (ps.map fun p => (D.int p.1, D.int p.2))
  | [] => rfl
  | p :: ps => by
    show (prsD (ps.map fun p => D.tup [.int p.1, .int p.2])).map _ = _
    rw [prs_zip]; rfl
theorem dict_zipQ {E V : List Int} (hl : E.length = V.length) (nd : E.Nodup) : dictPD [.lst ((E.zip V).map fun p => D.tup [.int p.1, .int p.2])] = .ok (dkI E V) := by
  have ktn : (kt E).Nodup := List.Pairwise.map (R := (· ≠ ·)) _ (fun a b h z => h (Sum.inl.inj z)) nd
  have m1 : ((E.zip V).map fun p => (D.int p.1, D.int p.2)).map (·.1) = E.map D.int := by
    rw [List.map_map]
    show (E.zip V).map (fun p => D.int p.1) = _
    have : (E.zip V).map (fun p => D.int p.1) = ((E.zip V).map Prod.fst).map D.int := by rw [List.map_map]; rfl
    rw [this, List.map_fst_zip (by omega)]
  have m2 : ((E.zip V).map fun p => (D.int p.1, D.int p.2)).map (·.2) = V.map D.int := by
    rw [List.map_map]
    show (E.zip V).map (fun p => D.int p.2) = _
    have : (E.zip V).map (fun p => D.int p.2) = ((E.zip V).map Prod.snd).map D.int := by rw [List.map_map]; rfl
    rw [this, List.map_snd_zip (by omega)]
  rw [d_dictP, prs_zip]
  dsimp only
  rw [m1, m2, keys_ti]
  dsimp only
  rw [if_pos ktn]
theorem len_liQ {st : List Int} : lenD [li st] = .ok (.int (st.length : Nat)) := by
  rw [d_lenL, List.length_map]
theorem ix_liQ {st : List Int} {j : Nat} (h : j < st.length) : ixD (li st) (.int (j : Nat)) = .ok (.int (st.getD j 0)) := by
  show (match atI (st.map D.int) (j : Int) with | some d => R.ok d | none => .stk) = _
  have : atI (st.map D.int) (j : Int) = some (.int (st.getD j 0)) := by
    rw [atI_nat' (by rw [List.length_map]; exact h), List.getElem_map, getD_lt h]
  rw [this]
theorem zip_rangeQ {E V : List Int} (hl : E.length = V.length) : (List.range E.length).map (fun j => D.tup [.int (E.getD j 0), .int (V.getD j 0)]) = (E.zip V).map fun p => D.tup [.int p.1, .int p.2] := by
  refine List.ext_getElem (by rw [List.length_map, List.length_map, List.length_range, List.length_zip]; omega) fun i h1 h2 => ?_
  rw [List.length_map, List.length_range] at h1
  rw [List.getElem_map, List.getElem_map, List.getElem_range, List.getElem_zip, getD_lt h1, getD_lt (by omega)]
theorem law_dueE_ok {E : List Nat} {t : Fm} (ok : t.okE E) (e4 : (earsR t).length ≤ 4) (hd : t.dep < 40) : C.g__law_due_13 [t.d, li (earsR t)] = .ok (.fr (dRule (rdR t))) := by
  have rd := readings_ok (m := (earsR t).length) (by omega)
  have ln := len_liQ (st := earsR t)
  have s16 : (stands (earsR t).length).length ≤ 16 := by
    rw [stands_len]
    have : 2 ^ (earsR t).length ≤ 2 ^ 4 := Nat.pow_le_pow_right (by omega) (by omega)
    omega
  have zs : szOk ((stands (earsR t).length).map ti).length = true := szOk_of (by rw [List.length_map]; omega)
  have rg := rng1_Q (n := (earsR t).length) (by omega)
  have zr : szOk ((List.range (earsR t).length).map fun j : Nat => D.int (j : Nat)).length = true := szOk_of (by rw [List.length_map, List.length_range]; omega)
  have lp := for_growQ (tm := tmName 3) (body := C.b__law_due_13_1) (vs := [3]) (N := 16) ti (fun st => D.int (t.val fun k => lkI (earsR t) st k))
    (fun T => [some t.d, some (li (earsR t)), some (.lst T), none, none]) (stands (earsR t).length) [] (fun T row hrow hT => by
      have hs := mem_stands.mp hrow
      have hl := hs.len
      have c := comp_map (tm := tmName 4) (t := cYes) (e := C.e__law_due_13_1) (vs := [4]) (ws := []) (ρ := [some t.d, some (li (earsR t)), some (.lst T), some (ti row), none]) (fun j : Nat => D.int (j : Nat)) (fun j => D.tup [.int ((earsR t).getD j 0), .int (row.getD j 0)]) (List.range (earsR t).length) fun j hj => by
        have hj := List.mem_range.mp hj
        have x1 := ix_liQ (st := earsR t) hj
        have x2 := ix_tiQ (st := row) (j := j) (by omega)
        simp only [turnC, C.e__law_due_13_1]
        generalize (earsR t).getD j 0 = v at *
        generalize row.getD j 0 = w at *
        generalize li (earsR t) = A at *
        generalize ti row = B at *
        generalize t.d = TD at *
        simp [x1, x2]
      rw [zip_rangeQ hl.symm] at c
      have zz : szOk ((((earsR t).zip row).map fun p => D.tup [.int p.1, .int p.2])).length = true := szOk_of (by rw [List.length_map, List.length_zip]; omega)
      have dz := dict_zipQ (E := earsR t) (V := row) hl.symm setI_nodup
      obtain ⟨h, w, q⟩ := law_worth_ok (E := E) (K := earsR t) (V := row) hl.symm hs.bit 40 t hd ok fun k hk => setI_mem.mpr hk
      have w : C.g__law_worth [t.d, dkI (earsR t) row] = .ok h := w
      have zt : szOk (T.length + 1) = true := szOk_of (by omega)
      simp only [turnF, C.b__law_due_13_1]
      generalize (t.val fun k => lkI (earsR t) row k) = v at *
      generalize ((earsR t).zip row).map (fun p => D.tup [.int p.1, .int p.2]) = ZL at *
      generalize dkI (earsR t) row = DK at *
      generalize C.e__law_due_13_1 = EE at *
      generalize ((List.range (earsR t).length).map fun j : Nat => D.int (j : Nat)) = RL at *
      generalize (earsR t).length = m at *
      generalize li (earsR t) = A at *
      generalize ti row = B at *
      generalize t.d = TD at *
      rcases q with rfl | rfl <;> simp [ln, rg, zr, c, zz, dz, w, zt, -d_lenL, -d_rng1, -d_dictP]) (by simpa using s16)
  have tb : (stands (earsR t).length).map (fun st => D.int (t.val fun k => lkI (earsR t) st k)) = (rdR t).2.map D.int := by
    show _ = (List.map _ _).map D.int
    rw [List.map_map]; rfl
  rw [tb, List.nil_append] at lp
  have tu1 : tupleD [li (earsR t)] = .ok (ti (earsR t)) := rfl
  have tu2 : tupleD [.lst ((rdR t).2.map D.int)] = .ok (ti (rdR t).2) := rfl
  have rd : C.g__law_readings [.int (earsR t).length] = .ok (.fr (.lst ((stands (earsR t).length).map ti))) := rd
  show _ = R.ok (Hd.fr (.tup [ti (earsR t), ti (rdR t).2]))
  simp only [C.g__law_due_13, C.m__law_due_13]
  generalize C.b__law_due_13_1 = B1 at *
  generalize (rdR t).2.map D.int = TB at *
  generalize ti (rdR t).2 = TB2 at *
  generalize ((stands (earsR t).length).map ti) = SL at *
  generalize ti (earsR t) = TE at *
  generalize (earsR t).length = m at *
  generalize li (earsR t) = A at *
  generalize t.d = TD at *
  simp [e_fnP, ln, rd, zs, lp, tu1, tu2, shAt, chkO_ws, -d_lenL]
end H

set_option Elab.async false
set_option linter.all false
set_option maxRecDepth 100000
set_option maxHeartbeats 4000000
namespace H
open PySem PySem.Spec PyProof.Rows L2 Y
theorem stands_val {E : List Nat} {t : Fm} (ok : t.okE E) : ∀ x ∈ (rdR t).2, 0 ≤ x ∧ x < 2 := fun x hx => by
  obtain ⟨st, hs, rfl⟩ := List.mem_map.mp hx
  have := val_bit (env := fun k => lkI (earsR t) st k) (fun k => lkI_bit (mem_stands.mp hs).bit) ok
  omega
theorem rd_ruleOkE {E : List Nat} {t : Fm} (ok : t.okE E) (h8 : ∀ e ∈ E, e < 8) (e4 : (earsR t).length ≤ 4) : RuleOk 8 (rdR t) := by
  have nn : ∀ k ∈ earsR t, 0 ≤ k ∧ k < 8 := fun k hk => by
    obtain ⟨e, he, rfl⟩ := nums_okE ok k (setI_mem.mp hk)
    have := h8 e he
    omega
  refine ⟨e4, ⟨(earsR t).map Int.toNat, ?_, sub_range ?_ ?_⟩, ?_, stands_val ok⟩
  · show earsR t = _
    rw [List.map_map]
    conv => lhs; rw [← List.map_id (earsR t)]
    refine List.map_congr_left fun k hk => ?_
    have := nn k hk
    show k = ((k.toNat : Nat) : Int)
    omega
  · refine List.pairwise_map.mpr ?_
    have : (earsR t).Pairwise (· < ·) := setI_lt
    exact this.imp_of_mem fun {a b} ha hb h => by
      have := nn a ha
      have := nn b hb
      omega
  · intro x hx
    obtain ⟨k, hk, rfl⟩ := List.mem_map.mp hx
    have := nn k hk
    omega
  · show (List.map _ _).length = _
    rw [List.length_map, stands_len]
    rfl
end H

set_option Elab.async false
set_option linter.all false
set_option maxRecDepth 100000
set_option maxHeartbeats 2000000
namespace H
open PySem PySem.Spec PyProof.Rows L2 Y
theorem sk_all : ∀ {r : List Nat}, sk r = [] ↔ ∀ c ∈ r, c = 32
  | [] => ⟨fun _ c h => (nomatch h), fun _ => rfl⟩
  | c :: r => by
    unfold sk
    by_cases q : c = 32
    · rw [if_pos q, sk_all]
      exact ⟨fun h d hd => (List.mem_cons.mp hd).elim (fun z => z.trans q) (h d), fun h d hd => h d (by simp [hd])⟩
    · rw [if_neg q]
      exact ⟨fun h => (nomatch h), fun h => absurd (h c (by simp)) q⟩
theorem strip_ok {r : List Nat} (hl : r.length ≤ 1000000) : ∃ u : List Nat, stripD (dt r) (dt [32]) = .ok (dt u) ∧ (∀ c ∈ u, c ∈ r) ∧ (u = [] ↔ sk r = []) := by
  generalize hg : (tx [32]).cps.contains = goes
  have gI : ∀ c, goes c = true ↔ c = 32 := fun c => by
    rw [← hg]
    simp
  obtain ⟨a1, a2, a3⟩ := lo_facts goes (tx r)
  obtain ⟨b1, b2, b3, b4⟩ := hi_facts goes (tx r) (stripLo goes true (tx r)) a1
  have es : Txt.stripChars (tx r) (tx [32]) = Builtin.Str.strSub (tx r) (stripLo goes true (tx r)) (stripHi goes true (tx r) (stripLo goes true (tx r))) := by
    unfold Txt.stripChars
    rw [hg]
    exact PyProof.Rows.stripBy_eq goes true true (tx r)
  generalize stripHi goes true (tx r) (stripLo goes true (tx r)) = hi at *
  generalize stripLo goes true (tx r) = lo at *
  rw [tx_len] at a1 a3 b2 b3
  have gd : ∀ k, (tx r).cps.getD k 0 = r.getD k 0 := fun k => by simp [Array.getD, List.getD]; by_cases h : k < r.length <;> simp [h]
  have sub : Builtin.Str.strSub (tx r) lo hi = tx ((r.drop lo).take (hi - lo)) := by
    show (⟨r.toArray.extract lo hi⟩ : Str) = ⟨((r.drop lo).take (hi - lo)).toArray⟩
    rw [List.extract_toArray]
  refine ⟨(r.drop lo).take (hi - lo), ?_, fun c hc => List.mem_of_mem_drop (List.mem_of_mem_take hc), ?_⟩
  · show (if (tx r).length ≤ 1000000 then Y.R.ok (D.str (Txt.stripChars (tx r) (tx [32]))) else .stk) = _
    rw [tx_len, if_pos hl, es, sub]
  · constructor
    · intro h
      have hlen := congrArg List.length h
      rw [List.length_take, List.length_drop, List.length_nil] at hlen
      refine sk_all.mpr fun c hc => ?_
      obtain ⟨k, hk, rfl⟩ := List.mem_iff_getElem.mp hc
      have e : (tx r).cps.getD k 0 = r[k] := by rw [gd, getD_lt hk]
      rw [← e]
      by_cases q : k < lo
      · exact (gI _).mp (a2 k q)
      · exact (gI _).mp (b3 k (by omega) hk)
    · intro h
      have h := sk_all.mp h
      have lr : lo = r.length := by
        rcases a3 with z | z
        · exact z
        · by_cases q : lo < r.length
          · have : goes ((tx r).cps.getD lo 0) = true := by
              rw [gd, getD_lt q]
              exact (gI _).mpr (h _ (List.getElem_mem q))
            rw [this] at z; cases z
          · omega
      rw [List.drop_of_length_le (by omega), List.take_nil]
theorem law_read_ok {cs : List Nat} (hc : ∀ c ∈ cs, c < 1000) (hl : cs.length ≤ 100000) (hn : MP 0 cs ≤ 165) : ∃ h, C.g__law_read [dt cs] = .ok h ∧ (h = .fr (oD (readM 165 cs)) ∨ h = .vl (oD (readM 165 cs))) := by
  obtain ⟨p, h, hp, hpd, hg, hh⟩ := (rd_walk hc hl 165).1 0 0 (by omega) (by omega) (by rw [List.drop_zero]; exact hn)
  rw [List.drop_zero] at hpd hh
  have hg : C.g__law_part [dt cs, .int 0, .int 0] = .ok h := hg
  unfold readM
  cases e : (rdM 165).1 0 cs with
  | mk o r2 =>
    rw [e] at hpd hh
    have hpd : cs.drop p = r2 := hpd
    have hh : h = .fr (.tup [oD o, .int (p : Nat)]) ∨ h = .vl (.tup [oD o, .int (p : Nat)]) := hh
    cases o with
    | none =>
      refine ⟨.fr .non, ?_, .inl rfl⟩
      simp only [C.g__law_read, C.m__law_read, s_spQ, s_none]
      simp only [oD] at *
      generalize dt cs = T at *
      generalize tx [32] = S at *
      generalize tx [] = S2 at *
      rcases hh with rfl | rfl <;> simp [e_fnP, hg, Y.isNon]
    | some t =>
      have nt := non_d (t := t)
      have hpd : cs.drop p = r2 := hpd
      have sl := slice_up (l := cs) (k := p) (by omega)
      rw [hpd] at sl
      have l2 : r2.length ≤ 100000 := by rw [← hpd, List.length_drop]; omega
      obtain ⟨u, su, um, ue⟩ := strip_ok (r := r2) (by omega)
      have sg : SgOk u := fun c hc' => by
        have h1 := um c hc'
        rw [← hpd] at h1
        have := hc c (List.mem_of_mem_drop h1)
        omega
      have ne := ne_dt sg (b := []) (fun x hx => by cases hx)
      show ∃ h : Hd, _ ∧ (h = Hd.fr (oD (if sk r2 = [] then some t else none)) ∨ h = Hd.vl (oD (if sk r2 = [] then some t else none)))
      by_cases q : sk r2 = []
      · rw [if_pos q]
        rw [decide_eq_true (ue.mpr q)] at ne
        refine ⟨.vl t.d, ?_, .inr rfl⟩
        simp only [C.g__law_read, C.m__law_read, s_spQ, s_none]
        simp only [oD] at *
        generalize t.d = TD at *
        generalize dt cs = T at *
        simp only [dt] at *
        generalize tx [32] = S at *
        generalize tx [] = S2 at *
        generalize tx u = S3 at *
        generalize tx r2 = S4 at *
        rcases hh with rfl | rfl <;> simp [e_fnP, hg, nt, sl, su, ne]
      · rw [if_neg q]
        rw [decide_eq_false (fun z => q (ue.mp z))] at ne
        refine ⟨.fr .non, ?_, .inl rfl⟩
        simp only [C.g__law_read, C.m__law_read, s_spQ, s_none]
        simp only [oD] at *
        generalize t.d = TD at *
        generalize dt cs = T at *
        simp only [dt] at *
        generalize tx [32] = S at *
        generalize tx [] = S2 at *
        generalize tx u = S3 at *
        generalize tx r2 = S4 at *
        rcases hh with rfl | rfl <;> simp [e_fnP, hg, nt, sl, su, ne]
theorem lex_tok : ∀ {n : Nat} {cs : List Nat} {ts : List Tk}, lexF n cs = some ts → ∀ t ∈ ts, TOk t
  | 0, cs, ts, h => by
    have : some [] = some ts := h
    cases this; intro t z; cases z
  | n + 1, [], ts, h => by
    have : some [] = some ts := h
    cases this; intro t z; cases z
  | n + 1, c :: r, ts, h => by
    unfold lexF at h
    by_cases c1 : c = 115
    · rw [if_pos c1] at h
      cases r with
      | nil => cases h
      | cons e r2 =>
        have h : (if e ∈ figL then (lexF n r2).map (Tk.num (e - 48) :: ·) else none) = some ts := h
        by_cases c2 : e ∈ figL
        · rw [if_pos c2] at h
          obtain ⟨us, hu, rfl⟩ := Option.map_eq_some_iff.mp h
          intro t ht
          rcases List.mem_cons.mp ht with rfl | ht
          · show e - 48 < 8
            simp only [figL, List.mem_cons, List.not_mem_nil, or_false] at c2; omega
          · exact lex_tok hu t ht
        · rw [if_neg c2] at h; cases h
    · rw [if_neg c1] at h
      by_cases c2 : c ∈ opsL
      · rw [if_pos c2] at h
        obtain ⟨us, hu, rfl⟩ := Option.map_eq_some_iff.mp h
        intro t ht
        rcases List.mem_cons.mp ht with rfl | ht
        · exact c2
        · exact lex_tok hu t ht
      · rw [if_neg c2] at h
        by_cases c3 : c = 32
        · rw [if_pos c3] at h
          exact lex_tok h
        · rw [if_neg c3] at h; cases h
theorem ears8 {t : Fm} {ts : List Tk} (h : Wr 0 ts t) : t.okE (List.range 8) := by
  have : ∀ {l : Nat} {ts : List Tk} {t : Fm}, Wr l ts t → t.okE (List.range 8) := by
    intro l ts t h
    induction h with
    | bit h => exact h
    | var h => exact List.mem_range.mpr h
    | neg h ih => exact ih
    | par h ih => exact ih
    | op hl h h2 ih ih2 => exact ⟨opC_mem, ih, ih2⟩
    | up hl h ih => exact ih
  exact this h
theorem read_rule_many {cs : List Nat} {ts : List Tk} {t : Fm} (hc : ∀ c ∈ cs, c < 1000) (hl : cs.length ≤ 3000) (hx : lexN cs = some ts) (hw : Wr 0 ts t) (h4 : 4 < (earsR t).length) :
    C.g_read_rule [dt cs] = .er "TooMany" [] := by
  have tl : ts.length ≤ cs.length := lex_len hx
  have rl := wr_len hw
  have p1 := parts_ok hc (by omega)
  rw [hx] at p1
  have p1 : C.g_parts_in [dt cs] = .ok (.fr (.lst (ts.map dTk))) := p1
  have p2 := in_turn_ok (wr_ok hw) (by omega)
  rw [turn_wr hw] at p2
  have p2 : C.g_in_turn [.lst (ts.map dTk)] = .ok (.fr (.lst (t.rpn.map dTk))) := p2
  have nc := nums_comp (A := some (dt cs)) (B := some (.lst (t.rpn.map dTk))) (C2 := none) (D2 := none) (E2 := none) (ts := t.rpn)
  have nl := numsT_len (ts := t.rpn)
  have sq : seqI (.lst ((numsT t.rpn).map D.int)) = some (numsT t.rpn) := seqI_l
  have e8 := ears_le (ears8 hw)
  rw [List.length_range] at e8
  have d64 : (dedupI (numsT t.rpn)).length < 64 := by
    have := setI_len (xs := numsT t.rpn)
    have h4 : (setI (numsT t.rpn)).length ≤ 8 := e8
    omega
  have isS : Y.isStr (dt cs) = true := rfl
  have nd : noDit (dt cs) = true := rfl
  have g4 : (4 : Int) < ((earsR t).length : Nat) := by omega
  have zr : szOk (t.rpn.map dTk).length = true := szOk_of (by rw [List.length_map]; omega)
  have zn : (numsT t.rpn).length ≤ 4000 := by omega
  have es : setI (numsT t.rpn) = earsR t := rfl
  simp only [C.g_read_rule, C.m_read_rule]
  generalize C.b_read_rule_1 = B1 at *
  generalize t.rpn.map dTk = RP at *
  generalize earsR t = E at *
  generalize ts.map dTk = TS at *
  generalize dt cs = CS at *
  simp [e_fnP, isS, nd, p1, p2, nc, zr, sq, d64, zn, es, g4, shAt, chkO_ws]
theorem read_rule_none {cs : List Nat} (hc : ∀ c ∈ cs, c < 1000) (hl : cs.length ≤ 3000) (hx : ¬ ∃ ts t, lexN cs = some ts ∧ Wr 0 ts t) : C.g_read_rule [dt cs] = .er "NoRule" [] := by
  have p1 := parts_ok hc (by omega)
  have isS : Y.isStr (dt cs) = true := rfl
  have nd : noDit (dt cs) = true := rfl
  cases e : lexN cs with
  | none =>
    rw [e] at p1
    have p1 : C.g_parts_in [dt cs] = .er "NoRule" [] := p1
    simp only [C.g_read_rule, C.m_read_rule]
    generalize C.b_read_rule_1 = B1 at *
    generalize dt cs = CS at *
    simp [e_fnP, isS, nd, p1]
  | some ts =>
    rw [e] at p1
    have p1 : C.g_parts_in [dt cs] = .ok (.fr (.lst (ts.map dTk))) := p1
    have tl : ts.length ≤ cs.length := lex_len e
    have tok := lex_tok (show lexF cs.length cs = some ts from e)
    have p2 := in_turn_ok tok (by omega)
    cases e2 : turnP ts with
    | some r =>
      obtain ⟨t, hw, _⟩ := turn_sound tok e2
      exact absurd ⟨ts, t, e, hw⟩ hx
    | none =>
      rw [e2] at p2
      have p2 : C.g_in_turn [.lst (ts.map dTk)] = .er "NoRule" [] := p2
      simp only [C.g_read_rule, C.m_read_rule]
      generalize C.b_read_rule_1 = B1 at *
      generalize ts.map dTk = TS at *
      generalize dt cs = CS at *
      simp [e_fnP, isS, nd, p1, p2]
theorem read_rule_odd {d : D} (hs : Y.isStr d = false) (nd : noDit d = true) : C.g_read_rule [d] = .er "NoRule" [] := by
  simp only [C.g_read_rule, C.m_read_rule]
  generalize C.b_read_rule_1 = B1 at *
  simp [e_fnP, hs, nd]
end H

set_option Elab.async false
set_option linter.all false
set_option maxRecDepth 100000
set_option maxHeartbeats 2000000
namespace H
open PySem PySem.Spec PyProof.Rows L2 Y
def isOpT : Tk → Bool
  | .num _ => false
  | .sg c => cqB c
theorem cqB_op {l : Nat} : cqB (opC l) = true := by
  unfold opC cqB
  split
  · decide
  · split <;> decide
theorem dep_le {l : Nat} {ts : List Tk} {t : Fm} (h : Wr l ts t) : t.dep ≤ ts.countP isOpT := by
  induction h with
  | bit h => exact Nat.zero_le _
  | var h => exact Nat.zero_le _
  | neg h ih =>
    rw [List.countP_cons_of_pos (by decide)]
    exact Nat.add_le_add_right ih 1
  | par h ih =>
    rw [List.countP_cons_of_pos (by decide), List.countP_append]
    omega
  | @op l ts us a b hl h h2 ih ih2 =>
    rw [List.countP_append, List.countP_cons_of_pos (show isOpT (.sg (opC l)) = true from cqB_op)]
    show max a.dep b.dep + 1 ≤ _
    omega
  | up hl h ih => exact ih
theorem cq_cons {c : Nat} {r : List Nat} : cq r ≤ cq (c :: r) := by
  have := cq_app (a := [c]) (b := r)
  rw [List.singleton_append] at this
  omega
theorem lex_cnt : ∀ {n : Nat} {cs : List Nat} {ts : List Tk}, lexF n cs = some ts → ts.countP isOpT ≤ cq cs
  | 0, cs, ts, h => by
    have : some [] = some ts := h
    cases this; exact Nat.zero_le _
  | n + 1, [], ts, h => by
    have : some [] = some ts := h
    cases this; exact Nat.zero_le _
  | n + 1, c :: r, ts, h => by
    unfold lexF at h
    by_cases c1 : c = 115
    · rw [if_pos c1] at h
      cases r with
      | nil => cases h
      | cons e r2 =>
        have h : (if e ∈ figL then (lexF n r2).map (Tk.num (e - 48) :: ·) else none) = some ts := h
        by_cases c2 : e ∈ figL
        · rw [if_pos c2] at h
          obtain ⟨us, hu, rfl⟩ := Option.map_eq_some_iff.mp h
          rw [List.countP_cons_of_neg (show ¬ isOpT (.num (e - 48)) = true from Bool.false_ne_true)]
          exact Nat.le_trans (lex_cnt hu) (Nat.le_trans cq_cons cq_cons)
        · rw [if_neg c2] at h; cases h
    · rw [if_neg c1] at h
      by_cases c2 : c ∈ opsL
      · rw [if_pos c2] at h
        obtain ⟨us, hu, rfl⟩ := Option.map_eq_some_iff.mp h
        have ih := lex_cnt hu
        by_cases q : cqB c = true
        · rw [List.countP_cons_of_pos (show isOpT (.sg c) = true from q)]
          unfold cq at *
          rw [List.countP_cons_of_pos q]
          omega
        · rw [List.countP_cons_of_neg (show ¬ isOpT (.sg c) = true from q)]
          exact Nat.le_trans ih cq_cons
      · rw [if_neg c2] at h
        by_cases c3 : c = 32
        · rw [if_pos c3] at h
          exact Nat.le_trans (lex_cnt h) cq_cons
        · rw [if_neg c3] at h; cases h
theorem nb_cq {cs : List Nat} : nb cs ≤ cq cs := by
  unfold nb cq
  refine List.countP_mono_left fun x _ h => ?_
  have h := of_decide_eq_true h
  unfold cqB
  refine decide_eq_true ?_
  simp only [List.mem_cons, List.not_mem_nil, or_false]
  omega
theorem kw_ruleQ : kindW "NoRule" = "rule" := by decide +kernel
theorem kw_manyQ : kindW "TooMany" = "many" := by decide +kernel
theorem s_ruleQ : Str.ofString "rule" = tx [114, 117, 108, 101] := by decide +kernel
theorem s_manyQ : Str.ofString "many" = tx [109, 97, 110, 121] := by decide +kernel
theorem eq_rule : eqD (.str (Str.ofString "rule")) (.str (Str.ofString "rule")) = .ok (.bl true) := by
  rw [s_ruleQ]
  have := eq_dt (a := [114, 117, 108, 101]) (b := [114, 117, 108, 101]) (fun x hx => by simp at hx; omega) (fun x hx => by simp at hx; omega)
  rw [decide_eq_true rfl] at this
  exact this
theorem eq_many : eqD (.str (Str.ofString "many")) (.str (Str.ofString "many")) = .ok (.bl true) := by
  rw [s_manyQ]
  have := eq_dt (a := [109, 97, 110, 121]) (b := [109, 97, 110, 121]) (fun x hx => by simp at hx; omega) (fun x hx => by simp at hx; omega)
  rw [decide_eq_true rfl] at this
  exact this
theorem asked_none {d : D} (h : C.g_read_rule [d] = .er "NoRule" []) : C.g__law_asked_11 [d] = .ok (.fr (.str (Str.ofString "rule"))) := by
  simp only [C.g__law_asked_11, C.m__law_asked_11, C.w__law_asked_11_1]
  simp [C.h__law_asked_11_1, e_fnP, h, kw_ruleQ]
theorem asked_many {d : D} (h : C.g_read_rule [d] = .er "TooMany" []) : C.g__law_asked_11 [d] = .ok (.fr (.str (Str.ofString "many"))) := by
  simp only [C.g__law_asked_11, C.m__law_asked_11, C.w__law_asked_11_1]
  simp [C.h__law_asked_11_1, e_fnP, h, kw_manyQ]
theorem asked_rule {d : D} {r : D} (h : C.g_read_rule [d] = .ok (.fr r)) : C.g__law_asked_11 [d] = .ok (.fr r) := by
  simp only [C.g__law_asked_11, C.m__law_asked_11, C.w__law_asked_11_1]
  simp [C.h__law_asked_11_1, e_fnP, h]
theorem law_right12_ok {cs : List Nat} (hc : ∀ c ∈ cs, c < 1000) (hl : cs.length ≤ 3000) (hq : cq cs ≤ 32) : ∃ h, C.g__law_right_10 [dt cs] = .ok h ∧ (h = .fr (.bl true) ∨ h = .vl (.bl true)) := by
  have hn : MP 0 cs ≤ 165 := by
    have := nb_cq (cs := cs)
    unfold MP; omega
  obtain ⟨h, rd, hh⟩ := law_read_ok hc (by omega) hn
  cases e : readM 165 cs with
  | none =>
    have no : ¬ ∃ ts t, lexN cs = some ts ∧ Wr 0 ts t := fun ⟨ts, t, lx, wr⟩ => by
      rw [read_cmp hn lx wr] at e; cases e
    have as := asked_none (read_rule_none hc hl no)
    have er := eq_rule
    rw [e] at hh
    have hh : h = .fr .non ∨ h = .vl .non := hh
    refine ⟨.fr (.bl true), ?_, .inl rfl⟩
    simp only [C.g__law_right_10, C.m__law_right_10]
    generalize dt cs = T at *
    rcases hh with rfl | rfl <;> simp [e_fnP, rd, as, er, Y.isNon]
  | some t =>
    obtain ⟨ts, lx, wr⟩ := read_snd e
    rw [e] at hh
    have hh : h = .fr t.d ∨ h = .vl t.d := hh
    have nt := non_d (t := t)
    have ok := ears8 wr
    have dp : t.dep < 40 := by
      have h1 := dep_le wr
      have h2 := lex_cnt (show lexF cs.length cs = some ts from lx)
      omega
    have nm := law_named_ok (E := List.range 8) (by simp) 40 t dp ok
    have nm : C.g__law_named [t.d] = _ := nm
    have ln := len_liQ (st := earsR t)
    by_cases c : 4 < (earsR t).length
    · have as := asked_many (read_rule_many hc hl lx wr c)
      have em := eq_many
      have ci : (4 : Int) < ((earsR t).length : Nat) := by omega
      refine ⟨.fr (.bl true), ?_, .inl rfl⟩
      simp only [C.g__law_right_10, C.m__law_right_10]
      generalize dt cs = T at *
      generalize t.d = TD at *
      generalize li (earsR t) = LE at *
      generalize ((earsR t).length : Int) = LN at *
      rcases hh with rfl | rfl <;> simp [e_fnP, rd, as, nt, nm, ln, ci, em, -d_lenL]
    · have as := asked_rule (read_rule_ok hc hl lx wr (by omega))
      have du := law_dueE_ok ok (by omega) dp
      have lr := law_is_rule_ok (rd_ruleOkE ok (fun e he => List.mem_range.mp he) (by omega))
      have ci : ¬ (4 : Int) < ((earsR t).length : Nat) := by omega
      refine ⟨.fr (.bl true), ?_, .inl rfl⟩
      simp only [C.g__law_right_10, C.m__law_right_10]
      generalize dRule (rdR t) = DR at *
      generalize dt cs = T at *
      generalize t.d = TD at *
      generalize li (earsR t) = LE at *
      generalize ((earsR t).length : Int) = LN at *
      rcases hh with rfl | rfl <;> simp [e_fnP, rd, as, nt, nm, ln, ci, du, lr, -d_lenL]
end H

set_option Elab.async false
set_option linter.all false
set_option maxRecDepth 100000
set_option maxHeartbeats 4000000
namespace H
open PySem PySem.Spec PyProof.Rows L2 Y
structure NiceT (m q : Nat) (cs : List Nat) : Prop where
  ch : ∀ c ∈ cs, c < 1000
  len : cs.length ≤ m
  cnt : cq cs ≤ q
theorem cq_suf {a b : List Nat} (h : a <:+ b) : cq a ≤ cq b := h.sublist.countP_le
theorem cq_split {l : List Nat} {k : Nat} : cq (l.take k) + cq (l.drop k) = cq l := by
  rw [← cq_app, List.take_append_drop]
theorem cq_rev {l : List Nat} : cq l.reverse = cq l := List.countP_reverse
def spl20 : List Nat := [115, 48, 49, 50, 51, 52, 53, 54, 55, 56, 57, 33, 38, 124, 94, 40, 41, 32, 120, 83]
theorem s_spl : Str.ofString "s0123456789!&|^() xS" = tx spl20 := by decide +kernel
theorem rev_dt {l : List Nat} (h : l.length ≤ 1000000) : revSD (dt l) = .ok (dt l.reverse) := by
  show (if (tx l).length ≤ 1000000 then Y.R.ok (D.str (revS (tx l))) else .stk) = _
  rw [tx_len, if_pos h]
  rfl
theorem slice_2Q {l : List Nat} {k : Nat} (h : l.length ≤ 16777216) : sliceD (dt l) (some (k : Int)) (some ((k + 2 : Nat) : Int)) = .ok (dt ((l.drop k).take 2)) := by
  show (if szOk (tx l).length = true then Y.R.ok (D.str (cutS (tx l) (some (k : Int)) (some ((k + 2 : Nat) : Int)))) else .stk) = _
  rw [tx_len, if_pos (szOk_of h)]
  have : cutS (tx l) (some (k : Int)) (some ((k + 2 : Nat) : Int)) = tx ((l.drop k).take 2) := by
    unfold cutS
    rw [HT.sIx_nat, HT.sIx_nat, tx_len]
    show tx ((l.drop (min k l.length)).take (min (k + 2) l.length - min k l.length)) = _
    rw [tx_inj]
    by_cases c : k + 2 ≤ l.length
    · rw [Nat.min_eq_left (by omega), Nat.min_eq_left (by omega)]
      rw [show k + 2 - k = 2 by omega]
    · by_cases d : k ≤ l.length
      · rw [Nat.min_eq_right (by omega), Nat.min_eq_left (by omega), List.take_of_length_le (by rw [List.length_drop]; omega), List.take_of_length_le (by rw [List.length_drop]; omega)]
      · rw [Nat.min_eq_right (by omega), Nat.min_eq_right (by omega), List.drop_of_length_le (by simp), List.drop_of_length_le (by omega)]
        simp
  rw [this]
theorem spoilt12_ok {m q : Nat} {cs : List Nat} {b : Int} (h : NiceT m q cs) (hm : m ≤ 2000) : ∃ (cs' : List Nat) (b' : Int) (hd : Hd), C.g__law_spoilt_4 [.lst [.int b], dt cs] = .ok (hd, [some (.lst [.int b']), none]) ∧ (hd = .fr (dt cs') ∨ hd = .vl (dt cs')) ∧ NiceT (m + 1) (q + 1) cs' := by
  obtain ⟨hc, hl, hq⟩ := h
  obtain ⟨at_, ha, ha2⟩ := dig_nat (b := b) (m := cs.length + 1) (by omega)
  have tl := take2_ok (n := b) (m := (cs.length + 1 : Nat)) (by omega) (by omega)
  rw [ha] at tl
  have t5 : ∀ b : Int, C.g__law_take_2 [.lst [.int b], .int 5] = .ok (.vl (.int (b % 5)), [some (.lst [.int (b / 5)]), none]) := fun b => take2_ok (by omega) (by omega)
  generalize b / ((cs.length + 1 : Nat) : Int) = b1 at *
  have ln := len_dtQ (l := cs) (by omega)
  have l1 : ((cs.length : Nat) : Int) + 1 = ((cs.length + 1 : Nat) : Int) := by omega
  have a1 : (at_ : Int) + 1 = ((at_ + 1 : Nat) : Int) := by omega
  have a2 : (at_ : Int) + 2 = ((at_ + 2 : Nat) : Int) := by omega
  have s1 := slice_lo (l := cs) (k := at_) (by omega)
  have s2 := slice_up (l := cs) (k := at_ + 1) (by omega)
  have s3 := slice_up (l := cs) (k := at_) (by omega)
  have s4 := slice_up (l := cs) (k := at_ + 2) (by omega)
  have s5 := slice_2Q (l := cs) (k := at_) (by omega)
  have lt : (cs.take at_).length = at_ := by rw [List.length_take]; omega
  have ld : (cs.drop at_).length = cs.length - at_ := List.length_drop
  have ld1 : (cs.drop (at_ + 1)).length = cs.length - (at_ + 1) := List.length_drop
  have ld2 : (cs.drop (at_ + 2)).length = cs.length - (at_ + 2) := List.length_drop
  have lk : ((cs.drop at_).take 2).length ≤ cs.length - at_ := by rw [List.length_take]; omega
  have e2 : (cs.drop at_).drop 2 = cs.drop (at_ + 2) := by rw [List.drop_drop]
  have e1 : (cs.drop at_).drop 1 = cs.drop (at_ + 1) := by rw [List.drop_drop]
  have qs := cq_split (l := cs) (k := at_)
  have q1 : cq (cs.drop (at_ + 1)) ≤ cq (cs.drop at_) := by rw [← e1]; exact cq_suf (List.drop_suffix _ _)
  have q2 := cq_split (l := cs.drop at_) (k := 2)
  rw [e2] at q2
  have mt : ∀ c ∈ cs.take at_, c < 1000 := fun c h => hc c (List.mem_of_mem_take h)
  have md : ∀ k, ∀ c ∈ cs.drop k, c < 1000 := fun k c h => hc c (List.mem_of_mem_drop h)
  obtain ⟨w, hw, hw5⟩ := dig_nat (b := b1) (m := 5) (by omega)
  have hw : b1 % 5 = (w : Int) := hw
  have t20 := take2_ok (n := b1 / 5) (m := 20) (by omega) (by omega)
  obtain ⟨j, hj, hj2⟩ := dig_nat (b := b1 / 5) (m := 20) (by omega)
  have hj : b1 / 5 % 20 = (j : Int) := hj
  rw [hj] at t20
  have ix := ix_dt (l := spl20) (k := j) (by show j < 20; exact hj2) (by decide)
  have x1 : spl20.getD j 0 < 1000 := by
    rw [getD_lt (by show j < 20; exact hj2)]
    have : ∀ c ∈ spl20, c < 1000 := by decide
    exact this _ (List.getElem_mem _)
  generalize spl20.getD j 0 = x at *
  have cx := cq_1 (c := x)
  by_cases c0 : w = 0
  · refine ⟨cs.take at_ ++ cs.drop (at_ + 1), b1 / 5, _, ?_, .inl rfl, ⟨fun c h => ?_, by rw [List.length_append]; omega, by rw [cq_app]; omega⟩⟩
    · have d1 := add_dt (a := cs.take at_) (b := cs.drop (at_ + 1)) (by omega)
      have wi : (w : Int) = 0 := by omega
      simp only [C.g__law_spoilt_4, C.m__law_spoilt_4, s_spl]
      generalize ((cs.length + 1 : Nat) : Int) = LN1 at *
      generalize ((at_ + 1 : Nat) : Int) = A1 at *
      simp only [dt] at *
      generalize D.str (tx (cs.take at_ ++ cs.drop (at_ + 1))) = S1 at *
      generalize D.str (tx (cs.take at_)) = S2 at *
      generalize D.str (tx (cs.drop (at_ + 1))) = S3 at *
      generalize D.str (tx cs) = T at *
      generalize D.str (tx spl20) = S20 at *
      simp [e_fnD, ln, l1, tl, t5, hw, wi, s1, a1, s2, d1, -d_lenT]
    · rcases List.mem_append.mp h with h | h
      · exact mt c h
      · exact md _ c h
  by_cases c1 : w = 1
  · refine ⟨cs.take at_ ++ [x] ++ cs.drop at_, b1 / 5 / 20, _, ?_, .inl rfl, ⟨fun c h => ?_, by simp only [List.length_append, List.length_singleton]; omega, by rw [cq_app, cq_app]; omega⟩⟩
    · have d1 := add_dt (a := cs.take at_) (b := [x]) (by simp; omega)
      have d2 := add_dt (a := cs.take at_ ++ [x]) (b := cs.drop at_) (by simp only [List.length_append, List.length_singleton]; omega)
      have wi : (w : Int) = 1 := by omega
      simp only [C.g__law_spoilt_4, C.m__law_spoilt_4, s_spl]
      generalize ((cs.length + 1 : Nat) : Int) = LN1 at *
      generalize ((at_ + 1 : Nat) : Int) = A1 at *
      simp only [dt] at *
      generalize D.str (tx (cs.take at_ ++ [x] ++ cs.drop at_)) = S1 at *
      generalize D.str (tx (cs.take at_ ++ [x])) = S2 at *
      generalize D.str (tx (cs.take at_)) = S3 at *
      generalize D.str (tx (cs.drop at_)) = S4 at *
      generalize D.str (tx [x]) = S5 at *
      generalize D.str (tx cs) = T at *
      generalize D.str (tx spl20) = S20 at *
      simp [e_fnD, ln, l1, tl, t5, hw, wi, s1, s3, t20, ix, d1, d2, -d_lenT]
    · simp only [List.mem_append, List.mem_singleton] at h
      rcases h with (h | h) | h
      · exact mt c h
      · omega
      · exact md _ c h
  by_cases c2 : w = 2
  · refine ⟨cs.take at_ ++ [x] ++ cs.drop (at_ + 1), b1 / 5 / 20, _, ?_, .inl rfl, ⟨fun c h => ?_, by simp only [List.length_append, List.length_singleton]; omega, by rw [cq_app, cq_app]; omega⟩⟩
    · have d1 := add_dt (a := cs.take at_) (b := [x]) (by simp; omega)
      have d2 := add_dt (a := cs.take at_ ++ [x]) (b := cs.drop (at_ + 1)) (by simp only [List.length_append, List.length_singleton]; omega)
      have wi : (w : Int) = 2 := by omega
      simp only [C.g__law_spoilt_4, C.m__law_spoilt_4, s_spl]
      generalize ((cs.length + 1 : Nat) : Int) = LN1 at *
      generalize ((at_ + 1 : Nat) : Int) = A1 at *
      simp only [dt] at *
      generalize D.str (tx (cs.take at_ ++ [x] ++ cs.drop (at_ + 1))) = S1 at *
      generalize D.str (tx (cs.take at_ ++ [x])) = S2 at *
      generalize D.str (tx (cs.take at_)) = S3 at *
      generalize D.str (tx (cs.drop (at_ + 1))) = S4 at *
      generalize D.str (tx [x]) = S5 at *
      generalize D.str (tx cs) = T at *
      generalize D.str (tx spl20) = S20 at *
      simp [e_fnD, ln, l1, tl, t5, hw, wi, s1, s2, a1, t20, ix, d1, d2, -d_lenT]
    · simp only [List.mem_append, List.mem_singleton] at h
      rcases h with (h | h) | h
      · exact mt c h
      · omega
      · exact md _ c h
  by_cases c3 : w = 3
  · refine ⟨cs.take at_ ++ ((cs.drop at_).take 2).reverse ++ cs.drop (at_ + 2), b1 / 5, _, ?_, .inl rfl, ⟨fun c h => ?_, ?_, by rw [cq_app, cq_app, cq_rev]; omega⟩⟩
    · have rv := rev_dt (l := (cs.drop at_).take 2) (by omega)
      have d1 := add_dt (a := cs.take at_) (b := ((cs.drop at_).take 2).reverse) (by rw [List.length_reverse]; omega)
      have d2 := add_dt (a := cs.take at_ ++ ((cs.drop at_).take 2).reverse) (b := cs.drop (at_ + 2)) (by rw [List.length_append, List.length_reverse]; omega)
      have wi : (w : Int) = 3 := by omega
      simp only [C.g__law_spoilt_4, C.m__law_spoilt_4, s_spl]
      generalize ((cs.length + 1 : Nat) : Int) = LN1 at *
      generalize ((at_ + 2 : Nat) : Int) = A2 at *
      simp only [dt] at *
      generalize D.str (tx (cs.take at_ ++ ((cs.drop at_).take 2).reverse ++ cs.drop (at_ + 2))) = S1 at *
      generalize D.str (tx (cs.take at_ ++ ((cs.drop at_).take 2).reverse)) = S2 at *
      generalize D.str (tx (((cs.drop at_).take 2).reverse)) = S6 at *
      generalize D.str (tx ((cs.drop at_).take 2)) = S7 at *
      generalize D.str (tx (cs.take at_)) = S3 at *
      generalize D.str (tx (cs.drop (at_ + 2))) = S4 at *
      generalize D.str (tx cs) = T at *
      generalize D.str (tx spl20) = S20 at *
      simp [e_fnD, ln, l1, tl, t5, hw, wi, s1, s4, s5, a2, rv, d1, d2, -d_lenT]
    · simp only [List.mem_append, List.mem_reverse] at h
      rcases h with (h | h) | h
      · exact mt c h
      · exact md _ c (List.mem_of_mem_take h)
      · exact md _ c h
    · have := congrArg List.length (List.take_append_drop 2 (cs.drop at_))
      rw [List.length_append, e2] at this
      simp only [List.length_append, List.length_reverse]
      omega
  · refine ⟨cs, b1 / 5, _, ?_, .inr rfl, ⟨hc, by omega, by omega⟩⟩
    have w0 : ¬ (w : Int) = 0 := by omega
    have w1 : ¬ (w : Int) = 1 := by omega
    have w2 : ¬ (w : Int) = 2 := by omega
    have w3 : ¬ (w : Int) = 3 := by omega
    simp only [C.g__law_spoilt_4, C.m__law_spoilt_4, s_spl]
    generalize ((cs.length + 1 : Nat) : Int) = LN1 at *
    simp only [dt] at *
    generalize D.str (tx cs) = T at *
    generalize D.str (tx spl20) = S20 at *
    generalize (w : Int) = WI at *
    simp [e_fnD, ln, l1, tl, t5, hw, w0, w1, w2, w3, -d_lenT]
theorem odd12_ok {n : Int} : ∃ (d : D) (n' : Int), C.g__law_odd_2 [.lst [.int n]] = .ok (.vl d, [some (.lst [.int n'])]) ∧ noDit d = true := by
  have tk := take2_ok (n := n) (m := 16) (by omega) (by omega)
  obtain ⟨d, e, hd⟩ := atI_any (i := n % 16) (p := fun d => noDit d = true) (L := [.non, .bl true, .int 7, .str "", .str "s0", .tup [], .lst [], .dik [] [], .tup [.int 1, .int 2], .lst [.tup [.int 0]], .tup [.tup []], .int (-1), .tup [.str "order", .tup []], .tup [.tup [.int 0, .int 1], .tup [.int 1]], .bl false, .str "01"]) (by omega) (by simp; omega) (by
      intro x hx
      simp only [List.mem_cons, List.not_mem_nil, or_false] at hx
      rcases hx with h|h|h|h|h|h|h|h|h|h|h|h|h|h|h|h <;> subst h <;> rfl)
  refine ⟨d, n / 16, ?_, hd⟩
  simp only [C.g__law_odd_2, C.m__law_odd_2]
  simp [e_fnD, tk, e, szOk_of]
theorem joinL_one : ∀ {xs : List Nat}, TL.joinL [] (xs.map fun c => [c]) = xs
  | [] => rfl
  | x :: xs => by
    rw [List.map_cons, joinL_flat, List.map_map]
    have : ∀ xs : List Nat, (xs.map ((([] : List Nat) ++ ·) ∘ fun c => [c])).flatten = xs := by
      intro xs
      induction xs with
      | nil => rfl
      | cons y ys ih => rw [List.map_cons, List.flatten_cons, ih]; rfl
    rw [this]
    rfl
theorem join_chars {xs : List Nat} (h : xs.length ≤ 1000) : joinD (dt []) (.lst (xs.map fun c => dt [c])) = .ok (dt xs) := by
  have := join_dtQ (sep := []) (xs := xs.map fun c => [c]) (by
    rw [List.map_map, List.length_map]
    have : ∀ xs : List Nat, (xs.map (List.length ∘ fun c => [c])).sum = xs.length := by
      intro xs
      induction xs with
      | nil => rfl
      | cons y ys ih => rw [List.map_cons, List.sum_cons, ih, List.length_cons]; exact Nat.add_comm _ _
    rw [this]
    simp; omega)
  rw [List.map_map, joinL_one] at this
  exact this
def drw20 : List Nat := [115, 48, 49, 50, 51, 52, 53, 54, 55, 33, 38, 124, 94, 40, 41, 32, 32, 115, 115, 115]
theorem s_drw : Str.ofString "s01234567!&|^()  sss" = tx drw20 := by decide +kernel
theorem good_k12 : Good C.g_law_k12 63 := fun ns hl hb => by
  obtain ⟨M, hM⟩ : ∃ M : Nat, max (1 : Int) (min (ns.length : Int) 12) = M := ⟨(max (1 : Int) (min (ns.length : Int) 12)).toNat, by omega⟩
  have hM4 : M ≤ 12 := by omega
  obtain ⟨ρ', h, hρ⟩ := for_inv (tm := tmName 1) (body := C.b_law_k12_1) (vs := [1, 2, 3, 4, 5]) (ws := []) (fun k : Nat => D.int (k : Nat)) (fun ρ => ρ = [some (.arg ns), none, none, none, none, none, none]) (List.range M) _ rfl fun ρ k hρ hk => by
    subst hρ
    have hk := List.mem_range.mp hk
    obtain ⟨b, hbox⟩ := box2_ok (ns := ns) (k := k) (by omega)
    have t15 := take2_ok (n := b) (m := 15) (by omega) (by omega)
    obtain ⟨m, hm, hm15⟩ := dig_nat (b := b) (m := 15) (by omega)
    have hm : b % 15 = (m : Int) := hm
    rw [hm] at t15
    have rg := rng1_Q (n := m) (by omega)
    have zm : szOk ((List.range m).map fun j : Nat => D.int (j : Nat)).length = true := szOk_of (by rw [List.length_map, List.length_range]; omega)
    obtain ⟨ys, b1, cp, yl, yc⟩ := comp_ex (tm := tmName 6) (t := cYes) (e := C.e_law_k12_1) (vs := [6]) (ws := []) (fun j : Nat => D.int (j : Nat)) (fun c : Nat => dt [c]) (fun b : Int => [some (.arg ns), some (.int (k : Nat)), some (.lst [.int b]), none, none, none, none]) (fun c => c < 1000) (List.range m) (b / 15) fun b x hx => by
      have t20 := take2_ok (n := b) (m := 20) (by omega) (by omega)
      obtain ⟨j, hj, hj2⟩ := dig_nat (b := b) (m := 20) (by omega)
      have hj : b % 20 = (j : Int) := hj
      rw [hj] at t20
      have ix := ix_dt (l := drw20) (k := j) (by show j < 20; exact hj2) (by decide)
      have x1 : drw20.getD j 0 < 1000 := by
        rw [getD_lt (by show j < 20; exact hj2)]
        have : ∀ c ∈ drw20, c < 1000 := by decide
        exact this _ (List.getElem_mem _)
      refine ⟨drw20.getD j 0, b / 20, ?_, x1, fun _ z => by cases z⟩
      simp only [turnC, C.e_law_k12_1, s_drw]
      generalize drw20.getD j 0 = x at *
      simp only [dt] at *
      generalize D.str (tx [x]) = S1 at *
      generalize D.str (tx drw20) = S20 at *
      simp [t20, ix]
    rw [List.length_range] at yl
    have zy : szOk (ys.map fun c => dt [c]).length = true := szOk_of (by rw [List.length_map]; omega)
    have jo := join_chars (xs := ys) (by omega)
    have ny : NiceT 1000 31 ys := ⟨yc, by omega, Nat.le_trans List.countP_le_length (by omega)⟩
    have t3 := take2_ok (n := b1) (m := 3) (by omega) (by omega)
    refine ⟨_, ?_, rfl, by simp⟩
    by_cases c : 0 < b1 % 3
    · have t7 := take2_ok (n := b1 / 3) (m := 7) (by omega) (by omega)
      obtain ⟨e, he, he7⟩ := dig_nat (b := b1 / 3) (m := 7) (by omega)
      have he : b1 / 3 % 7 = (e : Int) := he
      rw [he] at t7
      have t5 := take2_ok (n := b1 / 3 / 7) (m := 5) (by omega) (by omega)
      obtain ⟨d, hd, hd5⟩ := dig_nat (b := b1 / 3 / 7) (m := 5) (by omega)
      have hd : b1 / 3 / 7 % 5 = (d : Int) := hd
      rw [hd] at t5
      have rgb := rgB_of (n := e) (by omega)
      obtain ⟨t, b2, tr, ok, dep⟩ := law_tree_ok (E := List.range e) (by simp; omega) 40 d (b1 / 3 / 7 / 5) (by omega)
      have re : ln' (List.range e) = .lst (rgD 0 e) := by rw [rgD_nat]
      rw [re] at tr
      have tr : C.g__law_tree [.lst [.int (b1 / 3 / 7 / 5)], .lst (rgD 0 e), .int (d : Nat)] = _ := tr
      obtain ⟨cs, b3, tt, ⟨_, ch⟩, L1, _, Q1, _⟩ := law_text11_ok (E := List.range e) (fun x hx => by have := List.mem_range.mp hx; omega) 40 t b2 0 (by rw [if_neg (by omega)]; omega) ok (by omega) (by omega) (by omega)
      have tt : C.g__law_text_2 [.lst [.int b2], t.d, .int 0] = _ := tt
      have p16 : 2 ^ t.dep ≤ 2 ^ 4 := Nat.pow_le_pow_right (by omega) (by omega)
      obtain ⟨cs', b4, hd', sp, hh, n'⟩ := spoilt12_ok (b := b3) (m := 1000) (q := 30) ⟨ch, by omega, by omega⟩ (by omega)
      obtain ⟨od, b5, ho, hnd⟩ := odd12_ok (n := b4)
      obtain ⟨hr, rr, hr2⟩ := law_right12_ok n'.ch (by have := n'.len; omega) (by have := n'.cnt; omega)
      have er : neD (.str (Str.ofString "rule")) (.str (Str.ofString "rule")) = .ok (.bl false) := by
        rw [s_ruleQ]
        have := ne_dt (a := [114, 117, 108, 101]) (b := [114, 117, 108, 101]) (fun x hx => by simp at hx; omega) (fun x hx => by simp at hx; omega)
        rw [decide_eq_true rfl] at this
        exact this
      have as : Y.isStr od = false → C.g__law_asked_11 [od] = .ok (.fr (.str (Str.ofString "rule"))) := fun z => asked_none (read_rule_odd z hnd)
      simp only [turnF, C.b_law_k12_1, s_none]
      generalize C.e_law_k12_1 = EE at *
      generalize t.d = TD at *
      generalize hRE : rgD 0 e = RE at *
      generalize ((List.range m).map fun j : Nat => D.int (j : Nat)) = RL at *
      generalize (ys.map fun c => dt [c]) = YL at *
      simp only [dt] at *
      generalize D.str (tx cs') = T' at *
      generalize D.str (tx cs) = T at *
      generalize D.str (tx ys) = TY at *
      generalize tx [] = S0 at *
      cases z : Y.isStr od with
      | true =>
        rcases hh with rfl | rfl <;> rcases hr2 with rfl | rfl <;> simp [hbox, t15, rg, zm, cp, zy, jo, t3, c, t7, rgb, hRE, t5, tr, tt, sp, ho, rr, hnd, z, shAt]
      | false =>
        have as := as z
        rcases hh with rfl | rfl <;> rcases hr2 with rfl | rfl <;> simp [hbox, t15, rg, zm, cp, zy, jo, t3, c, t7, rgb, hRE, t5, tr, tt, sp, ho, rr, hnd, z, as, er, shAt]
    · obtain ⟨od, b5, ho, hnd⟩ := odd12_ok (n := b1 / 3)
      obtain ⟨hr, rr, hr2⟩ := law_right12_ok ny.ch (by have := ny.len; omega) (by have := ny.cnt; omega)
      have er : neD (.str (Str.ofString "rule")) (.str (Str.ofString "rule")) = .ok (.bl false) := by
        rw [s_ruleQ]
        have := ne_dt (a := [114, 117, 108, 101]) (b := [114, 117, 108, 101]) (fun x hx => by simp at hx; omega) (fun x hx => by simp at hx; omega)
        rw [decide_eq_true rfl] at this
        exact this
      have as : Y.isStr od = false → C.g__law_asked_11 [od] = .ok (.fr (.str (Str.ofString "rule"))) := fun z => asked_none (read_rule_odd z hnd)
      simp only [turnF, C.b_law_k12_1, s_none]
      generalize C.e_law_k12_1 = EE at *
      generalize ((List.range m).map fun j : Nat => D.int (j : Nat)) = RL at *
      generalize (ys.map fun c => dt [c]) = YL at *
      simp only [dt] at *
      generalize D.str (tx ys) = TY at *
      generalize tx [] = S0 at *
      cases z : Y.isStr od with
      | true => rcases hr2 with rfl | rfl <;> simp [hbox, t15, rg, zm, cp, zy, jo, t3, c, ho, rr, hnd, z, shAt]
      | false =>
        have as := as z
        rcases hr2 with rfl | rfl <;> simp [hbox, t15, rg, zm, cp, zy, jo, t3, c, ho, rr, hnd, z, as, er, shAt]
  subst hρ
  have rM : rngOk M = true := rngOk_of (by omega) (by omega)
  have zM : szOk M = true := szOk_of (by omega)
  refine ⟨.fr (.bl true), ?_, .inl rfl⟩
  simp only [C.g_law_k12, C.m_law_k12]
  simp [e_fnP, hM, rM, zM, h]
end H

set_option Elab.async false
set_option linter.all false
set_option maxRecDepth 100000
namespace K12
open PySem PySem.Spec PyProof.Rows L2 Y
def top (i : Nat) : Stmt := PySem.Challenge.pw_switchnets_k12_formulas_and_others.main.body.getD i (.Pass ⟨0, 0, 0, 0⟩)
abbrev s_stands_of : Stmt := top 15
theorem sc_stands_of : FnScope ["many", "found", "k", "stand"] ["many"] (defScope s_stands_of) := ⟨rfl, rfl, rfl, by decide +kernel, rfl, by decide +kernel, by decide +kernel⟩
abbrev s_parts_in : Stmt := top 20
theorem sc_parts_in : FnScope ["text", "parts", "at", "sign"] ["text"] (defScope s_parts_in) := ⟨rfl, rfl, rfl, by decide +kernel, rfl, by decide +kernel, by decide +kernel⟩
abbrev s_close_bracket : Stmt := top 21
theorem sc_close_bracket : FnScope ["waiting", "found"] ["waiting", "found"] (defScope s_close_bracket) := ⟨rfl, rfl, rfl, by decide +kernel, rfl, by decide +kernel, by decide +kernel⟩
abbrev s_in_turn : Stmt := top 22
theorem sc_in_turn : FnScope ["parts", "found", "waiting", "open_here", "part", "begins"] ["parts"] (defScope s_in_turn) := ⟨rfl, rfl, rfl, by decide +kernel, rfl, by decide +kernel, by decide +kernel⟩
abbrev s_joined_by : Stmt := top 23
theorem sc_joined_by : FnScope ["sign", "one", "other"] ["sign", "one", "other"] (defScope s_joined_by) := ⟨rfl, rfl, rfl, by decide +kernel, rfl, by decide +kernel, by decide +kernel⟩
abbrev s_come_to : Stmt := top 24
theorem sc_come_to : FnScope ["parts", "bits", "held", "part", "other"] ["parts", "bits"] (defScope s_come_to) := ⟨rfl, rfl, rfl, by decide +kernel, rfl, by decide +kernel, by decide +kernel⟩
abbrev s_read_rule : Stmt := top 25
theorem sc_read_rule : FnScope ["text", "parts", "ears", "table", "reading", "part"] ["text"] (defScope s_read_rule) := ⟨rfl, rfl, rfl, by decide +kernel, rfl, by decide +kernel, by decide +kernel⟩
abbrev s__law_cell : Stmt := top 27
theorem sc__law_cell : FnScope ["script", "k"] ["script", "k"] (defScope s__law_cell) := ⟨rfl, rfl, rfl, by decide +kernel, rfl, by decide +kernel, by decide +kernel⟩
abbrev s__law_box : Stmt := top 28
theorem sc__law_box : FnScope ["script", "k", "cell", "number", "mixed", "j"] ["script", "k"] (defScope s__law_box) := ⟨rfl, rfl, rfl, by decide +kernel, rfl, by decide +kernel, by decide +kernel⟩
abbrev s__law_take : Stmt := top 29
theorem sc__law_take : FnScope ["box", "many", "digit"] ["box", "many"] (defScope s__law_take) := ⟨rfl, rfl, rfl, by decide +kernel, rfl, by decide +kernel, by decide +kernel⟩
abbrev s__law_readings : Stmt := top 30
theorem sc__law_readings : FnScope ["many", "found", "k", "row"] ["many"] (defScope s__law_readings) := ⟨rfl, rfl, rfl, by decide +kernel, rfl, by decide +kernel, by decide +kernel⟩
abbrev s__law_bits : Stmt := top 31
theorem sc__law_bits : FnScope ["thing", "many", "one"] ["thing", "many"] (defScope s__law_bits) := ⟨rfl, rfl, rfl, by decide +kernel, rfl, by decide +kernel, by decide +kernel⟩
abbrev s__law_whole : Stmt := top 32
theorem sc__law_whole : FnScope ["thing"] ["thing"] (defScope s__law_whole) := ⟨rfl, rfl, rfl, by decide +kernel, rfl, by decide +kernel, by decide +kernel⟩
abbrev s__law_odd : Stmt := top 33
theorem sc__law_odd : FnScope ["box", "some"] ["box"] (defScope s__law_odd) := ⟨rfl, rfl, rfl, by decide +kernel, rfl, by decide +kernel, by decide +kernel⟩
abbrev s__law_tree : Stmt := top 34
theorem sc__law_tree : FnScope ["box", "ears", "deep", "way", "sign"] ["box", "ears", "deep"] (defScope s__law_tree) := ⟨rfl, rfl, rfl, by decide +kernel, rfl, by decide +kernel, by decide +kernel⟩
abbrev s__law_worth : Stmt := top 35
theorem sc__law_worth : FnScope ["tree", "bits", "one", "other"] ["tree", "bits"] (defScope s__law_worth) := ⟨rfl, rfl, rfl, by decide +kernel, rfl, by decide +kernel, by decide +kernel⟩
abbrev s__law_text : Stmt := top 36
theorem sc__law_text : FnScope ["box", "tree", "above", "gap", "own"] ["box", "tree", "above"] (defScope s__law_text) := ⟨rfl, rfl, rfl, by decide +kernel, rfl, by decide +kernel, by decide +kernel⟩
abbrev s__law_named : Stmt := top 37
theorem sc__law_named : FnScope ["tree", "found", "part"] ["tree"] (defScope s__law_named) := ⟨rfl, rfl, rfl, by decide +kernel, rfl, by decide +kernel, by decide +kernel⟩
abbrev s__law_due : Stmt := top 38
theorem sc__law_due : FnScope ["tree", "ears", "rows", "row", "k"] ["tree", "ears"] (defScope s__law_due) := ⟨rfl, rfl, rfl, by decide +kernel, rfl, by decide +kernel, by decide +kernel⟩
abbrev s__law_is_rule : Stmt := top 39
theorem sc__law_is_rule : FnScope ["found", "due", "ear"] ["found", "due"] (defScope s__law_is_rule) := ⟨rfl, rfl, rfl, by decide +kernel, rfl, by decide +kernel, by decide +kernel⟩
abbrev s__law_kind : Stmt := top 40
theorem sc__law_kind : FnScope ["e", "kinds", "words", "kind"] ["e"] (defScope s__law_kind) := ⟨rfl, rfl, rfl, by decide +kernel, rfl, by decide +kernel, by decide +kernel⟩
abbrev s__law_factor : Stmt := top 42
theorem sc__law_factor : FnScope ["text", "at", "sign", "tree"] ["text", "at"] (defScope s__law_factor) := ⟨rfl, rfl, rfl, by decide +kernel, rfl, by decide +kernel, by decide +kernel⟩
abbrev s__law_part : Stmt := top 41
theorem sc__law_part : FnScope ["text", "at", "level", "tree", "more"] ["text", "at", "level"] (defScope s__law_part) := ⟨rfl, rfl, rfl, by decide +kernel, rfl, by decide +kernel, by decide +kernel⟩
abbrev s__law_read : Stmt := top 43
theorem sc__law_read : FnScope ["text", "tree", "at"] ["text"] (defScope s__law_read) := ⟨rfl, rfl, rfl, by decide +kernel, rfl, by decide +kernel, by decide +kernel⟩
abbrev s__law_spoilt : Stmt := top 44
theorem sc__law_spoilt : FnScope ["box", "text", "signs", "at", "way"] ["box", "text"] (defScope s__law_spoilt) := ⟨rfl, rfl, rfl, by decide +kernel, rfl, by decide +kernel, by decide +kernel⟩
abbrev s__law_asked : Stmt := top 45
theorem sc__law_asked : FnScope ["thing", "e"] ["thing"] (defScope s__law_asked) := ⟨rfl, rfl, rfl, by decide +kernel, rfl, by decide +kernel, by decide +kernel⟩
abbrev s__law_right : Stmt := top 46
theorem sc__law_right : FnScope ["text", "tree", "found"] ["text"] (defScope s__law_right) := ⟨rfl, rfl, rfl, by decide +kernel, rfl, by decide +kernel, by decide +kernel⟩
abbrev s_law : Stmt := top 47
theorem sc_law : FnScope ["script", "k", "box", "text", "tree", "thing", "j"] ["script"] (defScope s_law) := ⟨rfl, rfl, rfl, by decide +kernel, rfl, by decide +kernel, by decide +kernel⟩
structure Txt (K : PySem.W.Frag) (mg : Str → Option Value) (w : World) : Prop where
  d_stands_of : Def K mg "stands_of" s_stands_of
  d_parts_in : Def K mg "parts_in" s_parts_in
  d_close_bracket : Def K mg "close_bracket" s_close_bracket
  d_in_turn : Def K mg "in_turn" s_in_turn
  d_joined_by : Def K mg "joined_by" s_joined_by
  d_come_to : Def K mg "come_to" s_come_to
  d_read_rule : Def K mg "read_rule" s_read_rule
  d__law_cell : Def K mg "_law_cell" s__law_cell
  d__law_box : Def K mg "_law_box" s__law_box
  d__law_take : Def K mg "_law_take" s__law_take
  d__law_readings : Def K mg "_law_readings" s__law_readings
  d__law_bits : Def K mg "_law_bits" s__law_bits
  d__law_whole : Def K mg "_law_whole" s__law_whole
  d__law_odd : Def K mg "_law_odd" s__law_odd
  d__law_tree : Def K mg "_law_tree" s__law_tree
  d__law_worth : Def K mg "_law_worth" s__law_worth
  d__law_text : Def K mg "_law_text" s__law_text
  d__law_named : Def K mg "_law_named" s__law_named
  d__law_due : Def K mg "_law_due" s__law_due
  d__law_is_rule : Def K mg "_law_is_rule" s__law_is_rule
  d__law_kind : Def K mg "_law_kind" s__law_kind
  d__law_factor : Def K mg "_law_factor" s__law_factor
  d__law_part : Def K mg "_law_part" s__law_part
  d__law_read : Def K mg "_law_read" s__law_read
  d__law_spoilt : Def K mg "_law_spoilt" s__law_spoilt
  d__law_asked : Def K mg "_law_asked" s__law_asked
  d__law_right : Def K mg "_law_right" s__law_right
  k_FIGURES : ∃ t, mg "FIGURES" = some (.str "01234567" t)
  k_MOST_EARS : ∃ t, mg "MOST_EARS" = some (.int 4 t)
  t_STRENGTH : TabK K w mg "STRENGTH" [(("!" : Str), (4 : Int)), (("&" : Str), (3 : Int)), (("^" : Str), (2 : Int)), (("|" : Str), (1 : Int)), (("(" : Str), (0 : Int))]
  e_NoRule : ErrT K mg "NoRule"
  e_TooMany : ErrT K mg "TooMany"
  z_ValueError : mg "ValueError" = none
  z_all : mg "all" = none
  z_bool : mg "bool" = none
  z_dict : mg "dict" = none
  z_int : mg "int" = none
  z_isinstance : mg "isinstance" = none
  z_len : mg "len" = none
  z_list : mg "list" = none
  z_max : mg "max" = none
  z_min : mg "min" = none
  z_range : mg "range" = none
  z_set : mg "set" = none
  z_sorted : mg "sorted" = none
  z_str : mg "str" = none
  z_sum : mg "sum" = none
  z_tuple : mg "tuple" = none
  z_zip : mg "zip" = none
  cat__law_asked_1 : CatF K mg ["NoRule", "TooMany"] "NetError"
  zz__law_asked_1 : ∀ c ∈ (["NoRule", "TooMany"] : List Str), ErrZ K mg c
  cat_zkind : CatF K mg ["NoRule", "TooMany"] "NetError"
  zz_zkind : ∀ c ∈ (["NoRule", "TooMany"] : List Str), ErrZ K mg c
  v_zkind : IsV K mg ["NoRule", "TooMany"]
  is_zkind_Hears : IsF K mg ["NoRule", "TooMany"] "Hears" (isErr "Hears")
  is_zkind_NoDen : IsF K mg ["NoRule", "TooMany"] "NoDen" (isErr "NoDen")
  is_zkind_NoFrame : IsF K mg ["NoRule", "TooMany"] "NoFrame" (isErr "NoFrame")
  is_zkind_NoHolds : IsF K mg ["NoRule", "TooMany"] "NoHolds" (isErr "NoHolds")
  is_zkind_NoOrder : IsF K mg ["NoRule", "TooMany"] "NoOrder" (isErr "NoOrder")
  is_zkind_NoRow : IsF K mg ["NoRule", "TooMany"] "NoRow" (isErr "NoRow")
  is_zkind_NoRule : IsF K mg ["NoRule", "TooMany"] "NoRule" (isErr "NoRule")
  is_zkind_NoSeen : IsF K mg ["NoRule", "TooMany"] "NoSeen" (isErr "NoSeen")
  is_zkind_NoStand : IsF K mg ["NoRule", "TooMany"] "NoStand" (isErr "NoStand")
  is_zkind_NoSwitch : IsF K mg ["NoRule", "TooMany"] "NoSwitch" (isErr "NoSwitch")
  is_zkind_NoText : IsF K mg ["NoRule", "TooMany"] "NoText" (isErr "NoText")
  is_zkind_TooMany : IsF K mg ["NoRule", "TooMany"] "TooMany" (isErr "TooMany")
section
variable {P : Program} {w : World} {K : PySem.W.Frag} {mg : Str → Option Value} {base : Heap}
theorem ok_stands_of (T : Txt K mg w) : Glo P w K mg base "stands_of" 1 1 [] (pureF C.g_stands_of) :=
  (glo_mk (O := []) (Oc := []) (W := []) (U := []) T.d_stands_of sc_stands_of (fun f cdv A outer s H E P0 hr => (cs_cons (cs_asg (ce_lst (ca_cons (ce_tup ca_nil) ca_nil)) (cg_name 1 sc_stands_of.nd))
    (cs_cons (cs_for (U' := []) (vs := [2]) (passes_of rfl) rfl (ci_range1 T.z_range (ca_cons (ce_var 0) ca_nil)) (cg_name 2 sc_stands_of.nd) (cs_one (cs_asg (ce_bin od_add (ce_comp rfl sc_stands_of.nd (ci_any (ce_var 1)) (blkOk_by (own := [("stand", 3)]) (by kernel_rfl)) (fun P0 s H C cl fp => (cg_name 3 sc_stands_of.nd)) (fun s H C cl fp => cts_nil) (fun P0 s H C cl fp => (ce_bin od_add (ce_tup (ca_cons ce_int ca_nil)) (ce_var 3)))) (ce_comp rfl sc_stands_of.nd (ci_any (ce_var 1)) (blkOk_by (own := [("stand", 3)]) (by kernel_rfl)) (fun P0 s H C cl fp => (cg_name 3 sc_stands_of.nd)) (fun s H C cl fp => cts_nil) (fun P0 s H C cl fp => (ce_bin od_add (ce_tup (ca_cons ce_int ca_nil)) (ce_var 3))))) (cg_name 1 sc_stands_of.nd))))
    (cs_one (cs_ret (ce_var 1)))))) (fun _ _ _ _ _ _ us hl => match us, hl with | [_], _ => rfl)).pure
theorem ok_parts_in (T : Txt K mg w) : Glo P w K mg base "parts_in" 1 1 [] (pureF C.g_parts_in) :=
  (glo_mk (O := []) (Oc := [1]) (W := []) (U := []) T.d_parts_in sc_parts_in (fun f cdv A outer s H E P0 hr => (cs_cons (cs_own (i := 1) sc_parts_in.nd (ce_lst ca_nil))
    (cs_cons (cs_asg ce_int (cg_name 2 sc_parts_in.nd))
    (cs_cons (cs_while (vs := [3]) (passes_of rfl) (ct_cmp od_lt (ce_var 2) (ce_callB cd_len T.z_len bo_len (ca_cons (ce_var 0) ca_nil))) (cs_cons (cs_asg (ce_ix (ce_var 0) (ce_var 2)) (cg_name 3 sc_parts_in.nd))
    (cs_cons (cs_aug (i := 2) sc_parts_in.nd ip_add ce_int)
    (cs_one (cs_if (ct_cmp (od_eq hr.units) (ce_var 3) ce_str) (cs_cons (cs_if (ct_w (cw_or (ct_cmp (od_eq hr.units) (ce_slice (ce_var 0) (co_some (ce_var 2)) (co_some (ce_bin od_add (ce_var 2) ce_int))) ce_str) (cw_or1 (ct_cmp (od_nin hr.units65) (ce_ix (ce_var 0) (ce_var 2)) (ce_globS T.k_FIGURES))))) (cs_one (cs_raise T.e_NoRule rfl (L2N.takes_of rfl rfl rfl rfl))) cs_nil)
    (cs_cons (cs_append (i := 1) (ce_callT cd_int T.z_int bo_int (ca_cons (ce_ix (ce_var 0) (ce_var 2)) ca_nil)))
    (cs_one (cs_aug (i := 2) sc_parts_in.nd ip_add ce_int)))) (cs_one (cs_if (ct_cmp (od_in hr.units65) (ce_var 3) ce_str) (cs_one (cs_append (i := 1) (ce_var 3))) (cs_one (cs_if (ct_cmp (od_ne hr.units) (ce_var 3) ce_str) (cs_one (cs_raise T.e_NoRule rfl (L2N.takes_of rfl rfl rfl rfl))) cs_nil)))))))))
    (cs_one (cs_ret (ce_own 1))))))) (fun _ _ _ _ _ _ us hl => match us, hl with | [_], _ => rfl)).pure
theorem ok_close_bracket (T : Txt K mg w) : Glo P w K mg base "close_bracket" 1 2 [0, 1] C.g_close_bracket :=
  (glo_mk (O := [0, 1]) (Oc := [0, 1]) (W := [0]) (U := [0, 1]) T.d_close_bracket sc_close_bracket (fun f cdv A outer s H E P0 hr => (cs_cons (cs_while (vs := []) (passes_of rfl) (ct_w (cw_and (ct_cmp (od_ne hr.units) (ce_own 0) (ce_lst ca_nil)) (cw_and1 (ct_cmp (od_ne hr.units) (ce_ix (ce_own 0) (ce_neg ce_int)) ce_str)))) (cs_one (cs_append (i := 1) (ce_pop (i := 0)))))
    (cs_cons (cs_if (ct_cmp (od_eq hr.units) (ce_own 0) (ce_lst ca_nil)) (cs_one (cs_raise T.e_NoRule rfl (L2N.takes_of rfl rfl rfl rfl))) cs_nil)
    (cs_one (cs_expr (ce_pop (i := 0))))))) (fun _ _ _ _ _ _ us hl => match us, hl with | [_, _], _ => rfl))
theorem ok_in_turn (T : Txt K mg w) : Glo P w K mg base "in_turn" 2 1 [] (pureF C.g_in_turn) :=
  (glo_mk (O := []) (Oc := [1, 2]) (W := [1, 2]) (U := []) T.d_in_turn sc_in_turn (fun f cdv A outer s H E P0 hr => (cs_cons (cs_own (i := 1) sc_in_turn.nd (ce_lst ca_nil))
    (cs_cons (cs_own (i := 2) sc_in_turn.nd (ce_lst ca_nil))
    (cs_cons (cs_asg ce_bl (cg_name 3 sc_in_turn.nd))
    (cs_cons (cs_for (U' := []) (vs := [4, 5]) (passes_of rfl) rfl (ci_any (ce_var 0)) (cg_name 4 sc_in_turn.nd) (cs_cons (cs_asg (ce_or (ce_isi isk_int T.z_isinstance T.z_int (ce_var 4) bo_isinstance bo_int) (ce_one (ce_cmp (od_in hr.units65) (ce_var 4) ce_str))) (cg_name 5 sc_in_turn.nd))
    (cs_cons (cs_if (ct_cmp (od_ne hr.units) (ce_var 5) (ce_var 3)) (cs_one (cs_raise T.e_NoRule rfl (L2N.takes_of rfl rfl rfl rfl))) cs_nil)
    (cs_one (cs_if (ct_w (cw_or (ct_val (ce_isi isk_int T.z_isinstance T.z_int (ce_var 4) bo_isinstance bo_int)) (cw_or1 (ct_cmp (od_in hr.units65) (ce_var 4) ce_str)))) (cs_cons (cs_append (i := 1) (ce_var 4))
    (cs_one (cs_asg ce_bl (cg_name 3 sc_in_turn.nd)))) (cs_one (cs_if (ct_cmp (od_in hr.units65) (ce_var 4) ce_str) (cs_one (cs_append (i := 2) (ce_var 4))) (cs_one (cs_if (ct_cmp (od_eq hr.units) (ce_var 4) ce_str) (cs_one (cs_expr (ce_callIO (ok_close_bracket T) [(0, 2), (1, 1)] out2_body (hr.mono (by decide)) (ca_cons (ce_own 2) (ca_cons (ce_own 1) ca_nil)) (alen_cons (alen_cons alen_nil))))) (cs_cons (cs_while (vs := []) (passes_of rfl) (ct_w (cw_and (ct_cmp (od_ne hr.units) (ce_own 2) (ce_lst ca_nil)) (cw_and1 (ct_cmp od_ge (ce_kix T.t_STRENGTH (ce_ix (ce_own 2) (ce_neg ce_int))) (ce_kix T.t_STRENGTH (ce_var 4)))))) (cs_one (cs_append (i := 1) (ce_pop (i := 2)))))
    (cs_cons (cs_append (i := 2) (ce_var 4))
    (cs_one (cs_asg ce_bl (cg_name 3 sc_in_turn.nd))))))))))))))
    (cs_cons (cs_if (ct_w (cw_or (ct_val (ce_var 3)) (cw_or1 (ct_cmp (od_in hr.units65) ce_str (ce_own 2))))) (cs_one (cs_raise T.e_NoRule rfl (L2N.takes_of rfl rfl rfl rfl))) cs_nil)
    (cs_one (cs_ret (ce_bin od_add (ce_own 1) (ce_rev (ce_own 2) (co_some (ce_neg ce_int)))))))))))) (fun _ _ _ _ _ _ us hl => match us, hl with | [_], _ => rfl)).pure
theorem ok_joined_by (T : Txt K mg w) : Glo P w K mg base "joined_by" 1 3 [] (pureF C.g_joined_by) :=
  (glo_mk (O := []) (Oc := []) (W := []) (U := []) T.d_joined_by sc_joined_by (fun f cdv A outer s H E P0 hr => (cs_cons (cs_if (ct_cmp (od_eq hr.units) (ce_var 0) ce_str) (cs_one (cs_ret (ce_bin od_and (ce_var 1) (ce_var 2)))) cs_nil)
    (cs_cons (cs_if (ct_cmp (od_eq hr.units) (ce_var 0) ce_str) (cs_one (cs_ret (ce_bin od_xor (ce_var 1) (ce_var 2)))) cs_nil)
    (cs_one (cs_ret (ce_bin od_or (ce_var 1) (ce_var 2))))))) (fun _ _ _ _ _ _ us hl => match us, hl with | [_, _, _], _ => rfl)).pure
theorem ok_come_to (T : Txt K mg w) : Glo P w K mg base "come_to" 2 2 [] (pureF C.g_come_to) :=
  (glo_mk (O := []) (Oc := [2]) (W := [2]) (U := []) T.d_come_to sc_come_to (fun f cdv A outer s H E P0 hr => (cs_cons (cs_own (i := 2) sc_come_to.nd (ce_lst ca_nil))
    (cs_cons (cs_for (U' := []) (vs := [3, 4]) (passes_of rfl) rfl (ci_any (ce_var 0)) (cg_name 3 sc_come_to.nd) (cs_one (cs_if (ct_val (ce_isi isk_int T.z_isinstance T.z_int (ce_var 3) bo_isinstance bo_int)) (cs_one (cs_append (i := 2) (ce_dget (Nat.lt_of_le_of_lt (Nat.add_le_add_left (by decide) _) hr.units65) (ce_var 1) (ce_var 3)))) (cs_one (cs_if (ct_cmp (od_in hr.units65) (ce_var 3) ce_str) (cs_one (cs_append (i := 2) (ce_callT cd_int T.z_int bo_int (ca_cons (ce_var 3) ca_nil)))) (cs_one (cs_if (ct_cmp (od_eq hr.units) (ce_var 3) ce_str) (cs_one (cs_append (i := 2) (ce_bin od_sub ce_int (ce_pop (i := 2))))) (cs_cons (cs_asg (ce_pop (i := 2)) (cg_name 4 sc_come_to.nd))
    (cs_one (cs_append (i := 2) (ce_call (ok_joined_by T) out2_body (hr.mono (by decide)) (ca_cons (ce_var 3) (ca_cons (ce_pop (i := 2)) (ca_cons (ce_var 4) ca_nil))) (alen_cons (alen_cons (alen_cons alen_nil))))))))))))))
    (cs_one (cs_ret (ce_ix (ce_own 2) ce_int)))))) (fun _ _ _ _ _ _ us hl => match us, hl with | [_, _], _ => rfl)).pure
theorem ok_read_rule (T : Txt K mg w) : Glo P w K mg base "read_rule" 3 1 [] (pureF C.g_read_rule) :=
  (glo_mk (O := []) (Oc := [3]) (W := []) (U := []) T.d_read_rule sc_read_rule (fun f cdv A outer s H E P0 hr => (cs_cons (cs_if (ct_not (ct_val (ce_isi isk_str T.z_isinstance T.z_str (ce_var 0) bo_isinstance bo_str))) (cs_one (cs_raise T.e_NoRule rfl (L2N.takes_of rfl rfl rfl rfl))) cs_nil)
    (cs_cons (cs_asg (ce_call (ok_in_turn T) out2_body (hr.mono (by decide)) (ca_cons (ce_call (ok_parts_in T) out2_body (hr.mono (by decide)) (ca_cons (ce_var 0) ca_nil) (alen_cons alen_nil)) ca_nil) (alen_cons alen_nil)) (cg_name 1 sc_read_rule.nd))
    (cs_cons (cs_asg (ce_callT cd_tuple T.z_tuple bo_tuple (ca_cons (ce_setSort rfl T.z_sorted T.z_set (ce_comp rfl sc_read_rule.nd (ci_any (ce_var 1)) (blkOk_by (own := [("part", 5)]) (by kernel_rfl)) (fun P0 s H C cl fp => (cg_name 5 sc_read_rule.nd)) (fun s H C cl fp => (cts_one fun P0 => (ct_val (ce_isi isk_int T.z_isinstance T.z_int (ce_var 5) bo_isinstance bo_int)))) (fun P0 s H C cl fp => (ce_var 5)))) ca_nil)) (cg_name 2 sc_read_rule.nd))
    (cs_cons (cs_if (ct_cmp od_gt (ce_callB cd_len T.z_len bo_len (ca_cons (ce_var 2) ca_nil)) (ce_globI T.k_MOST_EARS)) (cs_one (cs_raise T.e_TooMany rfl (L2N.takes_of rfl rfl rfl rfl))) cs_nil)
    (cs_cons (cs_own (i := 3) sc_read_rule.nd (ce_lst ca_nil))
    (cs_cons (cs_for (U' := []) (vs := [4]) (passes_of rfl) rfl (ci_any (ce_call (ok_stands_of T) out2_body (hr.mono (by decide)) (ca_cons (ce_callB cd_len T.z_len bo_len (ca_cons (ce_var 2) ca_nil)) ca_nil) (alen_cons alen_nil))) (cg_name 4 sc_read_rule.nd) (cs_one (cs_append (i := 3) (ce_call (ok_come_to T) out2_body (hr.mono (by decide)) (ca_cons (ce_var 1) (ca_cons (ce_dictZip hr.units rfl T.z_dict T.z_zip (ca_cons (ce_var 2) (ca_cons (ce_var 4) ca_nil))) ca_nil)) (alen_cons (alen_cons alen_nil))))))
    (cs_one (cs_ret (ce_tup (ca_cons (ce_var 2) (ca_cons (ce_callT cd_tuple T.z_tuple bo_tuple (ca_cons (ce_own 3) ca_nil)) ca_nil)))))))))))) (fun _ _ _ _ _ _ us hl => match us, hl with | [_], _ => rfl)).pure
theorem ok__law_cell (T : Txt K mg w) : Glo P w K mg base "_law_cell" 1 2 [] (pureF C.g__law_cell) :=
  (glo_mk (O := []) (Oc := []) (W := []) (U := []) T.d__law_cell sc__law_cell (fun f cdv A outer s H E P0 hr => (cs_cons (cs_if (ct_cmp od_lt (ce_var 1) (ce_callB cd_len T.z_len bo_len (ca_cons (ce_var 0) ca_nil))) (cs_one (cs_ret (ce_ix (ce_var 0) (ce_var 1)))) cs_nil)
    (cs_one (cs_ret (ce_bin od_add (ce_bin od_mul ce_int (ce_var 1)) ce_int))))) (fun _ _ _ _ _ _ us hl => match us, hl with | [_, _], _ => rfl)).pure
theorem ok__law_box (T : Txt K mg w) : Glo P w K mg base "_law_box" 2 2 [] (pureF C.g__law_box_2) :=
  (glo_mk (O := []) (Oc := []) (W := []) (U := []) T.d__law_box sc__law_box (fun f cdv A outer s H E P0 hr => (cs_cons (cs_asg (ce_call (ok__law_cell T) out2_body (hr.mono (by decide)) (ca_cons (ce_var 0) (ca_cons (ce_var 1) ca_nil)) (alen_cons (alen_cons alen_nil))) (cg_name 2 sc__law_box.nd))
    (cs_cons (cs_if (ct_cmp (od_eq hr.units) (ce_bin od_mod (ce_var 2) ce_int) ce_int) (cs_one (cs_ret (ce_lst (ca_cons (ce_bin od_fdiv (ce_var 2) ce_int) ca_nil)))) cs_nil)
    (cs_cons (cs_asg ce_int (cg_name 3 sc__law_box.nd))
    (cs_cons (cs_asg (ce_bin od_mod (ce_var 2) ce_int) (cg_name 4 sc__law_box.nd))
    (cs_cons (cs_for (U' := []) (vs := [5]) (passes_of rfl) rfl (ci_range1 T.z_range (ca_cons ce_int ca_nil)) (cg_name 5 sc__law_box.nd) (cs_cons (cs_asg (ce_bin od_mod (ce_bin od_add (ce_bin od_add (ce_bin od_add (ce_bin od_mul (ce_var 4) ce_int) (ce_bin od_mul (ce_bin od_mul ce_int (ce_var 5)) (ce_var 5))) (ce_bin od_mul ce_int (ce_var 1))) ce_int) ce_int) (cg_name 4 sc__law_box.nd))
    (cs_one (cs_asg (ce_bin od_add (ce_bin od_mul (ce_var 3) ce_int) (ce_var 4)) (cg_name 3 sc__law_box.nd)))))
    (cs_one (cs_ret (ce_lst (ca_cons (ce_var 3) ca_nil)))))))))) (fun _ _ _ _ _ _ us hl => match us, hl with | [_, _], _ => rfl)).pure
theorem ok__law_take (T : Txt K mg w) : Glo P w K mg base "_law_take" 1 2 [0] C.g__law_take_2 :=
  (glo_mk (O := [0]) (Oc := [0]) (W := []) (U := [0]) T.d__law_take sc__law_take (fun f cdv A outer s H E P0 hr => (cs_cons (cs_asg (ce_bin od_mod (ce_ix (ce_own 0) ce_int) (ce_var 1)) (cg_name 2 sc__law_take.nd))
    (cs_cons (cs_setix (i := 0) (ce_bin od_fdiv (ce_ix (ce_own 0) ce_int) (ce_var 1)) ce_int)
    (cs_one (cs_ret (ce_var 2)))))) (fun _ _ _ _ _ _ us hl => match us, hl with | [_, _], _ => rfl))
theorem ok__law_readings (T : Txt K mg w) : Glo P w K mg base "_law_readings" 1 1 [] (pureF C.g__law_readings) :=
  (glo_mk (O := []) (Oc := []) (W := []) (U := []) T.d__law_readings sc__law_readings (fun f cdv A outer s H E P0 hr => (cs_cons (cs_asg (ce_lst (ca_cons (ce_tup ca_nil) ca_nil)) (cg_name 1 sc__law_readings.nd))
    (cs_cons (cs_for (U' := []) (vs := [2]) (passes_of rfl) rfl (ci_range1 T.z_range (ca_cons (ce_var 0) ca_nil)) (cg_name 2 sc__law_readings.nd) (cs_one (cs_asg (ce_bin od_add (ce_comp rfl sc__law_readings.nd (ci_any (ce_var 1)) (blkOk_by (own := [("row", 3)]) (by kernel_rfl)) (fun P0 s H C cl fp => (cg_name 3 sc__law_readings.nd)) (fun s H C cl fp => cts_nil) (fun P0 s H C cl fp => (ce_bin od_add (ce_var 3) (ce_tup (ca_cons ce_int ca_nil))))) (ce_comp rfl sc__law_readings.nd (ci_any (ce_var 1)) (blkOk_by (own := [("row", 3)]) (by kernel_rfl)) (fun P0 s H C cl fp => (cg_name 3 sc__law_readings.nd)) (fun s H C cl fp => cts_nil) (fun P0 s H C cl fp => (ce_bin od_add (ce_var 3) (ce_tup (ca_cons ce_int ca_nil)))))) (cg_name 1 sc__law_readings.nd))))
    (cs_one (cs_ret (ce_callB cd_sort T.z_sorted bo_sorted (ca_cons (ce_var 1) ca_nil))))))) (fun _ _ _ _ _ _ us hl => match us, hl with | [_], _ => rfl)).pure
theorem ok__law_bits (T : Txt K mg w) : Glo P w K mg base "_law_bits" 1 2 [] (pureF C.g__law_bits_2) :=
  (glo_mk (O := []) (Oc := []) (W := []) (U := []) T.d__law_bits sc__law_bits (fun f cdv A outer s H E P0 hr => (cs_cons (cs_if (ct_w (cw_or (ct_not (ct_val (ce_isi isk_tuple T.z_isinstance T.z_tuple (ce_var 0) bo_isinstance bo_tuple))) (cw_or1 (ct_cmp (od_ne hr.units) (ce_callB cd_len T.z_len bo_len (ca_cons (ce_var 0) ca_nil)) (ce_var 1))))) (cs_one (cs_ret ce_bl)) cs_nil)
    (cs_one (cs_ret (ce_callB (cd_all rfl) T.z_all bo_all (ca_cons (ce_comp rfl sc__law_bits.nd (ci_any (ce_var 0)) (blkOk_by (own := [("one", 2)]) (by kernel_rfl)) (fun P0 s H C cl fp => (cg_name 2 sc__law_bits.nd)) (fun s H C cl fp => cts_nil) (fun P0 s H C cl fp => (ce_and (ce_isi isk_int T.z_isinstance T.z_int (ce_var 2) bo_isinstance bo_int) (ce_and (ce_not (ce_isi isk_bool T.z_isinstance T.z_bool (ce_var 2) bo_isinstance bo_bool)) (ce_one (ce_cmp (od_in hr.units65) (ce_var 2) (ce_tup (ca_cons ce_int (ca_cons ce_int ca_nil))))))))) ca_nil)))))) (fun _ _ _ _ _ _ us hl => match us, hl with | [_, _], _ => rfl)).pure
theorem ok__law_whole (T : Txt K mg w) : Glo P w K mg base "_law_whole" 1 1 [] (pureF C.g__law_whole_2) :=
  (glo_mk (O := []) (Oc := []) (W := []) (U := []) T.d__law_whole sc__law_whole (fun f cdv A outer s H E P0 hr => (cs_one (cs_ret (ce_and (ce_isi isk_int T.z_isinstance T.z_int (ce_var 0) bo_isinstance bo_int) (ce_one (ce_not (ce_isi isk_bool T.z_isinstance T.z_bool (ce_var 0) bo_isinstance bo_bool))))))) (fun _ _ _ _ _ _ us hl => match us, hl with | [_], _ => rfl)).pure
theorem ok__law_odd (T : Txt K mg w) : Glo P w K mg base "_law_odd" 2 1 [0] C.g__law_odd_2 :=
  (glo_mk (O := [0]) (Oc := [0]) (W := [0]) (U := [0]) T.d__law_odd sc__law_odd (fun f cdv A outer s H E P0 hr => (cs_cons (cs_asg (ce_lst (ca_cons ce_non (ca_cons ce_bl (ca_cons ce_int (ca_cons ce_str (ca_cons ce_str (ca_cons (ce_tup ca_nil) (ca_cons (ce_lst ca_nil) (ca_cons ce_dic0 (ca_cons (ce_tup (ca_cons ce_int (ca_cons ce_int ca_nil))) (ca_cons (ce_lst (ca_cons (ce_tup (ca_cons ce_int ca_nil)) ca_nil)) (ca_cons (ce_tup (ca_cons (ce_tup ca_nil) ca_nil)) (ca_cons (ce_neg ce_int) (ca_cons (ce_tup (ca_cons ce_str (ca_cons (ce_tup ca_nil) ca_nil))) (ca_cons (ce_tup (ca_cons (ce_tup (ca_cons ce_int (ca_cons ce_int ca_nil))) (ca_cons (ce_tup (ca_cons ce_int ca_nil)) ca_nil))) (ca_cons ce_bl (ca_cons ce_str ca_nil))))))))))))))))) (cg_name 1 sc__law_odd.nd))
    (cs_one (cs_ret (ce_ix (ce_var 1) (ce_callIO (ok__law_take T) [(0, 0)] out2_body (hr.mono (by decide)) (ca_cons (ce_own 0) (ca_cons ce_int ca_nil)) (alen_cons (alen_cons alen_nil)))))))) (fun _ _ _ _ _ _ us hl => match us, hl with | [_], _ => rfl))
theorem okr__law_tree (T : Txt K mg w) : ∀ n : Nat, Glo P w K mg base "_law_tree" (2 + n) 3 [0] (C.r__law_tree n)
  | 0 => (glo_mk (k := 1) (O := [0]) (Oc := [0]) (W := [0]) (U := [0]) T.d__law_tree sc__law_tree (fun f cdv A outer s H E P0 hr => cs_stk) (fun _ _ _ _ _ _ us hl => match us, hl with | [_, _, _], _ => rfl))
  | n + 1 => have IH := okr__law_tree T n; (glo_mk (k := 2 + n) (O := [0]) (Oc := [0]) (W := [0]) (U := [0]) T.d__law_tree sc__law_tree (fun f cdv A outer s H E P0 hr => (cs_cons (cs_asg (ce_callIO (ok__law_take T) [(0, 0)] out2_body (hr.mono (by omega)) (ca_cons (ce_own 0) (ca_cons ce_int ca_nil)) (alen_cons (alen_cons alen_nil))) (cg_name 3 sc__law_tree.nd))
    (cs_cons (cs_if (ct_w (cw_or (ct_cmp (od_eq hr.units) (ce_var 2) ce_int) (cw_or1 (ct_cmp od_lt (ce_var 3) ce_int)))) (cs_cons (cs_if (ct_w (cw_or (ct_cmp (od_eq hr.units) (ce_var 1) (ce_lst ca_nil)) (cw_or1 (ct_cmp (od_eq hr.units) (ce_callIO (ok__law_take T) [(0, 0)] out2_body (hr.mono (by omega)) (ca_cons (ce_own 0) (ca_cons ce_int ca_nil)) (alen_cons (alen_cons alen_nil))) ce_int)))) (cs_one (cs_ret (ce_tup (ca_cons (ce_callT cd_str T.z_str bo_str (ca_cons (ce_callIO (ok__law_take T) [(0, 0)] out2_body (hr.mono (by omega)) (ca_cons (ce_own 0) (ca_cons ce_int ca_nil)) (alen_cons (alen_cons alen_nil))) ca_nil)) ca_nil)))) cs_nil)
    (cs_one (cs_ret (ce_tup (ca_cons ce_str (ca_cons (ce_ix (ce_var 1) (ce_callIO (ok__law_take T) [(0, 0)] out2_body (hr.mono (by omega)) (ca_cons (ce_own 0) (ca_cons (ce_callB cd_len T.z_len bo_len (ca_cons (ce_var 1) ca_nil)) ca_nil)) (alen_cons (alen_cons alen_nil)))) ca_nil)))))) cs_nil)
    (cs_cons (cs_if (ct_cmp od_lt (ce_var 3) ce_int) (cs_one (cs_ret (ce_tup (ca_cons ce_str (ca_cons (ce_callIO IH [(0, 0)] out2_body hr (ca_cons (ce_own 0) (ca_cons (ce_var 1) (ca_cons (ce_bin od_sub (ce_var 2) ce_int) ca_nil))) (alen_cons (alen_cons (alen_cons alen_nil)))) ca_nil))))) cs_nil)
    (cs_cons (cs_asg (ce_ix ce_str (ce_callIO (ok__law_take T) [(0, 0)] out2_body (hr.mono (by omega)) (ca_cons (ce_own 0) (ca_cons ce_int ca_nil)) (alen_cons (alen_cons alen_nil)))) (cg_name 4 sc__law_tree.nd))
    (cs_one (cs_ret (ce_tup (ca_cons (ce_var 4) (ca_cons (ce_callIO IH [(0, 0)] out2_body hr (ca_cons (ce_own 0) (ca_cons (ce_var 1) (ca_cons (ce_bin od_sub (ce_var 2) ce_int) ca_nil))) (alen_cons (alen_cons (alen_cons alen_nil)))) (ca_cons (ce_callIO IH [(0, 0)] out2_body hr (ca_cons (ce_own 0) (ca_cons (ce_var 1) (ca_cons (ce_bin od_sub (ce_var 2) ce_int) ca_nil))) (alen_cons (alen_cons (alen_cons alen_nil)))) ca_nil))))))))))) (fun _ _ _ _ _ _ us hl => match us, hl with | [_, _, _], _ => rfl))
theorem ok__law_tree (T : Txt K mg w) : Glo P w K mg base "_law_tree" (42) 3 [0] (C.g__law_tree) := okr__law_tree T 40
theorem okr__law_worth (T : Txt K mg w) : ∀ n : Nat, Glo P w K mg base "_law_worth" (1 + n) 2 [] ((pureF (C.r__law_worth n)))
  | 0 => (glo_mk (k := 0) (O := []) (Oc := []) (W := []) (U := []) T.d__law_worth sc__law_worth (fun f cdv A outer s H E P0 hr => cs_stk) (fun _ _ _ _ _ _ us hl => match us, hl with | [_, _], _ => rfl)).pure
  | n + 1 => have IH := okr__law_worth T n; (glo_mk (k := 1 + n) (O := []) (Oc := []) (W := []) (U := []) T.d__law_worth sc__law_worth (fun f cdv A outer s H E P0 hr => (cs_cons (cs_if (ct_cmp (od_eq hr.units) (ce_ix (ce_var 0) ce_int) ce_str) (cs_one (cs_ret (ce_dget (Nat.lt_of_le_of_lt (Nat.add_le_add_left (by decide) _) hr.units65) (ce_var 1) (ce_ix (ce_var 0) ce_int)))) cs_nil)
    (cs_cons (cs_if (ct_cmp (od_in hr.units65) (ce_ix (ce_var 0) ce_int) (ce_lst (ca_cons ce_str (ca_cons ce_str ca_nil)))) (cs_one (cs_ret (ce_callT cd_int T.z_int bo_int (ca_cons (ce_ix (ce_var 0) ce_int) ca_nil)))) cs_nil)
    (cs_cons (cs_asg (ce_call IH out2_body hr (ca_cons (ce_ix (ce_var 0) ce_int) (ca_cons (ce_var 1) ca_nil)) (alen_cons (alen_cons alen_nil))) (cg_name 2 sc__law_worth.nd))
    (cs_cons (cs_if (ct_cmp (od_eq hr.units) (ce_ix (ce_var 0) ce_int) ce_str) (cs_one (cs_ret (ce_bin od_sub ce_int (ce_var 2)))) cs_nil)
    (cs_cons (cs_asg (ce_call IH out2_body hr (ca_cons (ce_ix (ce_var 0) ce_int) (ca_cons (ce_var 1) ca_nil)) (alen_cons (alen_cons alen_nil))) (cg_name 3 sc__law_worth.nd))
    (cs_cons (cs_if (ct_cmp (od_eq hr.units) (ce_ix (ce_var 0) ce_int) ce_str) (cs_one (cs_ret (ce_callB (cd_min rfl) T.z_min bo_min (ca_cons (ce_var 2) (ca_cons (ce_var 3) ca_nil))))) cs_nil)
    (cs_cons (cs_if (ct_cmp (od_eq hr.units) (ce_ix (ce_var 0) ce_int) ce_str) (cs_one (cs_ret (ce_callB (cd_max rfl) T.z_max bo_max (ca_cons (ce_var 2) (ca_cons (ce_var 3) ca_nil))))) cs_nil)
    (cs_one (cs_ret (ce_callT cd_int T.z_int bo_int (ca_cons (ce_cmp (od_ne hr.units) (ce_var 2) (ce_var 3)) ca_nil)))))))))))) (fun _ _ _ _ _ _ us hl => match us, hl with | [_, _], _ => rfl)).pure
theorem ok__law_worth (T : Txt K mg w) : Glo P w K mg base "_law_worth" (41) 2 [] ((pureF C.g__law_worth)) := okr__law_worth T 40
theorem okr__law_text (T : Txt K mg w) : ∀ n : Nat, Glo P w K mg base "_law_text" (2 + n) 3 [0] (C.r__law_text_2 n)
  | 0 => (glo_mk (k := 1) (O := [0]) (Oc := [0]) (W := [0]) (U := [0]) T.d__law_text sc__law_text (fun f cdv A outer s H E P0 hr => cs_stk) (fun _ _ _ _ _ _ us hl => match us, hl with | [_, _, _], _ => rfl))
  | n + 1 => have IH := okr__law_text T n; (glo_mk (k := 2 + n) (O := [0]) (Oc := [0]) (W := [0]) (U := [0]) T.d__law_text sc__law_text (fun f cdv A outer s H E P0 hr => (cs_cons (cs_asg (ce_bin od_mul ce_str (ce_ix (ce_lst (ca_cons ce_int (ca_cons ce_int (ca_cons ce_int (ca_cons ce_int (ca_cons ce_int ca_nil)))))) (ce_callIO (ok__law_take T) [(0, 0)] out2_body (hr.mono (by omega)) (ca_cons (ce_own 0) (ca_cons ce_int ca_nil)) (alen_cons (alen_cons alen_nil))))) (cg_name 3 sc__law_text.nd))
    (cs_cons (cs_if (ct_cmp (od_eq hr.units) (ce_ix (ce_var 1) ce_int) ce_str) (cs_one (cs_ret (ce_bin od_add (ce_bin od_add (ce_var 3) ce_str) (ce_callT cd_str T.z_str bo_str (ca_cons (ce_ix (ce_var 1) ce_int) ca_nil))))) cs_nil)
    (cs_cons (cs_if (ct_cmp (od_in hr.units65) (ce_ix (ce_var 1) ce_int) (ce_lst (ca_cons ce_str (ca_cons ce_str ca_nil)))) (cs_one (cs_ret (ce_bin od_add (ce_var 3) (ce_ix (ce_var 1) ce_int)))) cs_nil)
    (cs_cons (cs_asg (ce_index hr.units65 ce_str (ce_ix (ce_var 1) ce_int)) (cg_name 4 sc__law_text.nd))
    (cs_cons (cs_if (ct_w (cw_or (ct_cmp od_lt (ce_var 4) (ce_var 2)) (cw_or1 (ct_w (cw_and (ct_cmp od_ge (ce_var 2) ce_int) (cw_and1 (ct_cmp (od_eq hr.units) (ce_callIO (ok__law_take T) [(0, 0)] out2_body (hr.mono (by omega)) (ca_cons (ce_own 0) (ca_cons ce_int ca_nil)) (alen_cons (alen_cons alen_nil))) ce_int))))))) (cs_one (cs_ret (ce_bin od_add (ce_bin od_add (ce_bin od_add (ce_bin od_add (ce_var 3) ce_str) (ce_callIO IH [(0, 0)] out2_body hr (ca_cons (ce_own 0) (ca_cons (ce_var 1) (ca_cons (ce_neg ce_int) ca_nil))) (alen_cons (alen_cons (alen_cons alen_nil))))) (ce_var 3)) ce_str))) cs_nil)
    (cs_cons (cs_if (ct_cmp (od_eq hr.units) (ce_ix (ce_var 1) ce_int) ce_str) (cs_one (cs_ret (ce_bin od_add (ce_bin od_add (ce_var 3) ce_str) (ce_callIO IH [(0, 0)] out2_body hr (ca_cons (ce_own 0) (ca_cons (ce_ix (ce_var 1) ce_int) (ca_cons ce_int ca_nil))) (alen_cons (alen_cons (alen_cons alen_nil))))))) cs_nil)
    (cs_one (cs_ret (ce_bin od_add (ce_bin od_add (ce_bin od_add (ce_callIO IH [(0, 0)] out2_body hr (ca_cons (ce_own 0) (ca_cons (ce_ix (ce_var 1) ce_int) (ca_cons (ce_var 4) ca_nil))) (alen_cons (alen_cons (alen_cons alen_nil)))) (ce_var 3)) (ce_ix (ce_var 1) ce_int)) (ce_callIO IH [(0, 0)] out2_body hr (ca_cons (ce_own 0) (ca_cons (ce_ix (ce_var 1) ce_int) (ca_cons (ce_bin od_add (ce_var 4) ce_int) ca_nil))) (alen_cons (alen_cons (alen_cons alen_nil)))))))))))))) (fun _ _ _ _ _ _ us hl => match us, hl with | [_, _, _], _ => rfl))
theorem ok__law_text (T : Txt K mg w) : Glo P w K mg base "_law_text" (42) 3 [0] (C.g__law_text_2) := okr__law_text T 40
theorem okr__law_named (T : Txt K mg w) : ∀ n : Nat, Glo P w K mg base "_law_named" (1 + n) 1 [] ((pureF (C.r__law_named n)))
  | 0 => (glo_mk (k := 0) (O := []) (Oc := []) (W := []) (U := []) T.d__law_named sc__law_named (fun f cdv A outer s H E P0 hr => cs_stk) (fun _ _ _ _ _ _ us hl => match us, hl with | [_], _ => rfl)).pure
  | n + 1 => have IH := okr__law_named T n; (glo_mk (k := 1 + n) (O := []) (Oc := []) (W := []) (U := []) T.d__law_named sc__law_named (fun f cdv A outer s H E P0 hr => (cs_cons (cs_if (ct_cmp (od_eq hr.units) (ce_ix (ce_var 0) ce_int) ce_str) (cs_one (cs_ret (ce_lst (ca_cons (ce_ix (ce_var 0) ce_int) ca_nil)))) cs_nil)
    (cs_cons (cs_asg (ce_lst ca_nil) (cg_name 1 sc__law_named.nd))
    (cs_cons (cs_for (U' := []) (vs := [2]) (passes_of rfl) rfl (ci_any (ce_slice (ce_var 0) (co_some ce_int) co_none)) (cg_name 2 sc__law_named.nd) (cs_one (cs_asg (ce_bin od_add (ce_var 1) (ce_call IH out2_body hr (ca_cons (ce_var 2) ca_nil) (alen_cons alen_nil))) (cg_name 1 sc__law_named.nd))))
    (cs_one (cs_ret (ce_setSort rfl T.z_sorted T.z_set (ce_var 1)))))))) (fun _ _ _ _ _ _ us hl => match us, hl with | [_], _ => rfl)).pure
theorem ok__law_named (T : Txt K mg w) : Glo P w K mg base "_law_named" (41) 1 [] ((pureF C.g__law_named)) := okr__law_named T 40
theorem ok__law_due (T : Txt K mg w) : Glo P w K mg base "_law_due" 42 2 [] (pureF C.g__law_due_13) :=
  (glo_mk (O := []) (Oc := [2]) (W := []) (U := []) T.d__law_due sc__law_due (fun f cdv A outer s H E P0 hr => (cs_cons (cs_own (i := 2) sc__law_due.nd (ce_lst ca_nil))
    (cs_cons (cs_for (U' := []) (vs := [3]) (passes_of rfl) rfl (ci_any (ce_call (ok__law_readings T) out2_body (hr.mono (by decide)) (ca_cons (ce_callB cd_len T.z_len bo_len (ca_cons (ce_var 1) ca_nil)) ca_nil) (alen_cons alen_nil))) (cg_name 3 sc__law_due.nd) (cs_one (cs_append (i := 2) (ce_call (ok__law_worth T) out2_body (hr.mono (by decide)) (ca_cons (ce_var 0) (ca_cons (ce_callT (cd_dictP rfl) T.z_dict bo_dict (ca_cons (ce_comp rfl sc__law_due.nd (ci_range1 T.z_range (ca_cons (ce_callB cd_len T.z_len bo_len (ca_cons (ce_var 1) ca_nil)) ca_nil)) (blkOk_by (own := [("k", 4)]) (by kernel_rfl)) (fun P0 s H C cl fp => (cg_name 4 sc__law_due.nd)) (fun s H C cl fp => cts_nil) (fun P0 s H C cl fp => (ce_tup (ca_cons (ce_ix (ce_var 1) (ce_var 4)) (ca_cons (ce_ix (ce_var 3) (ce_var 4)) ca_nil))))) ca_nil)) ca_nil)) (alen_cons (alen_cons alen_nil))))))
    (cs_one (cs_ret (ce_tup (ca_cons (ce_callT cd_tuple T.z_tuple bo_tuple (ca_cons (ce_var 1) ca_nil)) (ca_cons (ce_callT cd_tuple T.z_tuple bo_tuple (ca_cons (ce_own 2) ca_nil)) ca_nil)))))))) (fun _ _ _ _ _ _ us hl => match us, hl with | [_, _], _ => rfl)).pure
theorem ok__law_is_rule (T : Txt K mg w) : Glo P w K mg base "_law_is_rule" 2 2 [] (pureF C.g__law_is_rule_2) :=
  (glo_mk (O := []) (Oc := []) (W := []) (U := []) T.d__law_is_rule sc__law_is_rule (fun f cdv A outer s H E P0 hr => (cs_cons (cs_if (ct_w (cw_or (ct_not (ct_val (ce_isi isk_tuple T.z_isinstance T.z_tuple (ce_var 0) bo_isinstance bo_tuple))) (cw_or (ct_cmp (od_ne hr.units) (ce_callB cd_len T.z_len bo_len (ca_cons (ce_var 0) ca_nil)) ce_int) (cw_or1 (ct_not (ct_val (ce_call (ok__law_bits T) out2_body (hr.mono (by decide)) (ca_cons (ce_ix (ce_var 0) ce_int) (ca_cons (ce_callB cd_len T.z_len bo_len (ca_cons (ce_ix (ce_var 1) ce_int) ca_nil)) ca_nil)) (alen_cons (alen_cons alen_nil))))))))) (cs_one (cs_ret ce_bl)) cs_nil)
    (cs_cons (cs_if (ct_w (cw_or (ct_not (ct_val (ce_isi isk_tuple T.z_isinstance T.z_tuple (ce_ix (ce_var 0) ce_int) bo_isinstance bo_tuple))) (cw_or1 (ct_not (ct_val (ce_callB (cd_all rfl) T.z_all bo_all (ca_cons (ce_comp rfl sc__law_is_rule.nd (ci_any (ce_ix (ce_var 0) ce_int)) (blkOk_by (own := [("ear", 2)]) (by kernel_rfl)) (fun P0 s H C cl fp => (cg_name 2 sc__law_is_rule.nd)) (fun s H C cl fp => cts_nil) (fun P0 s H C cl fp => (ce_call (ok__law_whole T) Out2.blk (hr.mono (by decide)) (ca_cons (ce_var 2) ca_nil) (alen_cons alen_nil)))) ca_nil))))))) (cs_one (cs_ret ce_bl)) cs_nil)
    (cs_one (cs_ret (ce_cmp (od_eq hr.units) (ce_var 0) (ce_var 1))))))) (fun _ _ _ _ _ _ us hl => match us, hl with | [_, _], _ => rfl)).pure
theorem okz__law_kind (T : Txt K mg w) : GloZ P w K mg base "_law_kind" 1 "e" ["NoRule", "TooMany"] kindW :=
  gloZ_mk (m := kindM) T.d__law_kind sc__law_kind (fun cn C f cdv A outer s H E p hc hC hz hf hot hr => (cz_cons (cz_asg (zz_lst (zs_cons (cz_isi (T.zz_zkind cn hc) T.is_zkind_NoRule hc hC hz hf List.mem_cons_self T.z_isinstance) (zs_cons (cz_isi (T.zz_zkind cn hc) T.is_zkind_TooMany hc hC hz hf List.mem_cons_self T.z_isinstance) (zs_cons (cz_isi (T.zz_zkind cn hc) T.is_zkind_NoOrder hc hC hz hf List.mem_cons_self T.z_isinstance) (zs_cons (cz_isi (T.zz_zkind cn hc) T.is_zkind_NoStand hc hC hz hf List.mem_cons_self T.z_isinstance) zs_nil))))) (cg_name 1 sc__law_kind.nd))
    (cz_cons (cz_asg (zz_bin od_add (ce_var 1) (zz_lst (zs_cons (cz_isi (T.zz_zkind cn hc) T.is_zkind_NoSeen hc hC hz hf List.mem_cons_self T.z_isinstance) (zs_cons (cz_isi (T.zz_zkind cn hc) T.is_zkind_NoSwitch hc hC hz hf List.mem_cons_self T.z_isinstance) (zs_cons (cz_isi (T.zz_zkind cn hc) T.is_zkind_NoText hc hC hz hf List.mem_cons_self T.z_isinstance) (zs_cons (cz_isi (T.zz_zkind cn hc) T.is_zkind_NoRow hc hC hz hf List.mem_cons_self T.z_isinstance) zs_nil)))))) (cg_name 1 sc__law_kind.nd))
    (cz_cons (cz_asg (zz_bin od_add (ce_var 1) (zz_lst (zs_cons (cz_isi (T.zz_zkind cn hc) T.is_zkind_NoFrame hc hC hz hf List.mem_cons_self T.z_isinstance) (zs_cons (cz_isi (T.zz_zkind cn hc) T.is_zkind_NoDen hc hC hz hf List.mem_cons_self T.z_isinstance) (zs_cons (cz_isi (T.zz_zkind cn hc) T.is_zkind_NoHolds hc hC hz hf List.mem_cons_self T.z_isinstance) (zs_cons (cz_isi (T.zz_zkind cn hc) T.is_zkind_Hears hc hC hz hf List.mem_cons_self T.z_isinstance) zs_nil)))))) (cg_name 1 sc__law_kind.nd))
    (cz_cons (zs_if (zt_or (zt_not (zt_isi (cz_isv (T.zz_zkind cn hc) T.v_zkind hc hC hz hf List.mem_cons_self T.z_isinstance))) (ct_cmp (od_ne hr.units) (ce_callB (cd_sumH hot) T.z_sum bo_sum (ca_cons (ce_intsH hot sc__law_kind.nd (blkOk_by (own := [("kind", 3)]) (by kernel_rfl)) (fun s H C cl fp => pg_name sc__law_kind.nd rfl (Or.inl rfl)) (fun s H C cl fp => pe_callTy call_int1 rfl T.z_int bo_int (pa_cons (pe_var rfl (Or.inl rfl)) pa_nil))) ca_nil)) ce_int)) (cs_one (cs_ret ce_str)))
    (cz_cons (cz_of (cs_asgU (ce_lst (ca_cons ce_str (ca_cons ce_str (ca_cons ce_str (ca_cons ce_str (ca_cons ce_str (ca_cons ce_str (ca_cons ce_str (ca_cons ce_str (ca_cons ce_str (ca_cons ce_str (ca_cons ce_str (ca_cons ce_str ca_nil))))))))))))) (cg_name 2 sc__law_kind.nd)))
    (cz_one (cz_of (cs_ret (ce_ix (ce_var 2) (ce_index hr.units65 (ce_var 1) ce_bl))))))))))) (fun cn hc => kind_all cn (mem_sub hc)) (fun _ _ _ _ _ _ us hl => match us, hl with | [_], _ => rfl)

theorem okr__law_part (T : Txt K mg w) : ∀ n : Nat, (Glo P w K mg base "_law_part" (1 + n) 3 [] (pureF (C.r__law_part n).1)) ∧ (Glo P w K mg base "_law_factor" (1 + n) 2 [] (pureF (C.r__law_part n).2))
  | 0 => ⟨((glo_mk (k := 0) (O := []) (Oc := []) (W := []) (U := []) T.d__law_part sc__law_part (fun f cdv A outer s H E P0 hr => cs_stk) (fun _ _ _ _ _ _ us hl => match us, hl with | [_, _, _], _ => rfl)).pure), ((glo_mk (k := 0) (O := []) (Oc := []) (W := []) (U := []) T.d__law_factor sc__law_factor (fun f cdv A outer s H E P0 hr => cs_stk) (fun _ _ _ _ _ _ us hl => match us, hl with | [_, _], _ => rfl)).pure)⟩
  | n + 1 => have IH := (okr__law_part T n).1; have IH2 := (okr__law_part T n).2; ⟨((glo_mk (k := 1 + n) (O := []) (Oc := []) (W := []) (U := []) T.d__law_part sc__law_part (fun f cdv A outer s H E P0 hr => (cs_cons (cs_while (vs := []) (passes_of rfl) (ct_w (cw_and (ct_cmp od_lt (ce_var 1) (ce_callB cd_len T.z_len bo_len (ca_cons (ce_var 0) ca_nil))) (cw_and1 (ct_cmp (od_eq hr.units) (ce_ix (ce_var 0) (ce_var 1)) ce_str)))) (cs_one (cs_asg (ce_bin od_add (ce_var 1) ce_int) (cg_name 1 sc__law_part.nd))))
    (cs_cons (cs_if (ct_cmp (od_eq hr.units) (ce_var 2) ce_int) (cs_one (cs_ret (ce_call IH2 out2_body hr (ca_cons (ce_var 0) (ca_cons (ce_var 1) ca_nil)) (alen_cons (alen_cons alen_nil))))) cs_nil)
    (cs_cons (cs_asg (ce_call IH out2_body hr (ca_cons (ce_var 0) (ca_cons (ce_var 1) (ca_cons (ce_bin od_add (ce_var 2) ce_int) ca_nil))) (alen_cons (alen_cons (alen_cons alen_nil)))) (cg_tup [3, 1] rfl (cgs_cons 3 sc__law_part.nd (cgs_cons 1 sc__law_part.nd cgs_nil))))
    (cs_cons (cs_while (vs := [4]) (passes_of rfl) (ct_cmp od_isnot (ce_var 3) ce_non) (cs_cons (cs_while (vs := []) (passes_of rfl) (ct_w (cw_and (ct_cmp od_lt (ce_var 1) (ce_callB cd_len T.z_len bo_len (ca_cons (ce_var 0) ca_nil))) (cw_and1 (ct_cmp (od_eq hr.units) (ce_ix (ce_var 0) (ce_var 1)) ce_str)))) (cs_one (cs_asg (ce_bin od_add (ce_var 1) ce_int) (cg_name 1 sc__law_part.nd))))
    (cs_cons (cs_if (ct_w (cw_or (ct_cmp (od_eq hr.units) (ce_var 1) (ce_callB cd_len T.z_len bo_len (ca_cons (ce_var 0) ca_nil))) (cw_or1 (ct_cmp (od_ne hr.units) (ce_ix (ce_var 0) (ce_var 1)) (ce_ix ce_str (ce_var 2)))))) (cs_one (cs_ret (ce_tup (ca_cons (ce_var 3) (ca_cons (ce_var 1) ca_nil))))) cs_nil)
    (cs_cons (cs_asg (ce_call IH out2_body hr (ca_cons (ce_var 0) (ca_cons (ce_bin od_add (ce_var 1) ce_int) (ca_cons (ce_bin od_add (ce_var 2) ce_int) ca_nil))) (alen_cons (alen_cons (alen_cons alen_nil)))) (cg_tup [4, 1] rfl (cgs_cons 4 sc__law_part.nd (cgs_cons 1 sc__law_part.nd cgs_nil))))
    (cs_one (cs_asg (ce_if (ct_cmp od_is (ce_var 4) ce_non) ce_non (ce_tup (ca_cons (ce_ix ce_str (ce_var 2)) (ca_cons (ce_var 3) (ca_cons (ce_var 4) ca_nil))))) (cg_name 3 sc__law_part.nd)))))))
    (cs_one (cs_ret (ce_tup (ca_cons ce_non (ca_cons (ce_var 1) ca_nil)))))))))) (fun _ _ _ _ _ _ us hl => match us, hl with | [_, _, _], _ => rfl)).pure),
  ((glo_mk (k := 1 + n) (O := []) (Oc := []) (W := []) (U := []) T.d__law_factor sc__law_factor (fun f cdv A outer s H E P0 hr => (cs_cons (cs_asg (ce_slice (ce_var 0) (co_some (ce_var 1)) (co_some (ce_bin od_add (ce_var 1) ce_int))) (cg_name 2 sc__law_factor.nd))
    (cs_cons (cs_if (ct_w (cw_and (ct_cmp (od_eq hr.units) (ce_var 2) ce_str) (cw_and (ct_cmp (od_ne hr.units) (ce_slice (ce_var 0) (co_some (ce_bin od_add (ce_var 1) ce_int)) (co_some (ce_bin od_add (ce_var 1) ce_int))) ce_str) (cw_and1 (ct_cmp (od_in hr.units65) (ce_ix (ce_var 0) (ce_bin od_add (ce_var 1) ce_int)) ce_str))))) (cs_one (cs_ret (ce_tup (ca_cons (ce_tup (ca_cons ce_str (ca_cons (ce_callT cd_int T.z_int bo_int (ca_cons (ce_ix (ce_var 0) (ce_bin od_add (ce_var 1) ce_int)) ca_nil)) ca_nil))) (ca_cons (ce_bin od_add (ce_var 1) ce_int) ca_nil))))) cs_nil)
    (cs_cons (cs_if (ct_w (cw_and (ct_cmp (od_ne hr.units) (ce_var 2) ce_str) (cw_and1 (ct_cmp (od_in hr.units65) (ce_var 2) ce_str)))) (cs_one (cs_ret (ce_tup (ca_cons (ce_tup (ca_cons (ce_var 2) ca_nil)) (ca_cons (ce_bin od_add (ce_var 1) ce_int) ca_nil))))) cs_nil)
    (cs_cons (cs_if (ct_cmp (od_eq hr.units) (ce_var 2) ce_str) (cs_cons (cs_asg (ce_call IH out2_body hr (ca_cons (ce_var 0) (ca_cons (ce_bin od_add (ce_var 1) ce_int) (ca_cons ce_int ca_nil))) (alen_cons (alen_cons (alen_cons alen_nil)))) (cg_tup [3, 1] rfl (cgs_cons 3 sc__law_factor.nd (cgs_cons 1 sc__law_factor.nd cgs_nil))))
    (cs_one (cs_ret (ce_tup (ca_cons (ce_if (ct_cmp od_is (ce_var 3) ce_non) ce_non (ce_tup (ca_cons ce_str (ca_cons (ce_var 3) ca_nil)))) (ca_cons (ce_var 1) ca_nil)))))) cs_nil)
    (cs_cons (cs_if (ct_cmp (od_ne hr.units) (ce_var 2) ce_str) (cs_one (cs_ret (ce_tup (ca_cons ce_non (ca_cons (ce_var 1) ca_nil))))) cs_nil)
    (cs_cons (cs_asg (ce_call IH out2_body hr (ca_cons (ce_var 0) (ca_cons (ce_bin od_add (ce_var 1) ce_int) (ca_cons ce_int ca_nil))) (alen_cons (alen_cons (alen_cons alen_nil)))) (cg_tup [3, 1] rfl (cgs_cons 3 sc__law_factor.nd (cgs_cons 1 sc__law_factor.nd cgs_nil))))
    (cs_cons (cs_while (vs := []) (passes_of rfl) (ct_w (cw_and (ct_cmp od_lt (ce_var 1) (ce_callB cd_len T.z_len bo_len (ca_cons (ce_var 0) ca_nil))) (cw_and1 (ct_cmp (od_eq hr.units) (ce_ix (ce_var 0) (ce_var 1)) ce_str)))) (cs_one (cs_asg (ce_bin od_add (ce_var 1) ce_int) (cg_name 1 sc__law_factor.nd))))
    (cs_cons (cs_if (ct_w (cw_or (ct_cmp od_is (ce_var 3) ce_non) (cw_or1 (ct_cmp (od_ne hr.units) (ce_slice (ce_var 0) (co_some (ce_var 1)) (co_some (ce_bin od_add (ce_var 1) ce_int))) ce_str)))) (cs_one (cs_ret (ce_tup (ca_cons ce_non (ca_cons (ce_var 1) ca_nil))))) cs_nil)
    (cs_one (cs_ret (ce_tup (ca_cons (ce_var 3) (ca_cons (ce_bin od_add (ce_var 1) ce_int) ca_nil)))))))))))))) (fun _ _ _ _ _ _ us hl => match us, hl with | [_, _], _ => rfl)).pure)⟩
theorem ok__law_part (T : Txt K mg w) : Glo P w K mg base "_law_part" 166 3 [] (pureF C.g__law_part) := (okr__law_part T 165).1
theorem ok__law_read (T : Txt K mg w) : Glo P w K mg base "_law_read" 167 1 [] (pureF C.g__law_read) :=
  (glo_mk (O := []) (Oc := []) (W := []) (U := []) T.d__law_read sc__law_read (fun f cdv A outer s H E P0 hr => (cs_cons (cs_asg (ce_call (ok__law_part T) out2_body (hr.mono (by decide)) (ca_cons (ce_var 0) (ca_cons ce_int (ca_cons ce_int ca_nil))) (alen_cons (alen_cons (alen_cons alen_nil)))) (cg_tup [1, 2] rfl (cgs_cons 1 sc__law_read.nd (cgs_cons 2 sc__law_read.nd cgs_nil))))
    (cs_cons (cs_if (ct_w (cw_or (ct_cmp od_is (ce_var 1) ce_non) (cw_or1 (ct_cmp (od_ne hr.units) (ce_strip (ce_slice (ce_var 0) (co_some (ce_var 2)) co_none) ce_str) ce_str)))) (cs_one (cs_ret ce_non)) cs_nil)
    (cs_one (cs_ret (ce_var 1)))))) (fun _ _ _ _ _ _ us hl => match us, hl with | [_], _ => rfl)).pure
theorem ok__law_spoilt (T : Txt K mg w) : Glo P w K mg base "_law_spoilt" 2 2 [0] C.g__law_spoilt_4 :=
  (glo_mk (O := [0]) (Oc := [0]) (W := [0]) (U := [0]) T.d__law_spoilt sc__law_spoilt (fun f cdv A outer s H E P0 hr => (cs_cons (cs_asg ce_str (cg_name 2 sc__law_spoilt.nd))
    (cs_cons (cs_asg (ce_callIO (ok__law_take T) [(0, 0)] out2_body (hr.mono (by decide)) (ca_cons (ce_own 0) (ca_cons (ce_bin od_add (ce_callB cd_len T.z_len bo_len (ca_cons (ce_var 1) ca_nil)) ce_int) ca_nil)) (alen_cons (alen_cons alen_nil))) (cg_name 3 sc__law_spoilt.nd))
    (cs_cons (cs_asg (ce_callIO (ok__law_take T) [(0, 0)] out2_body (hr.mono (by decide)) (ca_cons (ce_own 0) (ca_cons ce_int ca_nil)) (alen_cons (alen_cons alen_nil))) (cg_name 4 sc__law_spoilt.nd))
    (cs_cons (cs_if (ct_cmp (od_eq hr.units) (ce_var 4) ce_int) (cs_one (cs_ret (ce_bin od_add (ce_slice (ce_var 1) co_none (co_some (ce_var 3))) (ce_slice (ce_var 1) (co_some (ce_bin od_add (ce_var 3) ce_int)) co_none)))) cs_nil)
    (cs_cons (cs_if (ct_cmp (od_eq hr.units) (ce_var 4) ce_int) (cs_one (cs_ret (ce_bin od_add (ce_bin od_add (ce_slice (ce_var 1) co_none (co_some (ce_var 3))) (ce_ix (ce_var 2) (ce_callIO (ok__law_take T) [(0, 0)] out2_body (hr.mono (by decide)) (ca_cons (ce_own 0) (ca_cons ce_int ca_nil)) (alen_cons (alen_cons alen_nil))))) (ce_slice (ce_var 1) (co_some (ce_var 3)) co_none)))) cs_nil)
    (cs_cons (cs_if (ct_cmp (od_eq hr.units) (ce_var 4) ce_int) (cs_one (cs_ret (ce_bin od_add (ce_bin od_add (ce_slice (ce_var 1) co_none (co_some (ce_var 3))) (ce_ix (ce_var 2) (ce_callIO (ok__law_take T) [(0, 0)] out2_body (hr.mono (by decide)) (ca_cons (ce_own 0) (ca_cons ce_int ca_nil)) (alen_cons (alen_cons alen_nil))))) (ce_slice (ce_var 1) (co_some (ce_bin od_add (ce_var 3) ce_int)) co_none)))) cs_nil)
    (cs_cons (cs_if (ct_cmp (od_eq hr.units) (ce_var 4) ce_int) (cs_one (cs_ret (ce_bin od_add (ce_bin od_add (ce_slice (ce_var 1) co_none (co_some (ce_var 3))) (ce_revS (ce_slice (ce_var 1) (co_some (ce_var 3)) (co_some (ce_bin od_add (ce_var 3) ce_int))) (co_some (ce_neg ce_int)))) (ce_slice (ce_var 1) (co_some (ce_bin od_add (ce_var 3) ce_int)) co_none)))) cs_nil)
    (cs_one (cs_ret (ce_var 1))))))))))) (fun _ _ _ _ _ _ us hl => match us, hl with | [_, _], _ => rfl))
theorem ok__law_asked (T : Txt K mg w) : Glo P w K mg base "_law_asked" 4 1 [] (pureF C.g__law_asked_11) :=
  (glo_mk (O := []) (Oc := []) (W := []) (U := []) T.d__law_asked sc__law_asked (fun f cdv A outer s H E P0 hr => (cs_one (cs_try (i := 1) (cl := ["NoRule", "TooMany"]) (tm := C.w__law_asked_11_1) (h := C.h__law_asked_11_1) sc__law_asked.nd T.cat__law_asked_1 rfl (fun Ws pn xe tk => (cb_one (cb_ret (cx_call (ok_read_rule T) tk (hr.mono (by decide)) (ca_cons (ce_var 0) ca_nil) (alen_cons alen_nil))))) (fun a oe C cn pn hC hc hz hf => (cz_one (cz_ret (cz_tell (okz__law_kind T) (roomH_suite hr) (mem_sub hc) hC hz hf rfl List.mem_cons_self))))))) (fun _ _ _ _ _ _ us hl => match us, hl with | [_], _ => rfl)).pure
theorem ok__law_right (T : Txt K mg w) : Glo P w K mg base "_law_right" 168 1 [] (pureF C.g__law_right_10) :=
  (glo_mk (O := []) (Oc := []) (W := []) (U := []) T.d__law_right sc__law_right (fun f cdv A outer s H E P0 hr => (cs_cons (cs_asg (ce_call (ok__law_read T) out2_body (hr.mono (by decide)) (ca_cons (ce_var 0) ca_nil) (alen_cons alen_nil)) (cg_name 1 sc__law_right.nd))
    (cs_cons (cs_asg (ce_call (ok__law_asked T) out2_body (hr.mono (by decide)) (ca_cons (ce_var 0) ca_nil) (alen_cons alen_nil)) (cg_name 2 sc__law_right.nd))
    (cs_cons (cs_if (ct_cmp od_is (ce_var 1) ce_non) (cs_one (cs_ret (ce_cmp (od_eq hr.units) (ce_var 2) ce_str))) cs_nil)
    (cs_cons (cs_if (ct_cmp od_gt (ce_callB cd_len T.z_len bo_len (ca_cons (ce_call (ok__law_named T) out2_body (hr.mono (by decide)) (ca_cons (ce_var 1) ca_nil) (alen_cons alen_nil)) ca_nil)) ce_int) (cs_one (cs_ret (ce_cmp (od_eq hr.units) (ce_var 2) ce_str))) cs_nil)
    (cs_one (cs_ret (ce_call (ok__law_is_rule T) out2_body (hr.mono (by decide)) (ca_cons (ce_var 2) (ca_cons (ce_call (ok__law_due T) out2_body (hr.mono (by decide)) (ca_cons (ce_var 1) (ca_cons (ce_call (ok__law_named T) out2_body (hr.mono (by decide)) (ca_cons (ce_var 1) ca_nil) (alen_cons alen_nil)) ca_nil)) (alen_cons (alen_cons alen_nil))) ca_nil)) (alen_cons (alen_cons alen_nil)))))))))) (fun _ _ _ _ _ _ us hl => match us, hl with | [_], _ => rfl)).pure
theorem ok_law (T : Txt K mg w) {f : Addr} {fd : FuncData} (F : Fun K "law" "law" s_law f fd) : FnOk P w K mg base (L2N.CX P w) 169 f fd ["script"] (spD K mg 1 [] (pureF C.g_law_k12)) :=
  law_fn (Oc := [2]) (W := [2]) F sc_law (fun f cdv A outer s H E P0 hr => (cs_cons (cs_for (U' := []) (vs := [1, 2, 3, 4, 5]) (passes_of rfl) rfl (ci_range1 T.z_range (ca_cons (ce_callB (cd_max rfl) T.z_max bo_max (ca_cons ce_int (ca_cons (ce_callB (cd_min rfl) T.z_min bo_min (ca_cons (ce_callB cd_len T.z_len bo_len (ca_cons (ce_var 0) ca_nil)) (ca_cons ce_int ca_nil))) ca_nil))) ca_nil)) (cg_name 1 sc_law.nd) (cs_cons (cs_own (i := 2) sc_law.nd (ce_call (ok__law_box T) out2_body (hr.mono (by decide)) (ca_cons (ce_var 0) (ca_cons (ce_var 1) ca_nil)) (alen_cons (alen_cons alen_nil))))
    (cs_cons (cs_asg (ce_join ce_str (ce_comp rfl sc_law.nd (ci_range1 T.z_range (ca_cons (ce_callIO (ok__law_take T) [(0, 2)] out2_body (hr.mono (by decide)) (ca_cons (ce_own 2) (ca_cons ce_int ca_nil)) (alen_cons (alen_cons alen_nil))) ca_nil)) (blkOk_by (own := [("j", 6)]) (by kernel_rfl)) (fun P0 s H C cl fp => (cg_name 6 sc_law.nd)) (fun s H C cl fp => cts_nil) (fun P0 s H C cl fp => (ce_ix ce_str (ce_callIO (ok__law_take T) [(0, 2)] Out2.blk (hr.mono (by decide)) (ca_cons (ce_own 2) (ca_cons ce_int ca_nil)) (alen_cons (alen_cons alen_nil))))))) (cg_name 3 sc_law.nd))
    (cs_cons (cs_if (ct_cmp od_gt (ce_callIO (ok__law_take T) [(0, 2)] out2_body (hr.mono (by decide)) (ca_cons (ce_own 2) (ca_cons ce_int ca_nil)) (alen_cons (alen_cons alen_nil))) ce_int) (cs_cons (cs_asg (ce_callIO (ok__law_tree T) [(0, 2)] out2_body (hr.mono (by decide)) (ca_cons (ce_own 2) (ca_cons (ce_lrg1 rfl T.z_list T.z_range (ce_callIO (ok__law_take T) [(0, 2)] out2_body (hr.mono (by decide)) (ca_cons (ce_own 2) (ca_cons ce_int ca_nil)) (alen_cons (alen_cons alen_nil)))) (ca_cons (ce_callIO (ok__law_take T) [(0, 2)] out2_body (hr.mono (by decide)) (ca_cons (ce_own 2) (ca_cons ce_int ca_nil)) (alen_cons (alen_cons alen_nil))) ca_nil))) (alen_cons (alen_cons (alen_cons alen_nil)))) (cg_name 4 sc_law.nd))
    (cs_one (cs_asg (ce_callIO (ok__law_spoilt T) [(0, 2)] out2_body (hr.mono (by decide)) (ca_cons (ce_own 2) (ca_cons (ce_callIO (ok__law_text T) [(0, 2)] out2_body (hr.mono (by decide)) (ca_cons (ce_own 2) (ca_cons (ce_var 4) (ca_cons ce_int ca_nil))) (alen_cons (alen_cons (alen_cons alen_nil)))) ca_nil)) (alen_cons (alen_cons alen_nil))) (cg_name 3 sc_law.nd)))) cs_nil)
    (cs_cons (cs_asg (ce_callIO (ok__law_odd T) [(0, 2)] out2_body (hr.mono (by decide)) (ca_cons (ce_own 2) ca_nil) (alen_cons alen_nil)) (cg_name 5 sc_law.nd))
    (cs_one (cs_if (ct_w (cw_or (ct_not (ct_val (ce_call (ok__law_right T) out2_body (hr.mono (by decide)) (ca_cons (ce_var 3) ca_nil) (alen_cons alen_nil)))) (cw_or1 (ct_w (cw_and (ct_not (ct_val (ce_isi isk_str T.z_isinstance T.z_str (ce_var 5) bo_isinstance bo_str))) (cw_and1 (ct_cmp (od_ne hr.units) (ce_call (ok__law_asked T) out2_body (hr.mono (by decide)) (ca_cons (ce_var 5) ca_nil) (alen_cons alen_nil)) ce_str))))))) (cs_one (cs_ret ce_bl)) cs_nil)))))))
    (cs_one (cs_ret ce_bl))))
end
end K12

namespace K12
theorem good_law : Y.Good C.g_law_k12 63 := H.good_k12
end K12

namespace K12
open PySem PySem.Spec PyProof.Rows L2 Y
theorem all {l : PySem.W.OpenLaw} {w : World} {K : PySem.W.Frag} {h : Heap} {mg : Str → Option Value} {fa : Addr} (X : K.In h) (G : h.Ns mainGlobals mg) (hfa : mg "law" = some (.ref fa)) (hg : Good C.g_law_k12 63)
{f0 : Addr} {od0 an0 : Option Addr} {sl0 : Array (Option Value)} {oc0 kV0 dc0 pm0 cd0 ct0 : Value}
    (a0 : PySem.W.nsIn K mainGlobals "stands_of" = some (some (.ref f0))) (l0 : K.lookup f0 = some ⟨oc0, od0, .func (PySem.W.fnOf "stands_of" "stands_of" (defArgs s_stands_of) (defBody s_stands_of) (defScope s_stands_of) .none kV0 dc0 pm0 an0 cd0 ct0), sl0⟩) (c0 : PySem.W.codeIn K cd0 "stands_of" = true) (k0 : PySem.W.keepIn K (.ref f0) = true)
{f1 : Addr} {od1 an1 : Option Addr} {sl1 : Array (Option Value)} {oc1 kV1 dc1 pm1 cd1 ct1 : Value}
    (a1 : PySem.W.nsIn K mainGlobals "parts_in" = some (some (.ref f1))) (l1 : K.lookup f1 = some ⟨oc1, od1, .func (PySem.W.fnOf "parts_in" "parts_in" (defArgs s_parts_in) (defBody s_parts_in) (defScope s_parts_in) .none kV1 dc1 pm1 an1 cd1 ct1), sl1⟩) (c1 : PySem.W.codeIn K cd1 "parts_in" = true) (k1 : PySem.W.keepIn K (.ref f1) = true)
{f2 : Addr} {od2 an2 : Option Addr} {sl2 : Array (Option Value)} {oc2 kV2 dc2 pm2 cd2 ct2 : Value}
    (a2 : PySem.W.nsIn K mainGlobals "close_bracket" = some (some (.ref f2))) (l2 : K.lookup f2 = some ⟨oc2, od2, .func (PySem.W.fnOf "close_bracket" "close_bracket" (defArgs s_close_bracket) (defBody s_close_bracket) (defScope s_close_bracket) .none kV2 dc2 pm2 an2 cd2 ct2), sl2⟩) (c2 : PySem.W.codeIn K cd2 "close_bracket" = true) (k2 : PySem.W.keepIn K (.ref f2) = true)
{f3 : Addr} {od3 an3 : Option Addr} {sl3 : Array (Option Value)} {oc3 kV3 dc3 pm3 cd3 ct3 : Value}
    (a3 : PySem.W.nsIn K mainGlobals "in_turn" = some (some (.ref f3))) (l3 : K.lookup f3 = some ⟨oc3, od3, .func (PySem.W.fnOf "in_turn" "in_turn" (defArgs s_in_turn) (defBody s_in_turn) (defScope s_in_turn) .none kV3 dc3 pm3 an3 cd3 ct3), sl3⟩) (c3 : PySem.W.codeIn K cd3 "in_turn" = true) (k3 : PySem.W.keepIn K (.ref f3) = true)
{f4 : Addr} {od4 an4 : Option Addr} {sl4 : Array (Option Value)} {oc4 kV4 dc4 pm4 cd4 ct4 : Value}
    (a4 : PySem.W.nsIn K mainGlobals "joined_by" = some (some (.ref f4))) (l4 : K.lookup f4 = some ⟨oc4, od4, .func (PySem.W.fnOf "joined_by" "joined_by" (defArgs s_joined_by) (defBody s_joined_by) (defScope s_joined_by) .none kV4 dc4 pm4 an4 cd4 ct4), sl4⟩) (c4 : PySem.W.codeIn K cd4 "joined_by" = true) (k4 : PySem.W.keepIn K (.ref f4) = true)
{f5 : Addr} {od5 an5 : Option Addr} {sl5 : Array (Option Value)} {oc5 kV5 dc5 pm5 cd5 ct5 : Value}
    (a5 : PySem.W.nsIn K mainGlobals "come_to" = some (some (.ref f5))) (l5 : K.lookup f5 = some ⟨oc5, od5, .func (PySem.W.fnOf "come_to" "come_to" (defArgs s_come_to) (defBody s_come_to) (defScope s_come_to) .none kV5 dc5 pm5 an5 cd5 ct5), sl5⟩) (c5 : PySem.W.codeIn K cd5 "come_to" = true) (k5 : PySem.W.keepIn K (.ref f5) = true)
{f6 : Addr} {od6 an6 : Option Addr} {sl6 : Array (Option Value)} {oc6 kV6 dc6 pm6 cd6 ct6 : Value}
    (a6 : PySem.W.nsIn K mainGlobals "read_rule" = some (some (.ref f6))) (l6 : K.lookup f6 = some ⟨oc6, od6, .func (PySem.W.fnOf "read_rule" "read_rule" (defArgs s_read_rule) (defBody s_read_rule) (defScope s_read_rule) .none kV6 dc6 pm6 an6 cd6 ct6), sl6⟩) (c6 : PySem.W.codeIn K cd6 "read_rule" = true) (k6 : PySem.W.keepIn K (.ref f6) = true)
{f7 : Addr} {od7 an7 : Option Addr} {sl7 : Array (Option Value)} {oc7 kV7 dc7 pm7 cd7 ct7 : Value}
    (a7 : PySem.W.nsIn K mainGlobals "_law_cell" = some (some (.ref f7))) (l7 : K.lookup f7 = some ⟨oc7, od7, .func (PySem.W.fnOf "_law_cell" "_law_cell" (defArgs s__law_cell) (defBody s__law_cell) (defScope s__law_cell) .none kV7 dc7 pm7 an7 cd7 ct7), sl7⟩) (c7 : PySem.W.codeIn K cd7 "_law_cell" = true) (k7 : PySem.W.keepIn K (.ref f7) = true)
{f8 : Addr} {od8 an8 : Option Addr} {sl8 : Array (Option Value)} {oc8 kV8 dc8 pm8 cd8 ct8 : Value}
    (a8 : PySem.W.nsIn K mainGlobals "_law_box" = some (some (.ref f8))) (l8 : K.lookup f8 = some ⟨oc8, od8, .func (PySem.W.fnOf "_law_box" "_law_box" (defArgs s__law_box) (defBody s__law_box) (defScope s__law_box) .none kV8 dc8 pm8 an8 cd8 ct8), sl8⟩) (c8 : PySem.W.codeIn K cd8 "_law_box" = true) (k8 : PySem.W.keepIn K (.ref f8) = true)
{f9 : Addr} {od9 an9 : Option Addr} {sl9 : Array (Option Value)} {oc9 kV9 dc9 pm9 cd9 ct9 : Value}
    (a9 : PySem.W.nsIn K mainGlobals "_law_take" = some (some (.ref f9))) (l9 : K.lookup f9 = some ⟨oc9, od9, .func (PySem.W.fnOf "_law_take" "_law_take" (defArgs s__law_take) (defBody s__law_take) (defScope s__law_take) .none kV9 dc9 pm9 an9 cd9 ct9), sl9⟩) (c9 : PySem.W.codeIn K cd9 "_law_take" = true) (k9 : PySem.W.keepIn K (.ref f9) = true)
{f10 : Addr} {od10 an10 : Option Addr} {sl10 : Array (Option Value)} {oc10 kV10 dc10 pm10 cd10 ct10 : Value}
    (a10 : PySem.W.nsIn K mainGlobals "_law_readings" = some (some (.ref f10))) (l10 : K.lookup f10 = some ⟨oc10, od10, .func (PySem.W.fnOf "_law_readings" "_law_readings" (defArgs s__law_readings) (defBody s__law_readings) (defScope s__law_readings) .none kV10 dc10 pm10 an10 cd10 ct10), sl10⟩) (c10 : PySem.W.codeIn K cd10 "_law_readings" = true) (k10 : PySem.W.keepIn K (.ref f10) = true)
{f11 : Addr} {od11 an11 : Option Addr} {sl11 : Array (Option Value)} {oc11 kV11 dc11 pm11 cd11 ct11 : Value}
    (a11 : PySem.W.nsIn K mainGlobals "_law_bits" = some (some (.ref f11))) (l11 : K.lookup f11 = some ⟨oc11, od11, .func (PySem.W.fnOf "_law_bits" "_law_bits" (defArgs s__law_bits) (defBody s__law_bits) (defScope s__law_bits) .none kV11 dc11 pm11 an11 cd11 ct11), sl11⟩) (c11 : PySem.W.codeIn K cd11 "_law_bits" = true) (k11 : PySem.W.keepIn K (.ref f11) = true)
{f12 : Addr} {od12 an12 : Option Addr} {sl12 : Array (Option Value)} {oc12 kV12 dc12 pm12 cd12 ct12 : Value}
    (a12 : PySem.W.nsIn K mainGlobals "_law_whole" = some (some (.ref f12))) (l12 : K.lookup f12 = some ⟨oc12, od12, .func (PySem.W.fnOf "_law_whole" "_law_whole" (defArgs s__law_whole) (defBody s__law_whole) (defScope s__law_whole) .none kV12 dc12 pm12 an12 cd12 ct12), sl12⟩) (c12 : PySem.W.codeIn K cd12 "_law_whole" = true) (k12 : PySem.W.keepIn K (.ref f12) = true)
{f13 : Addr} {od13 an13 : Option Addr} {sl13 : Array (Option Value)} {oc13 kV13 dc13 pm13 cd13 ct13 : Value}
    (a13 : PySem.W.nsIn K mainGlobals "_law_odd" = some (some (.ref f13))) (l13 : K.lookup f13 = some ⟨oc13, od13, .func (PySem.W.fnOf "_law_odd" "_law_odd" (defArgs s__law_odd) (defBody s__law_odd) (defScope s__law_odd) .none kV13 dc13 pm13 an13 cd13 ct13), sl13⟩) (c13 : PySem.W.codeIn K cd13 "_law_odd" = true) (k13 : PySem.W.keepIn K (.ref f13) = true)
{f14 : Addr} {od14 an14 : Option Addr} {sl14 : Array (Option Value)} {oc14 kV14 dc14 pm14 cd14 ct14 : Value}
    (a14 : PySem.W.nsIn K mainGlobals "_law_tree" = some (some (.ref f14))) (l14 : K.lookup f14 = some ⟨oc14, od14, .func (PySem.W.fnOf "_law_tree" "_law_tree" (defArgs s__law_tree) (defBody s__law_tree) (defScope s__law_tree) .none kV14 dc14 pm14 an14 cd14 ct14), sl14⟩) (c14 : PySem.W.codeIn K cd14 "_law_tree" = true) (k14 : PySem.W.keepIn K (.ref f14) = true)
{f15 : Addr} {od15 an15 : Option Addr} {sl15 : Array (Option Value)} {oc15 kV15 dc15 pm15 cd15 ct15 : Value}
    (a15 : PySem.W.nsIn K mainGlobals "_law_worth" = some (some (.ref f15))) (l15 : K.lookup f15 = some ⟨oc15, od15, .func (PySem.W.fnOf "_law_worth" "_law_worth" (defArgs s__law_worth) (defBody s__law_worth) (defScope s__law_worth) .none kV15 dc15 pm15 an15 cd15 ct15), sl15⟩) (c15 : PySem.W.codeIn K cd15 "_law_worth" = true) (k15 : PySem.W.keepIn K (.ref f15) = true)
{f16 : Addr} {od16 an16 : Option Addr} {sl16 : Array (Option Value)} {oc16 kV16 dc16 pm16 cd16 ct16 : Value}
    (a16 : PySem.W.nsIn K mainGlobals "_law_text" = some (some (.ref f16))) (l16 : K.lookup f16 = some ⟨oc16, od16, .func (PySem.W.fnOf "_law_text" "_law_text" (defArgs s__law_text) (defBody s__law_text) (defScope s__law_text) .none kV16 dc16 pm16 an16 cd16 ct16), sl16⟩) (c16 : PySem.W.codeIn K cd16 "_law_text" = true) (k16 : PySem.W.keepIn K (.ref f16) = true)
{f17 : Addr} {od17 an17 : Option Addr} {sl17 : Array (Option Value)} {oc17 kV17 dc17 pm17 cd17 ct17 : Value}
    (a17 : PySem.W.nsIn K mainGlobals "_law_named" = some (some (.ref f17))) (l17 : K.lookup f17 = some ⟨oc17, od17, .func (PySem.W.fnOf "_law_named" "_law_named" (defArgs s__law_named) (defBody s__law_named) (defScope s__law_named) .none kV17 dc17 pm17 an17 cd17 ct17), sl17⟩) (c17 : PySem.W.codeIn K cd17 "_law_named" = true) (k17 : PySem.W.keepIn K (.ref f17) = true)
{f18 : Addr} {od18 an18 : Option Addr} {sl18 : Array (Option Value)} {oc18 kV18 dc18 pm18 cd18 ct18 : Value}
    (a18 : PySem.W.nsIn K mainGlobals "_law_due" = some (some (.ref f18))) (l18 : K.lookup f18 = some ⟨oc18, od18, .func (PySem.W.fnOf "_law_due" "_law_due" (defArgs s__law_due) (defBody s__law_due) (defScope s__law_due) .none kV18 dc18 pm18 an18 cd18 ct18), sl18⟩) (c18 : PySem.W.codeIn K cd18 "_law_due" = true) (k18 : PySem.W.keepIn K (.ref f18) = true)
{f19 : Addr} {od19 an19 : Option Addr} {sl19 : Array (Option Value)} {oc19 kV19 dc19 pm19 cd19 ct19 : Value}
    (a19 : PySem.W.nsIn K mainGlobals "_law_is_rule" = some (some (.ref f19))) (l19 : K.lookup f19 = some ⟨oc19, od19, .func (PySem.W.fnOf "_law_is_rule" "_law_is_rule" (defArgs s__law_is_rule) (defBody s__law_is_rule) (defScope s__law_is_rule) .none kV19 dc19 pm19 an19 cd19 ct19), sl19⟩) (c19 : PySem.W.codeIn K cd19 "_law_is_rule" = true) (k19 : PySem.W.keepIn K (.ref f19) = true)
{f20 : Addr} {od20 an20 : Option Addr} {sl20 : Array (Option Value)} {oc20 kV20 dc20 pm20 cd20 ct20 : Value}
    (a20 : PySem.W.nsIn K mainGlobals "_law_kind" = some (some (.ref f20))) (l20 : K.lookup f20 = some ⟨oc20, od20, .func (PySem.W.fnOf "_law_kind" "_law_kind" (defArgs s__law_kind) (defBody s__law_kind) (defScope s__law_kind) .none kV20 dc20 pm20 an20 cd20 ct20), sl20⟩) (c20 : PySem.W.codeIn K cd20 "_law_kind" = true) (k20 : PySem.W.keepIn K (.ref f20) = true)
{f21 : Addr} {od21 an21 : Option Addr} {sl21 : Array (Option Value)} {oc21 kV21 dc21 pm21 cd21 ct21 : Value}
    (a21 : PySem.W.nsIn K mainGlobals "_law_factor" = some (some (.ref f21))) (l21 : K.lookup f21 = some ⟨oc21, od21, .func (PySem.W.fnOf "_law_factor" "_law_factor" (defArgs s__law_factor) (defBody s__law_factor) (defScope s__law_factor) .none kV21 dc21 pm21 an21 cd21 ct21), sl21⟩) (c21 : PySem.W.codeIn K cd21 "_law_factor" = true) (k21 : PySem.W.keepIn K (.ref f21) = true)
{f22 : Addr} {od22 an22 : Option Addr} {sl22 : Array (Option Value)} {oc22 kV22 dc22 pm22 cd22 ct22 : Value}
    (a22 : PySem.W.nsIn K mainGlobals "_law_part" = some (some (.ref f22))) (l22 : K.lookup f22 = some ⟨oc22, od22, .func (PySem.W.fnOf "_law_part" "_law_part" (defArgs s__law_part) (defBody s__law_part) (defScope s__law_part) .none kV22 dc22 pm22 an22 cd22 ct22), sl22⟩) (c22 : PySem.W.codeIn K cd22 "_law_part" = true) (k22 : PySem.W.keepIn K (.ref f22) = true)
{f23 : Addr} {od23 an23 : Option Addr} {sl23 : Array (Option Value)} {oc23 kV23 dc23 pm23 cd23 ct23 : Value}
    (a23 : PySem.W.nsIn K mainGlobals "_law_read" = some (some (.ref f23))) (l23 : K.lookup f23 = some ⟨oc23, od23, .func (PySem.W.fnOf "_law_read" "_law_read" (defArgs s__law_read) (defBody s__law_read) (defScope s__law_read) .none kV23 dc23 pm23 an23 cd23 ct23), sl23⟩) (c23 : PySem.W.codeIn K cd23 "_law_read" = true) (k23 : PySem.W.keepIn K (.ref f23) = true)
{f24 : Addr} {od24 an24 : Option Addr} {sl24 : Array (Option Value)} {oc24 kV24 dc24 pm24 cd24 ct24 : Value}
    (a24 : PySem.W.nsIn K mainGlobals "_law_spoilt" = some (some (.ref f24))) (l24 : K.lookup f24 = some ⟨oc24, od24, .func (PySem.W.fnOf "_law_spoilt" "_law_spoilt" (defArgs s__law_spoilt) (defBody s__law_spoilt) (defScope s__law_spoilt) .none kV24 dc24 pm24 an24 cd24 ct24), sl24⟩) (c24 : PySem.W.codeIn K cd24 "_law_spoilt" = true) (k24 : PySem.W.keepIn K (.ref f24) = true)
{f25 : Addr} {od25 an25 : Option Addr} {sl25 : Array (Option Value)} {oc25 kV25 dc25 pm25 cd25 ct25 : Value}
    (a25 : PySem.W.nsIn K mainGlobals "_law_asked" = some (some (.ref f25))) (l25 : K.lookup f25 = some ⟨oc25, od25, .func (PySem.W.fnOf "_law_asked" "_law_asked" (defArgs s__law_asked) (defBody s__law_asked) (defScope s__law_asked) .none kV25 dc25 pm25 an25 cd25 ct25), sl25⟩) (c25 : PySem.W.codeIn K cd25 "_law_asked" = true) (k25 : PySem.W.keepIn K (.ref f25) = true)
{f26 : Addr} {od26 an26 : Option Addr} {sl26 : Array (Option Value)} {oc26 kV26 dc26 pm26 cd26 ct26 : Value}
    (a26 : PySem.W.nsIn K mainGlobals "_law_right" = some (some (.ref f26))) (l26 : K.lookup f26 = some ⟨oc26, od26, .func (PySem.W.fnOf "_law_right" "_law_right" (defArgs s__law_right) (defBody s__law_right) (defScope s__law_right) .none kV26 dc26 pm26 an26 cd26 ct26), sl26⟩) (c26 : PySem.W.codeIn K cd26 "_law_right" = true) (k26 : PySem.W.keepIn K (.ref f26) = true)
{f27 : Addr} {od27 an27 : Option Addr} {sl27 : Array (Option Value)} {oc27 kV27 dc27 pm27 cd27 ct27 : Value}
    (a27 : PySem.W.nsIn K mainGlobals "law" = some (some (.ref f27))) (l27 : K.lookup f27 = some ⟨oc27, od27, .func (PySem.W.fnOf "law" "law" (defArgs s_law) (defBody s_law) (defScope s_law) .none kV27 dc27 pm27 an27 cd27 ct27), sl27⟩) (c27 : PySem.W.codeIn K cd27 "law" = true) (k27 : PySem.W.keepIn K (.ref f27) = true)
    {tk0 : Tok} (u0 : PySem.W.nsIn K mainGlobals "FIGURES" = some (some (.str "01234567" tk0)))
    {tk1 : Tok} (u1 : PySem.W.nsIn K mainGlobals "MOST_EARS" = some (some (.int 4 tk1)))
    {tA0 : Addr} {tE0 : Array DictEntry} {tN0 : Nat} (tu0 : PySem.W.nsIn K mainGlobals "STRENGTH" = some (some (.ref tA0))) (tl0 : K.lookup tA0 = some ⟨.type "dict", none, .dict tE0 tN0, #[]⟩) (tq0 : PySem.W.KeysLit w.params tE0.toList) {tT0_0 : Tok} (tv0_0 : PySem.W.nsIn K tA0 "!" = some (some (.int 4 tT0_0))) {tT0_1 : Tok} (tv0_1 : PySem.W.nsIn K tA0 "&" = some (some (.int 3 tT0_1))) {tT0_2 : Tok} (tv0_2 : PySem.W.nsIn K tA0 "^" = some (some (.int 2 tT0_2))) {tT0_3 : Tok} (tv0_3 : PySem.W.nsIn K tA0 "|" = some (some (.int 1 tT0_3))) {tT0_4 : Tok} (tv0_4 : PySem.W.nsIn K tA0 "(" = some (some (.int 0 tT0_4)))
    {C0 : Addr} (x0 : PySem.W.nsIn K mainGlobals "NoRule" = some (some (.ref C0))) (xe0 : PySem.W.excIn K C0 Y.veB "ValueError.__new__" = true) (xk0 : PySem.W.keepIn K (.ref C0) = true) (xb0 : PySem.W.subIn K (.ref C0) (.type "BaseException") = some true) (xt0 : PySem.W.typeIn K (.ref C0) = some (.type "type"))
    {C1 : Addr} (x1 : PySem.W.nsIn K mainGlobals "TooMany" = some (some (.ref C1))) (xe1 : PySem.W.excIn K C1 Y.veB "ValueError.__new__" = true) (xk1 : PySem.W.keepIn K (.ref C1) = true) (xb1 : PySem.W.subIn K (.ref C1) (.type "BaseException") = some true) (xt1 : PySem.W.typeIn K (.ref C1) = some (.type "type"))
    {N0 : Addr} (n0 : PySem.W.nsIn K mainGlobals "Hears" = some (some (.ref N0)))
    {N1 : Addr} (n1 : PySem.W.nsIn K mainGlobals "NetError" = some (some (.ref N1)))
    {N2 : Addr} (n2 : PySem.W.nsIn K mainGlobals "NoDen" = some (some (.ref N2)))
    {N3 : Addr} (n3 : PySem.W.nsIn K mainGlobals "NoFrame" = some (some (.ref N3)))
    {N4 : Addr} (n4 : PySem.W.nsIn K mainGlobals "NoHolds" = some (some (.ref N4)))
    {N5 : Addr} (n5 : PySem.W.nsIn K mainGlobals "NoOrder" = some (some (.ref N5)))
    {N6 : Addr} (n6 : PySem.W.nsIn K mainGlobals "NoRow" = some (some (.ref N6)))
    {N7 : Addr} (n7 : PySem.W.nsIn K mainGlobals "NoSeen" = some (some (.ref N7)))
    {N8 : Addr} (n8 : PySem.W.nsIn K mainGlobals "NoStand" = some (some (.ref N8)))
    {N9 : Addr} (n9 : PySem.W.nsIn K mainGlobals "NoSwitch" = some (some (.ref N9)))
    {N10 : Addr} (n10 : PySem.W.nsIn K mainGlobals "NoText" = some (some (.ref N10)))
    (hg0 : PySem.W.findIn K (.ref C0) "__getattribute__" = some (some (.builtin "BaseException.__getattribute__"))) (hk0 : PySem.W.findIn K (.ref C0) "__getattr__" = some none) (hs0 : PySem.W.subIn K (.ref C0) (.type "BaseException") = some true) (hd0 : PySem.W.hasDictIn K C0 = true) (ha0 : PySem.W.findIn K (.ref C0) "__class__" = some (some (.builtin "object.__class__"))) (hn0 : PySem.W.specialIn K (.builtin "object.__class__") "__get__" = some (some (.builtin "getset_descriptor.__get__"))) (ht0 : PySem.W.takesIn K (.builtin "object.__class__") = some true) (hm0 : PySem.W.mroIn K C0 (.type "object") = some true)
    (hg1 : PySem.W.findIn K (.ref C1) "__getattribute__" = some (some (.builtin "BaseException.__getattribute__"))) (hk1 : PySem.W.findIn K (.ref C1) "__getattr__" = some none) (hs1 : PySem.W.subIn K (.ref C1) (.type "BaseException") = some true) (hd1 : PySem.W.hasDictIn K C1 = true) (ha1 : PySem.W.findIn K (.ref C1) "__class__" = some (some (.builtin "object.__class__"))) (hn1 : PySem.W.specialIn K (.builtin "object.__class__") "__get__" = some (some (.builtin "getset_descriptor.__get__"))) (ht1 : PySem.W.takesIn K (.builtin "object.__class__") = some true) (hm1 : PySem.W.mroIn K C1 (.type "object") = some true)
    (td0 : PySem.W.hasDictIn K N0 = true) (tt0 : PySem.W.typeIn K (.ref N0) = some (.type "type")) (tb0 : PySem.W.subIn K (.ref N0) (.type "BaseException") = some true)
    (td1 : PySem.W.hasDictIn K N1 = true) (tt1 : PySem.W.typeIn K (.ref N1) = some (.type "type")) (tb1 : PySem.W.subIn K (.ref N1) (.type "BaseException") = some true)
    (td2 : PySem.W.hasDictIn K N2 = true) (tt2 : PySem.W.typeIn K (.ref N2) = some (.type "type")) (tb2 : PySem.W.subIn K (.ref N2) (.type "BaseException") = some true)
    (td3 : PySem.W.hasDictIn K N3 = true) (tt3 : PySem.W.typeIn K (.ref N3) = some (.type "type")) (tb3 : PySem.W.subIn K (.ref N3) (.type "BaseException") = some true)
    (td4 : PySem.W.hasDictIn K N4 = true) (tt4 : PySem.W.typeIn K (.ref N4) = some (.type "type")) (tb4 : PySem.W.subIn K (.ref N4) (.type "BaseException") = some true)
    (td5 : PySem.W.hasDictIn K N5 = true) (tt5 : PySem.W.typeIn K (.ref N5) = some (.type "type")) (tb5 : PySem.W.subIn K (.ref N5) (.type "BaseException") = some true)
    (td6 : PySem.W.hasDictIn K N6 = true) (tt6 : PySem.W.typeIn K (.ref N6) = some (.type "type")) (tb6 : PySem.W.subIn K (.ref N6) (.type "BaseException") = some true)
    (td7 : PySem.W.hasDictIn K C0 = true) (tt7 : PySem.W.typeIn K (.ref C0) = some (.type "type")) (tb7 : PySem.W.subIn K (.ref C0) (.type "BaseException") = some true)
    (td8 : PySem.W.hasDictIn K N7 = true) (tt8 : PySem.W.typeIn K (.ref N7) = some (.type "type")) (tb8 : PySem.W.subIn K (.ref N7) (.type "BaseException") = some true)
    (td9 : PySem.W.hasDictIn K N8 = true) (tt9 : PySem.W.typeIn K (.ref N8) = some (.type "type")) (tb9 : PySem.W.subIn K (.ref N8) (.type "BaseException") = some true)
    (td10 : PySem.W.hasDictIn K N9 = true) (tt10 : PySem.W.typeIn K (.ref N9) = some (.type "type")) (tb10 : PySem.W.subIn K (.ref N9) (.type "BaseException") = some true)
    (td11 : PySem.W.hasDictIn K N10 = true) (tt11 : PySem.W.typeIn K (.ref N10) = some (.type "type")) (tb11 : PySem.W.subIn K (.ref N10) (.type "BaseException") = some true)
    (td12 : PySem.W.hasDictIn K C1 = true) (tt12 : PySem.W.typeIn K (.ref C1) = some (.type "type")) (tb12 : PySem.W.subIn K (.ref C1) (.type "BaseException") = some true)
    (self0 : PySem.W.subIn K (.ref C0) (.ref C0) = some true)
    (self1 : PySem.W.subIn K (.ref C1) (.ref C1) = some true)
    (kx0 : PySem.W.subIn K (.ref C0) (.ref N1) = some true)
    (kx1 : PySem.W.subIn K (.ref C1) (.ref N1) = some true)
    (ki0 : PySem.W.subIn K (.ref C0) (.ref N0) = some false)
    (ki1 : PySem.W.subIn K (.ref C0) (.ref N2) = some false)
    (ki2 : PySem.W.subIn K (.ref C0) (.ref N3) = some false)
    (ki3 : PySem.W.subIn K (.ref C0) (.ref N4) = some false)
    (ki4 : PySem.W.subIn K (.ref C0) (.ref N5) = some false)
    (ki5 : PySem.W.subIn K (.ref C0) (.ref N6) = some false)
    (ki6 : PySem.W.subIn K (.ref C0) (.ref C0) = some true)
    (ki7 : PySem.W.subIn K (.ref C0) (.ref N7) = some false)
    (ki8 : PySem.W.subIn K (.ref C0) (.ref N8) = some false)
    (ki9 : PySem.W.subIn K (.ref C0) (.ref N9) = some false)
    (ki10 : PySem.W.subIn K (.ref C0) (.ref N10) = some false)
    (ki11 : PySem.W.subIn K (.ref C0) (.ref C1) = some false)
    (ki12 : PySem.W.subIn K (.ref C1) (.ref N0) = some false)
    (ki13 : PySem.W.subIn K (.ref C1) (.ref N2) = some false)
    (ki14 : PySem.W.subIn K (.ref C1) (.ref N3) = some false)
    (ki15 : PySem.W.subIn K (.ref C1) (.ref N4) = some false)
    (ki16 : PySem.W.subIn K (.ref C1) (.ref N5) = some false)
    (ki17 : PySem.W.subIn K (.ref C1) (.ref N6) = some false)
    (ki18 : PySem.W.subIn K (.ref C1) (.ref C0) = some false)
    (ki19 : PySem.W.subIn K (.ref C1) (.ref N7) = some false)
    (ki20 : PySem.W.subIn K (.ref C1) (.ref N8) = some false)
    (ki21 : PySem.W.subIn K (.ref C1) (.ref N9) = some false)
    (ki22 : PySem.W.subIn K (.ref C1) (.ref N10) = some false)
    (ki23 : PySem.W.subIn K (.ref C1) (.ref C1) = some true)
    (kv0 : PySem.W.subIn K (.ref C0) (.type "ValueError") = some true)
    (kv1 : PySem.W.subIn K (.ref C1) (.type "ValueError") = some true)
    (z0 : PySem.W.nsIn K mainGlobals "ValueError" = some none)
    (z1 : PySem.W.nsIn K mainGlobals "all" = some none)
    (z2 : PySem.W.nsIn K mainGlobals "bool" = some none)
    (z3 : PySem.W.nsIn K mainGlobals "dict" = some none)
    (z4 : PySem.W.nsIn K mainGlobals "int" = some none)
    (z5 : PySem.W.nsIn K mainGlobals "isinstance" = some none)
    (z6 : PySem.W.nsIn K mainGlobals "len" = some none)
    (z7 : PySem.W.nsIn K mainGlobals "list" = some none)
    (z8 : PySem.W.nsIn K mainGlobals "max" = some none)
    (z9 : PySem.W.nsIn K mainGlobals "min" = some none)
    (z10 : PySem.W.nsIn K mainGlobals "range" = some none)
    (z11 : PySem.W.nsIn K mainGlobals "set" = some none)
    (z12 : PySem.W.nsIn K mainGlobals "sorted" = some none)
    (z13 : PySem.W.nsIn K mainGlobals "str" = some none)
    (z14 : PySem.W.nsIn K mainGlobals "sum" = some none)
    (z15 : PySem.W.nsIn K mainGlobals "tuple" = some none)
    (z16 : PySem.W.nsIn K mainGlobals "zip" = some none)
    : ∃ fd : FuncData, (∀ (s : Shared) (u : Value), BindsTo s fd ⟨[u], []⟩ [("script", u)]) ∧ ∀ base : Heap, K.In base → base.Ns mainGlobals mg → FnOk l.prog w K mg base (L2N.CX l.prog w) 169 fa fd ["script"] (spL K 63) :=
  have T : Txt K mg w := ⟨def_mk X G a0 l0 c0 k0, def_mk X G a1 l1 c1 k1, def_mk X G a2 l2 c2 k2, def_mk X G a3 l3 c3 k3, def_mk X G a4 l4 c4 k4, def_mk X G a5 l5 c5 k5, def_mk X G a6 l6 c6 k6, def_mk X G a7 l7 c7 k7, def_mk X G a8 l8 c8 k8, def_mk X G a9 l9 c9 k9, def_mk X G a10 l10 c10 k10, def_mk X G a11 l11 c11 k11, def_mk X G a12 l12 c12 k12, def_mk X G a13 l13 c13 k13, def_mk X G a14 l14 c14 k14, def_mk X G a15 l15 c15 k15, def_mk X G a16 l16 c16 k16, def_mk X G a17 l17 c17 k17, def_mk X G a18 l18 c18 k18, def_mk X G a19 l19 c19 k19, def_mk X G a20 l20 c20 k20, def_mk X G a21 l21 c21 k21, def_mk X G a22 l22 c22 k22, def_mk X G a23 l23 c23 k23, def_mk X G a24 l24 c24 k24, def_mk X G a25 l25 c25 k25, def_mk X G a26 l26 c26 k26, ⟨_, PySem.W.mg_of X G u0⟩, ⟨_, PySem.W.mg_of X G u1⟩, tabK_of (PySem.W.mg_of X G tu0) (all_cons (kdct_of tl0 tq0 tv0_0) (all_cons (kdct_of tl0 tq0 tv0_1) (all_cons (kdct_of tl0 tq0 tv0_2) (all_cons (kdct_of tl0 tq0 tv0_3) (all_cons (kdct_of tl0 tq0 tv0_4) all_nil))))), ⟨⟨_, PySem.W.mg_of X G x0, xe0, xk0, xb0, xt0⟩⟩, ⟨⟨_, PySem.W.mg_of X G x1, xe1, xk1, xb1, xt1⟩⟩, PySem.W.mg_none_of X G z0, PySem.W.mg_none_of X G z1, PySem.W.mg_none_of X G z2, PySem.W.mg_none_of X G z3, PySem.W.mg_none_of X G z4, PySem.W.mg_none_of X G z5, PySem.W.mg_none_of X G z6, PySem.W.mg_none_of X G z7, PySem.W.mg_none_of X G z8, PySem.W.mg_none_of X G z9, PySem.W.mg_none_of X G z10, PySem.W.mg_none_of X G z11, PySem.W.mg_none_of X G z12, PySem.W.mg_none_of X G z13, PySem.W.mg_none_of X G z14, PySem.W.mg_none_of X G z15, PySem.W.mg_none_of X G z16, ⟨⟨_, PySem.W.mg_of X G n1, (all_cons ⟨C0, PySem.W.mg_of X G x0, PySem.W.exm_ref tb1 td1 tt1 kx0⟩ (all_cons ⟨C1, PySem.W.mg_of X G x1, PySem.W.exm_ref tb1 td1 tt1 kx1⟩ all_nil))⟩⟩, (all_cons ⟨⟨C0, PySem.W.mg_of X G x0, ⟨hg0, hk0, hs0, hd0, ha0, hn0, ht0, hm0⟩⟩⟩ (all_cons ⟨⟨C1, PySem.W.mg_of X G x1, ⟨hg1, hk1, hs1, hd1, ha1, hn1, ht1, hm1⟩⟩⟩ all_nil)), ⟨⟨_, PySem.W.mg_of X G n1, (all_cons ⟨C0, PySem.W.mg_of X G x0, PySem.W.exm_ref tb1 td1 tt1 kx0⟩ (all_cons ⟨C1, PySem.W.mg_of X G x1, PySem.W.exm_ref tb1 td1 tt1 kx1⟩ all_nil))⟩⟩, (all_cons ⟨⟨C0, PySem.W.mg_of X G x0, ⟨hg0, hk0, hs0, hd0, ha0, hn0, ht0, hm0⟩⟩⟩ (all_cons ⟨⟨C1, PySem.W.mg_of X G x1, ⟨hg1, hk1, hs1, hd1, ha1, hn1, ht1, hm1⟩⟩⟩ all_nil)), ⟨PySem.W.mg_none_of X G z0, (all_cons ⟨C0, PySem.W.mg_of X G x0, kit_ve kv0⟩ (all_cons ⟨C1, PySem.W.mg_of X G x1, kit_ve kv1⟩ all_nil))⟩, ⟨⟨_, PySem.W.mg_of X G n0, (all_cons ⟨C0, PySem.W.mg_of X G x0, isi_of (kit_own self0 td0 tt0 ki0)⟩ (all_cons ⟨C1, PySem.W.mg_of X G x1, isi_of (kit_own self1 td0 tt0 ki12)⟩ all_nil))⟩⟩, ⟨⟨_, PySem.W.mg_of X G n2, (all_cons ⟨C0, PySem.W.mg_of X G x0, isi_of (kit_own self0 td2 tt2 ki1)⟩ (all_cons ⟨C1, PySem.W.mg_of X G x1, isi_of (kit_own self1 td2 tt2 ki13)⟩ all_nil))⟩⟩, ⟨⟨_, PySem.W.mg_of X G n3, (all_cons ⟨C0, PySem.W.mg_of X G x0, isi_of (kit_own self0 td3 tt3 ki2)⟩ (all_cons ⟨C1, PySem.W.mg_of X G x1, isi_of (kit_own self1 td3 tt3 ki14)⟩ all_nil))⟩⟩, ⟨⟨_, PySem.W.mg_of X G n4, (all_cons ⟨C0, PySem.W.mg_of X G x0, isi_of (kit_own self0 td4 tt4 ki3)⟩ (all_cons ⟨C1, PySem.W.mg_of X G x1, isi_of (kit_own self1 td4 tt4 ki15)⟩ all_nil))⟩⟩, ⟨⟨_, PySem.W.mg_of X G n5, (all_cons ⟨C0, PySem.W.mg_of X G x0, isi_of (kit_own self0 td5 tt5 ki4)⟩ (all_cons ⟨C1, PySem.W.mg_of X G x1, isi_of (kit_own self1 td5 tt5 ki16)⟩ all_nil))⟩⟩, ⟨⟨_, PySem.W.mg_of X G n6, (all_cons ⟨C0, PySem.W.mg_of X G x0, isi_of (kit_own self0 td6 tt6 ki5)⟩ (all_cons ⟨C1, PySem.W.mg_of X G x1, isi_of (kit_own self1 td6 tt6 ki17)⟩ all_nil))⟩⟩, ⟨⟨_, PySem.W.mg_of X G x0, (all_cons ⟨C0, PySem.W.mg_of X G x0, isi_of (kit_own self0 td7 tt7 ki6)⟩ (all_cons ⟨C1, PySem.W.mg_of X G x1, isi_of (kit_own self1 td7 tt7 ki18)⟩ all_nil))⟩⟩, ⟨⟨_, PySem.W.mg_of X G n7, (all_cons ⟨C0, PySem.W.mg_of X G x0, isi_of (kit_own self0 td8 tt8 ki7)⟩ (all_cons ⟨C1, PySem.W.mg_of X G x1, isi_of (kit_own self1 td8 tt8 ki19)⟩ all_nil))⟩⟩, ⟨⟨_, PySem.W.mg_of X G n8, (all_cons ⟨C0, PySem.W.mg_of X G x0, isi_of (kit_own self0 td9 tt9 ki8)⟩ (all_cons ⟨C1, PySem.W.mg_of X G x1, isi_of (kit_own self1 td9 tt9 ki20)⟩ all_nil))⟩⟩, ⟨⟨_, PySem.W.mg_of X G n9, (all_cons ⟨C0, PySem.W.mg_of X G x0, isi_of (kit_own self0 td10 tt10 ki9)⟩ (all_cons ⟨C1, PySem.W.mg_of X G x1, isi_of (kit_own self1 td10 tt10 ki21)⟩ all_nil))⟩⟩, ⟨⟨_, PySem.W.mg_of X G n10, (all_cons ⟨C0, PySem.W.mg_of X G x0, isi_of (kit_own self0 td11 tt11 ki10)⟩ (all_cons ⟨C1, PySem.W.mg_of X G x1, isi_of (kit_own self1 td11 tt11 ki22)⟩ all_nil))⟩⟩, ⟨⟨_, PySem.W.mg_of X G x1, (all_cons ⟨C0, PySem.W.mg_of X G x0, isi_of (kit_own self0 td12 tt12 ki11)⟩ (all_cons ⟨C1, PySem.W.mg_of X G x1, isi_of (kit_own self1 td12 tt12 ki23)⟩ all_nil))⟩⟩⟩
  law_all X G hfa hg (fun base {f} {fd} F => ok_law T F) (fun _ _ _ _ _ _ s u => .of_eq rfl) a27 l27 c27 k27
end K12
open PySem PySem.W PyProof.Rows
set_option maxHeartbeats 0 in
theorem PySem.Challenge.cw_switchnets_k12_formulas_and_others_holds : PySem.Challenge.rw_switchnets_k12_formulas_and_others.Holds := by
  w_on; o_law; k_head; (case hw => w_witness2)
  k_fill
  refine L2.walk_ofB (l := PySem.Challenge.rw_switchnets_k12_formulas_and_others) (n := 63) (k := 169) (x := "script") (CX := fun w => L2N.CX PySem.Challenge.rw_switchnets_k12_formulas_and_others.prog w) (sp := fun w => Y.spL _ 63) rfl (by decide) rfl ⟨rfl, by decide, by decide⟩ (fun w h Z => PySem.W.kIn_of Z) ?F (fun _ _ a ns hl hb _ hS => ⟨a, ns, rfl, hS, hl, hb, fun _ => rfl⟩) (fun _ _ _ _ _ h => Y.cx_none h)
  case F =>
    intro w mg fa h KX G hmg
    refine' K12.all KX G hmg K12.good_law ?a0 ?l0 ?c0 ?k0 ?a1 ?l1 ?c1 ?k1 ?a2 ?l2 ?c2 ?k2 ?a3 ?l3 ?c3 ?k3 ?a4 ?l4 ?c4 ?k4 ?a5 ?l5 ?c5 ?k5 ?a6 ?l6 ?c6 ?k6 ?a7 ?l7 ?c7 ?k7 ?a8 ?l8 ?c8 ?k8 ?a9 ?l9 ?c9 ?k9 ?a10 ?l10 ?c10 ?k10 ?a11 ?l11 ?c11 ?k11 ?a12 ?l12 ?c12 ?k12 ?a13 ?l13 ?c13 ?k13 ?a14 ?l14 ?c14 ?k14 ?a15 ?l15 ?c15 ?k15 ?a16 ?l16 ?c16 ?k16 ?a17 ?l17 ?c17 ?k17 ?a18 ?l18 ?c18 ?k18 ?a19 ?l19 ?c19 ?k19 ?a20 ?l20 ?c20 ?k20 ?a21 ?l21 ?c21 ?k21 ?a22 ?l22 ?c22 ?k22 ?a23 ?l23 ?c23 ?k23 ?a24 ?l24 ?c24 ?k24 ?a25 ?l25 ?c25 ?k25 ?a26 ?l26 ?c26 ?k26 ?a27 ?l27 ?c27 ?k27 ?u0 ?u1 ?tu0 ?tl0 ?tq0 ?tv0_0 ?tv0_1 ?tv0_2 ?tv0_3 ?tv0_4 ?x0 ?xe0 ?xk0 ?xb0 ?xt0 ?x1 ?xe1 ?xk1 ?xb1 ?xt1 ?n0 ?n1 ?n2 ?n3 ?n4 ?n5 ?n6 ?n7 ?n8 ?n9 ?n10 ?hg0 ?hk0 ?hs0 ?hd0 ?ha0 ?hn0 ?ht0 ?hm0 ?hg1 ?hk1 ?hs1 ?hd1 ?ha1 ?hn1 ?ht1 ?hm1 ?td0 ?tt0 ?tb0 ?td1 ?tt1 ?tb1 ?td2 ?tt2 ?tb2 ?td3 ?tt3 ?tb3 ?td4 ?tt4 ?tb4 ?td5 ?tt5 ?tb5 ?td6 ?tt6 ?tb6 ?td7 ?tt7 ?tb7 ?td8 ?tt8 ?tb8 ?td9 ?tt9 ?tb9 ?td10 ?tt10 ?tb10 ?td11 ?tt11 ?tb11 ?td12 ?tt12 ?tb12 ?self0 ?self1 ?kx0 ?kx1 ?ki0 ?ki1 ?ki2 ?ki3 ?ki4 ?ki5 ?ki6 ?ki7 ?ki8 ?ki9 ?ki10 ?ki11 ?ki12 ?ki13 ?ki14 ?ki15 ?ki16 ?ki17 ?ki18 ?ki19 ?ki20 ?ki21 ?ki22 ?ki23 ?kv0 ?kv1 ?z0 ?z1 ?z2 ?z3 ?z4 ?z5 ?z6 ?z7 ?z8 ?z9 ?z10 ?z11 ?z12 ?z13 ?z14 ?z15 ?z16
    (case a0 => k_is); (case l0 => k_is); (case c0 => k_is); (case k0 => k_is); (case a1 => k_is); (case l1 => k_is); (case c1 => k_is); (case k1 => k_is); (case a2 => k_is); (case l2 => k_is); (case c2 => k_is); (case k2 => k_is); (case a3 => k_is); (case l3 => k_is); (case c3 => k_is); (case k3 => k_is); (case a4 => k_is); (case l4 => k_is); (case c4 => k_is); (case k4 => k_is); (case a5 => k_is); (case l5 => k_is); (case c5 => k_is); (case k5 => k_is); (case a6 => k_is); (case l6 => k_is); (case c6 => k_is); (case k6 => k_is); (case a7 => k_is); (case l7 => k_is); (case c7 => k_is); (case k7 => k_is); (case a8 => k_is); (case l8 => k_is); (case c8 => k_is); (case k8 => k_is); (case a9 => k_is); (case l9 => k_is); (case c9 => k_is); (case k9 => k_is); (case a10 => k_is); (case l10 => k_is); (case c10 => k_is); (case k10 => k_is); (case a11 => k_is); (case l11 => k_is); (case c11 => k_is); (case k11 => k_is); (case a12 => k_is); (case l12 => k_is); (case c12 => k_is); (case k12 => k_is); (case a13 => k_is); (case l13 => k_is); (case c13 => k_is); (case k13 => k_is); (case a14 => k_is); (case l14 => k_is); (case c14 => k_is); (case k14 => k_is); (case a15 => k_is); (case l15 => k_is); (case c15 => k_is); (case k15 => k_is); (case a16 => k_is); (case l16 => k_is); (case c16 => k_is); (case k16 => k_is); (case a17 => k_is); (case l17 => k_is); (case c17 => k_is); (case k17 => k_is); (case a18 => k_is); (case l18 => k_is); (case c18 => k_is); (case k18 => k_is); (case a19 => k_is); (case l19 => k_is); (case c19 => k_is); (case k19 => k_is); (case a20 => k_is); (case l20 => k_is); (case c20 => k_is); (case k20 => k_is); (case a21 => k_is); (case l21 => k_is); (case c21 => k_is); (case k21 => k_is); (case a22 => k_is); (case l22 => k_is); (case c22 => k_is); (case k22 => k_is); (case a23 => k_is); (case l23 => k_is); (case c23 => k_is); (case k23 => k_is); (case a24 => k_is); (case l24 => k_is); (case c24 => k_is); (case k24 => k_is); (case a25 => k_is); (case l25 => k_is); (case c25 => k_is); (case k25 => k_is); (case a26 => k_is); (case l26 => k_is); (case c26 => k_is); (case k26 => k_is); (case a27 => k_is); (case l27 => k_is); (case c27 => k_is); (case k27 => k_is); (case u0 => k_is); (case u1 => k_is); (case tu0 => k_is); (case tl0 => k_is); (case tq0 => exact ⟨⟨_, _, rfl, rfl⟩, ⟨_, _, rfl, rfl⟩, ⟨_, _, rfl, rfl⟩, ⟨_, _, rfl, rfl⟩, ⟨_, _, rfl, rfl⟩, trivial⟩); (case tv0_0 => k_is); (case tv0_1 => k_is); (case tv0_2 => k_is); (case tv0_3 => k_is); (case tv0_4 => k_is); (case x0 => k_is); (case xe0 => k_exc); (case xk0 => k_is); (case xb0 => k_is); (case xt0 => k_is); (case x1 => k_is); (case xe1 => k_exc); (case xk1 => k_is); (case xb1 => k_is); (case xt1 => k_is); (case n0 => k_is); (case n1 => k_is); (case n2 => k_is); (case n3 => k_is); (case n4 => k_is); (case n5 => k_is); (case n6 => k_is); (case n7 => k_is); (case n8 => k_is); (case n9 => k_is); (case n10 => k_is); (case hg0 => k_is); (case hk0 => k_is); (case hs0 => k_is); (case hd0 => k_is); (case ha0 => k_is); (case hn0 => k_is); (case ht0 => k_is); (case hm0 => k_is); (case hg1 => k_is); (case hk1 => k_is); (case hs1 => k_is); (case hd1 => k_is); (case ha1 => k_is); (case hn1 => k_is); (case ht1 => k_is); (case hm1 => k_is); (case td0 => k_is); (case tt0 => k_is); (case tb0 => k_is); (case td1 => k_is); (case tt1 => k_is); (case tb1 => k_is); (case td2 => k_is); (case tt2 => k_is); (case tb2 => k_is); (case td3 => k_is); (case tt3 => k_is); (case tb3 => k_is); (case td4 => k_is); (case tt4 => k_is); (case tb4 => k_is); (case td5 => k_is); (case tt5 => k_is); (case tb5 => k_is); (case td6 => k_is); (case tt6 => k_is); (case tb6 => k_is); (case td7 => k_is); (case tt7 => k_is); (case tb7 => k_is); (case td8 => k_is); (case tt8 => k_is); (case tb8 => k_is); (case td9 => k_is); (case tt9 => k_is); (case tb9 => k_is); (case td10 => k_is); (case tt10 => k_is); (case tb10 => k_is); (case td11 => k_is); (case tt11 => k_is); (case tb11 => k_is); (case td12 => k_is); (case tt12 => k_is); (case tb12 => k_is); (case self0 => k_is); (case self1 => k_is); (case kx0 => k_is); (case kx1 => k_is); (case ki0 => k_is); (case ki1 => k_is); (case ki2 => k_is); (case ki3 => k_is); (case ki4 => k_is); (case ki5 => k_is); (case ki6 => k_is); (case ki7 => k_is); (case ki8 => k_is); (case ki9 => k_is); (case ki10 => k_is); (case ki11 => k_is); (case ki12 => k_is); (case ki13 => k_is); (case ki14 => k_is); (case ki15 => k_is); (case ki16 => k_is); (case ki17 => k_is); (case ki18 => k_is); (case ki19 => k_is); (case ki20 => k_is); (case ki21 => k_is); (case ki22 => k_is); (case ki23 => k_is); (case kv0 => k_is); (case kv1 => k_is); (case z0 => k_is); (case z1 => k_is); (case z2 => k_is); (case z3 => k_is); (case z4 => k_is); (case z5 => k_is); (case z6 => k_is); (case z7 => k_is); (case z8 => k_is); (case z9 => k_is); (case z10 => k_is); (case z11 => k_is); (case z12 => k_is); (case z13 => k_is); (case z14 => k_is); (case z15 => k_is); (case z16 => k_is)

